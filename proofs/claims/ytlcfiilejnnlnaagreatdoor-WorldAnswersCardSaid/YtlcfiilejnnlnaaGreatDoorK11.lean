/- A part of the proof: Uc Ug Bt Ls Ea Eb Ya Yb Ys Yc Ec Ye Yf Yg Yh Yi Yj Yk Yl Ym. -/
import Derived.Test.YtlcfiilejnnlnaaGreatDoorK10
import Derived.Scope
set_option maxRecDepth 100000
set_option maxHeartbeats 20000000
set_option linter.all false
namespace Go.Proofs.YtlcfiilejnnlnaaGreatDoor
open Tryz
section
open Go
def posB:Nat->Nat
 | 0=>20
 | d+1=>20+2*posB d
def aN4:Nat->Nat
 | 0=>1
 | d+1=>1+2*aN4 d
theorem cc7 (d:Nat):20<=posB d:=by cases d<;>simp [posB]
theorem bL2 (d:Nat):1<=aN4 d:=by cases d<;>simp [aN4]
abbrev zC:List D:=[.v (zv (ZV.int IntKind.i64)),.v (zv ZV.sl),.v (zv ZV.sl),.v (zv ZV.sl),.v (zv (ZV.int IntKind.i64))]
def SlOf (d:D) (p:List ByteArray):Prop:=d=slS p\/(d = .v (.slice none 0 0)/\p=[])
theorem SlOf.vd {σ τ:aa1} {d:D} {p:List ByteArray} (h:SlOf d p) (hs:∀ b,b∈aa6 τ->b∈aa6 σ):Vd σ τ d (slS p):=by
 rcases h with rfl|⟨rfl,rfl⟩
 ·exact Vd.same hs _
 ·exact Vd.nil _
theorem aJ8 {P:Program} {T:TypeId->Option TI} {f:Frm} {σ:aa1} {o:Oper} {t e:TypeId} {m k by_:Nat} {ps:Array (Nat × Operand)} {i j:TI} {ag:Bool} {out:List D} {L:List (List D)} {K:D->Prop} {B:Prop} (ho:o.op = .buildSlice t m ps) (ht:T t=some i) (hs:i.sl=some (e,ag,k,by_)) (he:T e=some j)
  (hc:(Nat.beq j.zero.length j.size&&Nat.beq j.size k&&Nat.blt 0 k&&Nat.ble (m*k) 1000)=true) (hF:aS3 (fun q=>some (q*k,k)) (aG3 j.zero k m) (ps.toList.map fun p=>(p.1,evF f p.2))=some out) (hl:(out.length==m*k)=true) (hL:aQ9 k m out=L) (h:W (aH9 L fun l=>K (.sl k l))):Bx (exY P T o f σ K) B:=by
 obtain⟨dst,op,ty,pos,aft,g⟩:=o;simp only at ho;subst ho;subst hL;refine Bx.l ⟨?_⟩;simp only [exY,ht,hs,he,hc,hF,hl,cond_true];exact h.h
def opsC:List Int:=[0,1,2,2,1,3,4,5]
theorem bD7:∀ d,d<=posB d
 | 0=>zW _
 | d+1=>by have:=bD7 d;simp only [posB];omega
theorem bd8 {d:Nat} (h:1<=d):posB d=20+2*posB (d-1):=by
 obtain⟨e,rfl⟩:∃ e,d=e+1:=⟨d-1,by omega⟩
 rfl
theorem aT5 {d:Nat} (h:1<=d):aN4 d=1+2*aN4 (d-1):=by
 obtain⟨e,rfl⟩:∃ e,d=e+1:=⟨d-1,by omega⟩
 rfl
theorem sb78 {A B:Prop} (k:B) (h:Hd7 B->A:=by intro q7;(first|(with_reducible refine Bc.l ?_)|fail|fail|refine u9x ?_);exact q7.1):A:=h ⟨k⟩
theorem sk79 {A B:Prop} (k:B) (h:Hd7 B->A:=by intro q7;(first|refine sb0 ?_|refine sb78 ?_|(refine' cp7x ?hc ?_;(case hc=>first|exact HK)));exact q7.1):A:=h ⟨k⟩
theorem sk80 {A B:Prop} (k:B) (h:Hd7 B->A:=by intro q7;(first|refine sb0 ?_|refine sb67 ?_|(refine' cp7x ?hc ?_;(case hc=>first|exact HK)));exact q7.1):A:=h ⟨k⟩
def yF:=@List.not_mem_nil
def xE:=@or_false
theorem bp2 (x:Sch) (hx:SchB x) (xs:List Int) (hxs:I64s xs) (bt:Nat) (k:Nat) (hk:k<x.kz.length):∀ (d:Nat) (pos:Int),0<=pos/\pos+posB d<=10000000->ACall prog 57 [ptr bt,schD x,iD k,iD d] [tkB bt xs pos] (fun r σ=>∃ c pos',(pos<=pos'/\pos'<=pos+posB d)/\c.size<=aN4 d/\c.All CndS/\r=cndD c/\σ=[tkB bt xs pos']):=by
  intro d
  induction d using Nat.strongRecOn with
  | _ d IH=>
  intro pos hp;have hnk:=hx.nk;have hpd:=cc7 d;have hpg:=bD7 d;have hsd:=bL2 d;refine eC7 func57 ntmps57 fun BB=>?_
  repeat' first|refine sk79 ?_|intro b;conv=>whnf
  refine Bx.l ?_
  repeat' first|refine sk79 ?_|intro b;conv=>whnf
  refine aJ8 (out:=[iD 0,iD 1,iD 2,iD 2,iD 1,iD 3,iD 4,iD 5]) (L:=[[iD 0],[iD 1],[iD 2],[iD 2],[iD 1],[iD 3],[iD 4],[iD 5]]) rfl rfl rfl rfl (by kernel_rfl) (by kernel_rfl) rfl rfl ?_
  repeat' first|refine sk80 ?_|intro b;conv=>whnf
  have hq:=ac8 xs pos 8;have hq2:=hq.2 (by omega);obtain⟨b8,rfl⟩:∃ c,c=b:=⟨_,rfl⟩
  (refine pA6 (am1 xs hxs bt _ _ ⟨by omega,by omega⟩) (show List.Perm (_::tkB bt xs _::_) ([tkB bt xs _]++(_::_)) from List.Perm.swap _ _ _) (fun s'=>s'++(_::_)) (fun s'=>zH _) ?_;(rintro _ _ ⟨rfl,rfl⟩))
  generalize atE xs pos 8=j at *;obtain⟨o,hom,hoi⟩:∃ o∈opsC,(opsC.map fun z=>[iD z])[j.toNat]?=some [iD o]:=ba2 opsC ⟨by omega,by simp only [opsC,List.length_cons,List.length_nil];omega⟩;have ho:0<=o/\o<=5:=by
   simp only [opsC,zU,yF,xE] at hom;omega
  repeat' first|refine sk80 ?_|intro b;conv=>whnf
  refine Ix.at hoi (by omega) ?_;by_cases hB:o=0\/(3<=o/\2<=d)
  ·by_cases hd2:d<2
   all_goals
    repeat' first|refine sk80 ?_|intro b;conv=>whnf
    have hod:o=0\/(3<=o/\2<=d):=by omega
    have HK:=aE0 o;obtain⟨nk,hnk2,hnk3,hnk4⟩:∃ nk:Nat,az5 o=nk/\nk<=2/\(1<=nk->2<=d):=by
     unfold az5;by_cases h3:o=3
     ·exact⟨1,by rw [if_pos h3];rfl,by omega,fun _=>by omega⟩
     ·by_cases h4:o=4\/o=5
      ·exact⟨2,by rw [if_neg h3,if_pos h4];rfl,by omega,fun _=>by omega⟩
      ·exact⟨0,by rw [if_neg h3,if_neg h4];rfl,by omega,fun h=>by omega⟩
    rw [hnk2] at HK;clear hom hoi;refine aa5 mixed aa0 (γ:=Nat × Int × List Cnd × Value × aa1) (fun g=>[(11,iD g.1)]) (fun g=>tkB bt xs g.2.1::(b,.cells 57 [iD o,.v g.2.2.2.1,.v (zv ZV.sl),.v (zv ZV.sl),.v (zv (ZV.int IntKind.i64))])::(b8,Blk.cells 57 zC)::g.2.2.2.2) (fun g=>g.1<=nk/\(pos+1<=g.2.1/\(g.1=0/\g.2.1<=pos+1\/g.1=1/\g.2.1<=pos+1+posB (d-1)\/g.1=2/\g.2.1<=pos+1+2*posB (d-1)))/\g.2.2.1.length=g.1/\(∀ c∈g.2.2.1,c.size<=aN4 (d-1)/\c.All CndS)/\RowIs 57 5 (g.2.2.1.map cndC) g.2.2.2.1 g.2.2.2.2) (fun g=>nk-g.1) (0,pos+1,[],.slice none 0 0,[]) (aa2 cl2) (Sc.perm (List.Perm.swap _ _ _)) ⟨zW _,⟨by simp only;omega,.inl ⟨rfl,by simp only;omega⟩⟩,rfl,(fun c hc=>by cases hc),RowIs.nil _ _⟩ ?_;rintro⟨i,ps,kids,v,s⟩ ⟨hi,hps,hkl,hkd,hrow⟩;simp only at hi hps hkl hkd hrow ⊢;by_cases hil:i<nk
    ·have hd3:=hnk4 (by omega);have e1:=bd8 (d:=d) (by omega);have e2:=aT5 (d:=d) (by omega);have HI:=IH (d-1) (by omega) ps ⟨by omega,by omega⟩;rw [show ((d-1:Nat):Int)=(d:Int)-1 by omega] at HI
     repeat' first|refine sk80 ?_|intro b;conv=>whnf
     refine dr7 ?_;refine ak3 mixed aa0 rfl [0,2,3,4,5,6] 6 (inE [1,7,9,11]) (.two 1 (.one 7 (.fst 8 (.one 9 (.fst 10 (.one 11 .done))))) 7 (.fst 8 (.one 1 (.one 9 (.fst 10 (.one 11 .done)))))) (γ:=Int × Cnd × Value × aa1) (fun _=>[]) (fun g=>tkB bt xs g.1::(b,.cells 57 [iD o,.v g.2.2.1,.v (zv ZV.sl),.v (zv ZV.sl),.v (zv (ZV.int IntKind.i64))])::(b8,Blk.cells 57 zC)::g.2.2.2) (fun g=>(ps<=g.1/\g.1<=ps+posB (d-1))/\g.2.1.size<=aN4 (d-1)/\g.2.1.All CndS/\RowIs 57 5 ((kids++[g.2.1]).map cndC) g.2.2.1 g.2.2.2) (by decide +kernel) ?_ ?_
     ·repeat' first|refine sk80 ?_|intro b;conv=>whnf|(refine And.intro ?_ ?_<;>(conv=>whnf))|(refine pA6 HI (zH ([tkB bt xs _]++_)) (fun s'=>s'++_) (fun s'=>zH _) ?_;(rintro _ _ ⟨c,p1,⟨hp1,hp1'⟩,hcs,hca,rfl,rfl⟩))|(refine Ap.go rfl rfl rfl rfl hrow (τ:=[tkB bt xs p1,(b,Blk.cells 57 [iD o,.v v,.v (zv ZV.sl),.v (zv ZV.sl),.v (zv (ZV.int IntKind.i64))]),(b8,Blk.cells 57 zC)]) cl5 rfl (zs:=(kids++[c]).map cndC) (by rw [yB];rfl) (by simp;omega) (by simp;omega) (fun s'=>tkB bt xs p1::(b,Blk.cells 57 [iD o,.v v,.v (zv ZV.sl),.v (zv ZV.sl),.v (zv (ZV.int IntKind.i64))])::(b8,Blk.cells 57 zC)::s') (fun s'=>by refine ac3 fun a=>?_;simp only [List.append_eq,List.nil_append,ac4,af0,ae9];omega) (fun a2 c2 s2 hr2=>?_))
      all_goals exact⟨(p1,c,_,s2),(aa2 cl2),Sc.refl _,⟨hp1,hp1'⟩,hcs,hca,hr2⟩
     ·rintro⟨p1,c,v2,s2⟩ ⟨hp1,hcs,hca,hr2⟩;simp only at hp1 hcs hca hr2 ⊢
      repeat' first|refine sk80 ?_|intro b;conv=>whnf
      exact⟨(i+1,p1,kids++[c],v2,s2),(aa2 cl4),Sc.refl _,⟨by simp only;omega,⟨by simp only;omega,by simp only;omega⟩,by simp only [zI,List.length_singleton];omega,(fun z hz=>(zO.1 hz).elim (hkd z) (fun h=>by rw [zN] at h;subst h;exact⟨hcs,hca⟩)),hr2⟩,by simp only;omega⟩
    ·obtain rfl:i=nk:=by omega
     obtain⟨va,vc,hve⟩:=hrow.slice
     repeat' first|refine sk80 ?_|intro b;conv=>whnf
     refine Sv.at 2 (tb:=57) (cs:=zC) (σ':=tkB bt xs ps::(b,Blk.cells 57 [iD o,.v v,.v (zv ZV.sl),.v (zv ZV.sl),.v (zv (ZV.int IntKind.i64))])::(b8,Blk.cells 57 [iD o,.v v,.v (zv ZV.sl),.v (zv ZV.sl),.v (zv (ZV.int IntKind.i64))])::s) rfl rfl rfl (by rw [hve];rfl) rfl ?_
     repeat' first|refine sk80 ?_|intro b;conv=>whnf
     refine Rs.c aa0 (m:=2) rfl rfl rfl rfl rfl rfl ?_
     repeat' first|refine sk80 ?_|intro b;conv=>whnf
     have hs:∀ z,z∈aa6 [tkB bt xs ps]->z∈aa6 (tkB bt xs ps::(b,Blk.cells 57 [iD o,.v v,.v (zv ZV.sl),.v (zv ZV.sl),.v (zv (ZV.int IntKind.i64))])::(b8,Blk.cells 57 [iD o,.v v,.v (zv ZV.sl),.v (zv ZV.sl),.v (zv (ZV.int IntKind.i64))])::s):=fun z h=>by simp [aa6] at h ⊢;exact .inl h
     have e0:1<=i->posB d=20+2*posB (d-1):=fun h=>bd8 (by have:=hnk4 h;omega);have e2:1<=i->aN4 d=1+2*aN4 (d-1):=fun h=>aT5 (by have:=hnk4 h;omega);have hka:∀ z∈kids,z.All CndS:=fun z hz=>(hkd z hz).2;rcases kids with _|⟨c1,_|⟨c2,_|⟨c3,l⟩⟩⟩
     ·simp only [List.length_nil] at hkl;exact Rt.by (σ':=[tkB bt xs ps]) (d':=cndD (.c0 o [] [] 0)) (Vs.vd ⟨(b,Blk.cells 57 [iD o,.v v,.v (zv ZV.sl),.v (zv ZV.sl),.v (zv (ZV.int IntKind.i64))])::(b8,Blk.cells 57 [iD o,.v v,.v (zv ZV.sl),.v (zv ZV.sl),.v (zv (ZV.int IntKind.i64))])::s,by refine ac3 fun a=>?_;simp only [List.append_eq,List.nil_append,ac4,af0,ae9];omega⟩ (Vd.agg (.cons (Vd.same hs _) (.cons (Vd.row (ρ:=[tkB bt xs ps,(b,Blk.cells 57 [iD o,.v v,.v (zv ZV.sl),.v (zv ZV.sl),.v (zv (ZV.int IntKind.i64))]),(b8,Blk.cells 57 [iD o,.v v,.v (zv ZV.sl),.v (zv ZV.sl),.v (zv (ZV.int IntKind.i64))])]) hrow cl5 (fun z h=>by simp [aa6] at h ⊢;exact .inl h)) (.cons (Vd.nil 1) (.cons (Vd.nil 1) (.cons (Vd.same hs _) .nil))))))) ⟨(.c0 o [] [] 0),_,⟨by omega,by omega⟩,by simp only [Cnd.size];omega,.mk ⟨⟨by simp only [Cnd.op];omega,by simp only [Cnd.op];omega⟩,by simp [Cnd.path],by simp [Cnd.other]⟩ (fun z hz=>hka z hz),rfl,rfl⟩
     ·simp only [List.length_cons,List.length_nil] at hkl;have h1:=(hkd c1 (by simp)).1;have e0:=e0 (by omega);have e2:=e2 (by omega);exact Rt.by (σ':=[tkB bt xs ps]) (d':=cndD (.c1 o [] [] 0 c1)) (Vs.vd ⟨(b,Blk.cells 57 [iD o,.v v,.v (zv ZV.sl),.v (zv ZV.sl),.v (zv (ZV.int IntKind.i64))])::(b8,Blk.cells 57 [iD o,.v v,.v (zv ZV.sl),.v (zv ZV.sl),.v (zv (ZV.int IntKind.i64))])::s,by refine ac3 fun a=>?_;simp only [List.append_eq,List.nil_append,ac4,af0,ae9];omega⟩ (Vd.agg (.cons (Vd.same hs _) (.cons (Vd.row (ρ:=[tkB bt xs ps,(b,Blk.cells 57 [iD o,.v v,.v (zv ZV.sl),.v (zv ZV.sl),.v (zv (ZV.int IntKind.i64))]),(b8,Blk.cells 57 [iD o,.v v,.v (zv ZV.sl),.v (zv ZV.sl),.v (zv (ZV.int IntKind.i64))])]) hrow cl5 (fun z h=>by simp [aa6] at h ⊢;exact .inl h)) (.cons (Vd.nil 1) (.cons (Vd.nil 1) (.cons (Vd.same hs _) .nil))))))) ⟨(.c1 o [] [] 0 c1),_,⟨by omega,by omega⟩,by simp only [Cnd.size];omega,.mk ⟨⟨by simp only [Cnd.op];omega,by simp only [Cnd.op];omega⟩,by simp [Cnd.path],by simp [Cnd.other]⟩ (fun z hz=>hka z hz),rfl,rfl⟩
     ·simp only [List.length_cons,List.length_nil] at hkl;have h1:=(hkd c1 (by simp)).1;have h2:=(hkd c2 (by simp)).1;have e0:=e0 (by omega);have e2:=e2 (by omega);exact Rt.by (σ':=[tkB bt xs ps]) (d':=cndD (.c2 o [] [] 0 c1 c2)) (Vs.vd ⟨(b,Blk.cells 57 [iD o,.v v,.v (zv ZV.sl),.v (zv ZV.sl),.v (zv (ZV.int IntKind.i64))])::(b8,Blk.cells 57 [iD o,.v v,.v (zv ZV.sl),.v (zv ZV.sl),.v (zv (ZV.int IntKind.i64))])::s,by refine ac3 fun a=>?_;simp only [List.append_eq,List.nil_append,ac4,af0,ae9];omega⟩ (Vd.agg (.cons (Vd.same hs _) (.cons (Vd.row (ρ:=[tkB bt xs ps,(b,Blk.cells 57 [iD o,.v v,.v (zv ZV.sl),.v (zv ZV.sl),.v (zv (ZV.int IntKind.i64))]),(b8,Blk.cells 57 [iD o,.v v,.v (zv ZV.sl),.v (zv ZV.sl),.v (zv (ZV.int IntKind.i64))])]) hrow cl5 (fun z h=>by simp [aa6] at h ⊢;exact .inl h)) (.cons (Vd.nil 1) (.cons (Vd.nil 1) (.cons (Vd.same hs _) .nil))))))) ⟨(.c2 o [] [] 0 c1 c2),_,⟨by omega,by omega⟩,by simp only [Cnd.size];omega,.mk ⟨⟨by simp only [Cnd.op];omega,by simp only [Cnd.op];omega⟩,by simp [Cnd.path],by simp [Cnd.other]⟩ (fun z hz=>hka z hz),rfl,rfl⟩
     ·simp only [List.length_cons] at hkl;omega
  ·by_cases h12:o=1\/o=2
   ·have h13:=h12;rcases h12 with ho3|ho3
    all_goals
     by_cases hd2:d<2
     all_goals
      repeat' first|refine sk80 ?_|intro b;conv=>whnf
      have HK:=aE0 o;rw [show az5 o=0 from by unfold az5;rw [if_neg (by omega),if_neg (by omega)]] at HK
      (refine pA6 (aD8 x hx xs hxs bt k hk _ ⟨by omega,by omega⟩) (show List.Perm (_::tkB bt xs _::_) ([tkB bt xs _]++(_::_)) from List.Perm.swap _ _ _) (fun s'=>s'++(_::_)) (fun s'=>zH _) ?_;(rintro _ _ ⟨p,p1,⟨hp1,hp1'⟩,hpl,rfl,rfl⟩))
      repeat' first|refine sk80 ?_|intro b;conv=>whnf
      (refine pA6 (am1 xs hxs bt _ _ ⟨by omega,by omega⟩) (zH ([tkB bt xs _]++_)) (fun s'=>s'++_) (fun s'=>zH _) ?_;(rintro _ _ ⟨rfl,rfl⟩))
      have h3:=ac8 xs p1 3;by_cases hz:atE xs p1 3=0
      ·repeat' first|refine sk80 ?_|intro b;conv=>whnf
       (refine pA6 (aD8 x hx xs hxs bt k hk _ ⟨by omega,by omega⟩) (zH ([tkB bt xs _]++_)) (fun s'=>s'++_) (fun s'=>zH _) ?_;(rintro _ _ ⟨p',p2,⟨hp2,hp2'⟩,hpl',rfl,rfl⟩))
       repeat' first|refine sk80 ?_|intro b;conv=>whnf
       (refine pA6 (am1 xs hxs bt _ _ ⟨by omega,by omega⟩) (zH ([tkB bt xs _]++_)) (fun s'=>s'++_) (fun s'=>zH _) ?_;(rintro _ _ ⟨rfl,rfl⟩))
       have h12:=ac8 xs p2 12;have h12':=h12.2 (by omega);generalize atE xs p2 12=nn at *
       repeat' first|refine sk80 ?_|intro b;conv=>whnf
       refine aa5 mixed aa0 (γ:=Unit) (fun _=>[(11,iD 0)]) (fun _=>[tkB bt xs (p2+1),(b,.cells 57 [iD o,.v (zv ZV.sl),slS p,slS p',iD (nn-2)]),(b8,.cells 57 zC)]) (fun _=>True) (fun _=>0) () (aa2 cl2) (Sc.refl _) trivial ?_;rintro - -
       repeat' first|refine sk80 ?_|intro b;conv=>whnf
       refine Rs.c aa0 (m:=2) rfl rfl rfl rfl rfl rfl ?_
       repeat' first|refine sk80 ?_|intro b;conv=>whnf
       have hs:∀ z,z∈aa6 [tkB bt xs (p2+1)]->z∈aa6 [tkB bt xs (p2+1),(b,.cells 57 [iD o,.v (zv ZV.sl),slS p,slS p',iD (nn-2)]),(b8,.cells 57 [iD o,.v (zv ZV.sl),slS p,slS p',iD (nn-2)])]:=fun z h=>by simp [aa6] at h ⊢;exact .inl h
       exact Rt.by (σ':=[tkB bt xs (p2+1)]) (d':=cndD (.c0 o p p' (nn-2))) (Vs.vd ⟨[(b,.cells 57 [iD o,.v (zv ZV.sl),slS p,slS p',iD (nn-2)]),(b8,.cells 57 [iD o,.v (zv ZV.sl),slS p,slS p',iD (nn-2)])],yT (l₁:=[tkB bt xs (p2+1)])⟩ (Vd.agg (.cons (Vd.same hs _) (.cons (Vd.nil 5) (.cons (Vd.same hs _) (.cons (SlOf.vd (.inl rfl) hs) (.cons (Vd.same hs _) .nil))))))) ⟨.c0 o p p' (nn-2),_,⟨by omega,by omega⟩,by simp only [Cnd.size];omega,.mk ⟨⟨by simp only [Cnd.op];omega,by simp only [Cnd.op];omega⟩,by simp only [Cnd.path];omega,by simp only [Cnd.other,List.length_nil];omega⟩ (fun a ha=>by cases ha),rfl,rfl⟩
      ·repeat' first|refine sk80 ?_|intro b;conv=>whnf
       (refine pA6 (am1 xs hxs bt _ _ ⟨by omega,by omega⟩) (zH ([tkB bt xs _]++_)) (fun s'=>s'++_) (fun s'=>zH _) ?_;(rintro _ _ ⟨rfl,rfl⟩))
       have h12:=ac8 xs (p1+1) 12;have h12':=h12.2 (by omega);generalize atE xs (p1+1) 12=nn at *
       repeat' first|refine sk80 ?_|intro b;conv=>whnf
       refine aa5 mixed aa0 (γ:=Unit) (fun _=>[(11,iD 0)]) (fun _=>[tkB bt xs ((p1+1)+1),(b,.cells 57 [iD o,.v (zv ZV.sl),slS p,.v (zv ZV.sl),iD (nn-2)]),(b8,.cells 57 zC)]) (fun _=>True) (fun _=>0) () (aa2 cl2) (Sc.refl _) trivial ?_;rintro - -
       repeat' first|refine sk80 ?_|intro b;conv=>whnf
       refine Rs.c aa0 (m:=2) rfl rfl rfl rfl rfl rfl ?_
       repeat' first|refine sk80 ?_|intro b;conv=>whnf
       have hs:∀ z,z∈aa6 [tkB bt xs ((p1+1)+1)]->z∈aa6 [tkB bt xs ((p1+1)+1),(b,.cells 57 [iD o,.v (zv ZV.sl),slS p,.v (zv ZV.sl),iD (nn-2)]),(b8,.cells 57 [iD o,.v (zv ZV.sl),slS p,.v (zv ZV.sl),iD (nn-2)])]:=fun z h=>by simp [aa6] at h ⊢;exact .inl h
       exact Rt.by (σ':=[tkB bt xs ((p1+1)+1)]) (d':=cndD (.c0 o p [] (nn-2))) (Vs.vd ⟨[(b,.cells 57 [iD o,.v (zv ZV.sl),slS p,.v (zv ZV.sl),iD (nn-2)]),(b8,.cells 57 [iD o,.v (zv ZV.sl),slS p,.v (zv ZV.sl),iD (nn-2)])],yT (l₁:=[tkB bt xs ((p1+1)+1)])⟩ (Vd.agg (.cons (Vd.same hs _) (.cons (Vd.nil 5) (.cons (Vd.same hs _) (.cons (SlOf.vd (.inr ⟨rfl,rfl⟩) hs) (.cons (Vd.same hs _) .nil))))))) ⟨.c0 o p [] (nn-2),_,⟨by omega,by omega⟩,by simp only [Cnd.size];omega,.mk ⟨⟨by simp only [Cnd.op];omega,by simp only [Cnd.op];omega⟩,by simp only [Cnd.path];omega,by simp only [Cnd.other,List.length_nil];omega⟩ (fun a ha=>by cases ha),rfl,rfl⟩
   ·have ho3:3<=o:=by omega
    have hd2:d<2:=by omega
    clear hom hoi
    repeat' first|refine sk80 ?_|intro b;conv=>whnf
    refine pA5 trivial ?_
    repeat' first|refine sk80 ?_|intro b;conv=>whnf
    have HK:=aE0 (2:Int);rw [show az5 (2:Int)=0 from by unfold az5;rw [if_neg (by omega),if_neg (by omega)]] at HK
    (refine pA6 (aD8 x hx xs hxs bt k hk _ ⟨by omega,by omega⟩) (show List.Perm (_::tkB bt xs _::_) ([tkB bt xs _]++(_::_)) from List.Perm.swap _ _ _) (fun s'=>s'++(_::_)) (fun s'=>zH _) ?_;(rintro _ _ ⟨p,p1,⟨hp1,hp1'⟩,hpl,rfl,rfl⟩))
    repeat' first|refine sk80 ?_|intro b;conv=>whnf
    (refine pA6 (am1 xs hxs bt _ _ ⟨by omega,by omega⟩) (zH ([tkB bt xs _]++_)) (fun s'=>s'++_) (fun s'=>zH _) ?_;(rintro _ _ ⟨rfl,rfl⟩))
    have h3:=ac8 xs p1 3;by_cases hz:atE xs p1 3=0
    ·repeat' first|refine sk80 ?_|intro b;conv=>whnf
     (refine pA6 (aD8 x hx xs hxs bt k hk _ ⟨by omega,by omega⟩) (zH ([tkB bt xs _]++_)) (fun s'=>s'++_) (fun s'=>zH _) ?_;(rintro _ _ ⟨p',p2,⟨hp2,hp2'⟩,hpl',rfl,rfl⟩))
     repeat' first|refine sk80 ?_|intro b;conv=>whnf
     (refine pA6 (am1 xs hxs bt _ _ ⟨by omega,by omega⟩) (zH ([tkB bt xs _]++_)) (fun s'=>s'++_) (fun s'=>zH _) ?_;(rintro _ _ ⟨rfl,rfl⟩))
     have h12:=ac8 xs p2 12;have h12':=h12.2 (by omega);generalize atE xs p2 12=nn at *
     repeat' first|refine sk80 ?_|intro b;conv=>whnf
     refine aa5 mixed aa0 (γ:=Unit) (fun _=>[(11,iD 0)]) (fun _=>[tkB bt xs (p2+1),(b,.cells 57 [iD (2:Int),.v (zv ZV.sl),slS p,slS p',iD (nn-2)]),(b8,.cells 57 zC)]) (fun _=>True) (fun _=>0) () (aa2 cl2) (Sc.refl _) trivial ?_;rintro - -
     repeat' first|refine sk80 ?_|intro b;conv=>whnf
     refine Rs.c aa0 (m:=2) rfl rfl rfl rfl rfl rfl ?_
     repeat' first|refine sk80 ?_|intro b;conv=>whnf
     have hs:∀ z,z∈aa6 [tkB bt xs (p2+1)]->z∈aa6 [tkB bt xs (p2+1),(b,.cells 57 [iD (2:Int),.v (zv ZV.sl),slS p,slS p',iD (nn-2)]),(b8,.cells 57 [iD (2:Int),.v (zv ZV.sl),slS p,slS p',iD (nn-2)])]:=fun z h=>by simp [aa6] at h ⊢;exact .inl h
     exact Rt.by (σ':=[tkB bt xs (p2+1)]) (d':=cndD (.c0 (2:Int) p p' (nn-2))) (Vs.vd ⟨[(b,.cells 57 [iD (2:Int),.v (zv ZV.sl),slS p,slS p',iD (nn-2)]),(b8,.cells 57 [iD (2:Int),.v (zv ZV.sl),slS p,slS p',iD (nn-2)])],yT (l₁:=[tkB bt xs (p2+1)])⟩ (Vd.agg (.cons (Vd.same hs _) (.cons (Vd.nil 5) (.cons (Vd.same hs _) (.cons (SlOf.vd (.inl rfl) hs) (.cons (Vd.same hs _) .nil))))))) ⟨.c0 (2:Int) p p' (nn-2),_,⟨by omega,by omega⟩,by simp only [Cnd.size];omega,.mk ⟨⟨by simp only [Cnd.op];omega,by simp only [Cnd.op];omega⟩,by simp only [Cnd.path];omega,by simp only [Cnd.other,List.length_nil];omega⟩ (fun a ha=>by cases ha),rfl,rfl⟩
    ·repeat' first|refine sk80 ?_|intro b;conv=>whnf
     (refine pA6 (am1 xs hxs bt _ _ ⟨by omega,by omega⟩) (zH ([tkB bt xs _]++_)) (fun s'=>s'++_) (fun s'=>zH _) ?_;(rintro _ _ ⟨rfl,rfl⟩))
     have h12:=ac8 xs (p1+1) 12;have h12':=h12.2 (by omega);generalize atE xs (p1+1) 12=nn at *
     repeat' first|refine sk80 ?_|intro b;conv=>whnf
     refine aa5 mixed aa0 (γ:=Unit) (fun _=>[(11,iD 0)]) (fun _=>[tkB bt xs ((p1+1)+1),(b,.cells 57 [iD (2:Int),.v (zv ZV.sl),slS p,.v (zv ZV.sl),iD (nn-2)]),(b8,.cells 57 zC)]) (fun _=>True) (fun _=>0) () (aa2 cl2) (Sc.refl _) trivial ?_;rintro - -
     repeat' first|refine sk80 ?_|intro b;conv=>whnf
     refine Rs.c aa0 (m:=2) rfl rfl rfl rfl rfl rfl ?_
     repeat' first|refine sk80 ?_|intro b;conv=>whnf
     have hs:∀ z,z∈aa6 [tkB bt xs ((p1+1)+1)]->z∈aa6 [tkB bt xs ((p1+1)+1),(b,.cells 57 [iD (2:Int),.v (zv ZV.sl),slS p,.v (zv ZV.sl),iD (nn-2)]),(b8,.cells 57 [iD (2:Int),.v (zv ZV.sl),slS p,.v (zv ZV.sl),iD (nn-2)])]:=fun z h=>by simp [aa6] at h ⊢;exact .inl h
     exact Rt.by (σ':=[tkB bt xs ((p1+1)+1)]) (d':=cndD (.c0 (2:Int) p [] (nn-2))) (Vs.vd ⟨[(b,.cells 57 [iD (2:Int),.v (zv ZV.sl),slS p,.v (zv ZV.sl),iD (nn-2)]),(b8,.cells 57 [iD (2:Int),.v (zv ZV.sl),slS p,.v (zv ZV.sl),iD (nn-2)])],yT (l₁:=[tkB bt xs ((p1+1)+1)])⟩ (Vd.agg (.cons (Vd.same hs _) (.cons (Vd.nil 5) (.cons (Vd.same hs _) (.cons (SlOf.vd (.inr ⟨rfl,rfl⟩) hs) (.cons (Vd.same hs _) .nil))))))) ⟨.c0 (2:Int) p [] (nn-2),_,⟨by omega,by omega⟩,by simp only [Cnd.size];omega,.mk ⟨⟨by simp only [Cnd.op];omega,by simp only [Cnd.op];omega⟩,by simp only [Cnd.path];omega,by simp only [Cnd.other,List.length_nil];omega⟩ (fun a ha=>by cases ha),rfl,rfl⟩
end
section
open Go
structure QryS (q:Qry):Prop where
 size:q.cond.size<=1000
 path:q.path.length<=4
 all:q.cond.All CndS
theorem sk81 {A B:Prop} (k:B) (h:Hd7 B->A:=by intro q7;(first|refine sb0 ?_|refine sb78 ?_|(refine' cp7x ?hc ?_;(case hc=>fail)));exact q7.1):A:=h ⟨k⟩
theorem bp1 (x:Sch) (hx:SchB x) (hk0:1<=x.kz.length) (xs:List Int) (hxs:I64s xs):ASome prog 22 [schD x,slI xs] (fun r=>∃ q,r=qryD q/\QryS q):=by
 have hnk:=hx.nk;refine ASome.of_call ?_;refine eC7 func22 ntmps22 fun BB=>?_
 repeat' first|refine sk81 ?_|intro b;conv=>whnf
 refine Bx.l ?_
 repeat' first|refine sk81 ?_|intro b;conv=>whnf
 refine Bx.r (OtE.box rfl rfl (fun bt=>?_))
 repeat' first|refine sk81 ?_|intro b;conv=>whnf
 have hml:(x.kz.map kndC).length=x.kz.length:=zL ..;obtain⟨b4,rfl⟩:∃ c,c=b:=⟨_,rfl⟩
 (refine pA6 (am1 xs hxs bt _ _ ⟨by omega,by omega⟩) (zH ([tkB bt xs _]++_)) (fun s'=>s'++_) (fun s'=>zH _) ?_;(rintro _ _ ⟨rfl,rfl⟩))
 have hq:=ac8 xs 0 (x.kz.map kndC).length;have hq2:=hq.2 (by omega);obtain⟨k,hk⟩:∃ k:Nat,atE xs 0 (x.kz.map kndC).length=k:=⟨(atE xs 0 (x.kz.map kndC).length).toNat,by omega⟩
 rw [hk] at hq2;have hk1:k<x.kz.length:=by omega
 rw [hk];clear hq hk;obtain⟨kd,hkd⟩:∃ kd,x.kz[k]?=some kd:=⟨_,zD hk1⟩
 have hkd':x.kz[((k:Nat):Int).toNat]?=some kd:=hkd
 repeat' first|refine sk68 ?_|intro b;conv=>whnf
 have h4:=ac8 xs (0+1) 4;have h4':=h4.2 (by omega);refine dr7 ?_;refine ak3 mixed aa0 rfl [0,2,3,4,5,6,7] 4 (inE [1,9,10]) (.two 1 (.fst 8 (.one 9 (.one 10 .done))) 9 (.one 1 (.fst 8 (.one 10 .done)))) (γ:=Nat) (fun b=>[(7,.v (.pointer (some ⟨b,0,none⟩)))]) (fun b=>(b,.cells 59 [iD (atE xs (0+1) 4),sD kd.name,.v (zv ZV.sl),.v (zv (ZV.int IntKind.i64)),.v (zv ZV.sl),.v (zv ZV.sl),.v (zv ZV.sl),.v (zv (ZV.int IntKind.i64))])::tkB bt xs (0+1+1)::[(b4,.cells 59 [.v (zv (ZV.int IntKind.i64)),.v (zv ZV.str),.v (zv ZV.sl),.v (zv (ZV.int IntKind.i64)),.v (zv ZV.sl),.v (zv ZV.sl),.v (zv ZV.sl),.v (zv (ZV.int IntKind.i64))])]) (fun _=>True) (by decide +kernel) ?_ ?_
 ·repeat' first|refine sk68 ?_|intro b;conv=>whnf|(refine And.intro ?_ ?_<;>(conv=>whnf))|(refine pA6 (am1 xs hxs bt _ _ ⟨by omega,by omega⟩) (zH ([tkB bt xs _]++_)) (fun s'=>s'++_) (fun s'=>zH _) ?_;(rintro _ _ ⟨rfl,rfl⟩))|(refine pA6 (am1 xs hxs bt _ _ ⟨by omega,by omega⟩) (show List.Perm (_::tkB bt xs _::_) ([tkB bt xs _]++(_::_)) from List.Perm.swap _ _ _) (fun s'=>s'++(_::_)) (fun s'=>zH _) ?_;(rintro _ _ ⟨rfl,rfl⟩))
  all_goals exact⟨b,(aa2 cl2),(by first|exact Sc.refl _|exact Sc.perm (List.Perm.swap _ _ _)),trivial⟩
 ·rintro b -;have hpB:posB 3=300:=rfl;have hs0:∀ {σ:aa1} (z:Nat),z∈aa6 ([]:aa1)->z∈aa6 σ:=fun z h=>by cases h
  have hsB:aN4 3=15:=rfl;generalize atE xs (0+1) 4=op at *;by_cases ho:op=0
  ·repeat' first|refine sk68 ?_|intro b;conv=>whnf
   (refine pA6 (bp2 x hx xs hxs bt k hk1 3 _ ⟨by omega,by omega⟩) (show List.Perm (_::tkB bt xs _::_) ([tkB bt xs _]++(_::_)) from List.Perm.swap _ _ _) (fun s'=>s'++(_::_)) (fun s'=>zH _) ?_;(rintro _ _ ⟨c,p1,⟨hp1,hp1'⟩,hcs,hca,rfl,rfl⟩))
   repeat' first|refine sk68 ?_|intro b;conv=>whnf
   refine Rs.c aa0 (m:=2) rfl rfl rfl rfl rfl rfl ?_
   repeat' first|refine sk68 ?_|intro b;conv=>whnf
   refine Rt.by (σ':=[]) (d':=qryD ⟨op,kd.name,[],c⟩) (Vs.vd (τ:=[]) ⟨_,xA (zZ _).symm⟩ (Vd.agg (.cons (Vd.same hs0 _) (.cons (Vd.same hs0 _) (.cons (SlOf.vd (by first|exact .inr ⟨rfl,rfl⟩|exact .inl rfl) hs0) (.cons (Vd.same hs0 _) (.cons (Vd.same hs0 _) (.cons (Vd.same hs0 _) (.cons (Vd.same hs0 _) (.cons (Vd.same hs0 _) .nil)))))))))) ⟨_,rfl,⟨by simp only;omega,by simp only [List.length_nil];omega,hca⟩⟩
  ·repeat' first|refine sk68 ?_|intro b;conv=>whnf
   refine pA6 (aD8 x hx xs hxs bt k hk1 _ ⟨by omega,by omega⟩) (show List.Perm (_::tkB bt xs _::_) ([tkB bt xs _]++(_::_)) from List.Perm.swap _ _ _) (fun s'=>s'++(_::_)) (fun s'=>zH _) ?_;rintro _ _ ⟨p,p0,⟨hp0,hp0'⟩,hpl,rfl,rfl⟩
   repeat' first|refine sk68 ?_|intro b;conv=>whnf
   (refine pA6 (bp2 x hx xs hxs bt k hk1 3 _ ⟨by omega,by omega⟩) (zH ([tkB bt xs _]++_)) (fun s'=>s'++_) (fun s'=>zH _) ?_;(rintro _ _ ⟨c,p1,⟨hp1,hp1'⟩,hcs,hca,rfl,rfl⟩))
   repeat' first|refine sk68 ?_|intro b;conv=>whnf
   refine Rs.c aa0 (m:=2) rfl rfl rfl rfl rfl rfl ?_
   repeat' first|refine sk68 ?_|intro b;conv=>whnf
   refine Rt.by (σ':=[]) (d':=qryD ⟨op,kd.name,p,c⟩) (Vs.vd (τ:=[]) ⟨_,xA (zZ _).symm⟩ (Vd.agg (.cons (Vd.same hs0 _) (.cons (Vd.same hs0 _) (.cons (SlOf.vd (by first|exact .inr ⟨rfl,rfl⟩|exact .inl rfl) hs0) (.cons (Vd.same hs0 _) (.cons (Vd.same hs0 _) (.cons (Vd.same hs0 _) (.cons (Vd.same hs0 _) (.cons (Vd.same hs0 _) .nil)))))))))) ⟨_,rfl,⟨by simp only;omega,by simp only [List.length_nil];omega,hca⟩⟩
end
section
open Go
section
variable {P:Program} {σ:aa1} {ρ:Operand->D}
theorem ai3 {o:Oper} {b:BinOp} {t t':TypeId} {x y:Operand} {u v r:Value} (ho:o.op = .binOp b t x y t') (hx:ρ x = .v u) (hy:ρ y = .v v)
  (h:∀ w:World,(do eqGuard b t x y u v;binOp b t u v).run P w = .ok r w):Yd P o ρ σ (.v r):=by
 intro w X η hη hst;obtain⟨dst,op,ty,pos,aft,g⟩:=o;simp only at ho;subst ho;have h1:=(hη x (by simp [Op.operands])).val hx;have h2:=(hη y (by simp [Op.operands])).val hy;have:=h w;rw [← h1,← h2] at this;exact ag4 this (Ex.refl w) (.v _)
theorem cv3 {o:Oper} {b:UnOp} {t:TypeId} {x:Operand} {u r:Value} (ho:o.op = .unOp b t x) (hx:ρ x = .v u)
  (h:∀ w:World,(Op.unary b u).run P w = .ok r w):Yd P o ρ σ (.v r):=by
 intro w X η hη hst;obtain⟨dst,op,ty,pos,aft,g⟩:=o;simp only at ho;subst ho;have h1:=(hη x (by simp [Op.operands])).val hx;have:=h w;rw [← h1] at this;exact ag4 this (Ex.refl w) (.v _)
end
abbrev W32:=BitVec 32
abbrev wV (x:W32):Value:=.int .u32 ((x.toNat:Nat):Int)
abbrev wD (x:W32):D:=.v (wV x)
theorem bE2 (n:Nat) (x:BitVec n):BitVec.ofInt n ((x.toNat:Nat):Int)=x:=by
 rw [BitVec.ofInt_natCast];simp
theorem ck2 (x:W32):IntKind.u32.wrap ((x.toNat:Nat):Int)=((x.toNat:Nat):Int):=by
 have:=x.isLt;rw [IntKind.wrap_u32];omega
section
variable {P:Program} {t:TypeId} {p q:Operand} {w:World}
theorem cw1 (x y:W32):(do eqGuard .or t p q (wV x) (wV y);binOp .or t (wV x) (wV y)).run P w = .ok (wV (x ||| y)) w:=by
 show Result.ok (Value.int .u32 (IntKind.u32.wrap (((BitVec.ofInt 32 ((x.toNat:Nat):Int) ||| BitVec.ofInt 32 ((y.toNat:Nat):Int)).toNat:Nat):Int))) w=_;rw [bE2,bE2,ck2]
theorem bQ6 (a n:Nat):((a:Nat):Int).fdiv (2 ^ n)=((a/2 ^ n:Nat):Int):=by
 rw [Int.fdiv_eq_ediv_of_nonneg _ (by exact Int.pow_nonneg (by decide))];simp
theorem aC6 (kk:IntKind) (a:Nat) (k:IntKind) (n:Nat) (hn:n<=kk.bits):(do eqGuard .shr t p q (.int kk (a:Int)) (.int k (n:Int));binOp .shr t (.int kk (a:Int)) (.int k (n:Int))).run P w = .ok (.int kk ((a/2 ^ n:Nat):Int)) w:=by
 have hm:min n kk.bits=n:=by omega
 show (Op.shift .shr kk (a:Int) k (n:Int)).run P w=_;unfold Op.shift;rw [if_neg (by omega),Int.toNat_natCast,hm]
 show Result.ok (Value.int kk ((a:Int).fdiv (2 ^ n))) w=_;rw [bQ6]
theorem cm3 (x:W32) (k:IntKind) (n:Nat) (hn:n<=32):(do eqGuard .shl t p q (wV x) (.int k (n:Int));binOp .shl t (wV x) (.int k (n:Int))).run P w = .ok (wV (x <<< n)) w:=by
 have hm:min n IntKind.u32.bits=n:=by show min n 32=n;omega
 show (Op.shift .shl .u32 _ k (n:Int)).run P w=_;unfold Op.shift;rw [if_neg (by omega),Int.toNat_natCast,hm]
 show Result.ok (Value.int .u32 (IntKind.u32.wrap (((x.toNat:Nat):Int)*2 ^ n))) w=_;have e:((x.toNat:Nat):Int)*2 ^ n=((x.toNat*2 ^ n:Nat):Int):=by simp
 rw [e,IntKind.wrap_u32];have h:(x <<< n).toNat=x.toNat*2 ^ n%4294967296:=by rw [BitVec.toNat_shiftLeft,Nat.shiftLeft_eq]
 unfold wV;rw [h]
 congr 2
theorem cm2 (x:W32) (k:IntKind) (n:Nat) (hn:n<=32):(do eqGuard .shr t p q (wV x) (.int k (n:Int));binOp .shr t (wV x) (.int k (n:Int))).run P w = .ok (wV (x >>> n)) w:=by
 have h:=aC6 (P:=P) (t:=t) (p:=p) (q:=q) (w:=w) .u32 x.toNat k n hn;rw [← Nat.shiftRight_eq_div_pow,← BitVec.toNat_ushiftRight] at h;exact h
def wO:=@Nat.mod_eq_of_lt
theorem aX8 (kk:IntKind) (b:BinOp) (f:Nat->Nat->Nat) (hb:(b = .xor/\f=fun x y=>x ^^^ y)\/(b = .or/\f=fun x y=>x ||| y)\/(b = .and/\f=fun x y=>x &&& y)) (hu:kk.signed=false) (x y:Nat) (hx:x<2 ^ kk.bits) (hy:y<2 ^ kk.bits) :
  (do eqGuard b t p q (.int kk (x:Int)) (.int kk (y:Int));binOp b t (.int kk (x:Int)) (.int kk (y:Int))).run P w = .ok (.int kk ((f x y:Nat):Int)) w:=by
 have hw:∀ z:Nat,z<2 ^ kk.bits->kk.wrap (z:Int)=z:=by
  intro z hz;unfold IntKind.wrap;rw [hu];simp only [Bool.false_and,wG,uC];rw [Int.emod_eq_of_lt (by omega) (by exact_mod_cast hz)]
 have h1:∀ z:Nat,BitVec.ofInt kk.bits (z:Int)=BitVec.ofNat kk.bits z:=fun z=>BitVec.ofInt_natCast ..;rcases hb with ⟨rfl,rfl⟩|⟨rfl,rfl⟩|⟨rfl,rfl⟩
 ·have:=hw (x ^^^ y) (Nat.xor_lt_two_pow hx hy);simp [eqGuard,binOp,Op.intBits,h1,wO hx,wO hy,this]
 ·have:=hw (x ||| y) (Nat.or_lt_two_pow hx hy);simp [eqGuard,binOp,Op.intBits,h1,wO hx,wO hy,this]
 ·have:=hw (x &&& y) (Nat.and_lt_two_pow x hy);simp [eqGuard,binOp,Op.intBits,h1,wO hx,wO hy,this]
theorem cb4 (kk:IntKind) (hu:kk.signed=false) (x:Nat) (hx:x<2 ^ kk.bits):(Op.unary .xor (.int kk (x:Int))).run P w = .ok (.int kk ((2 ^ kk.bits-1-x:Nat):Int)) w:=by
 have hw:∀ z:Nat,z<2 ^ kk.bits->kk.wrap (z:Int)=z:=by
  intro z hz;unfold IntKind.wrap;rw [hu];simp only [Bool.false_and,wG,uC];rw [Int.emod_eq_of_lt (by omega) (by exact_mod_cast hz)]
 have h1:∀ z:Nat,BitVec.ofInt kk.bits (z:Int)=BitVec.ofNat kk.bits z:=fun z=>BitVec.ofInt_natCast ..;have h2:kk.max=((2 ^ kk.bits-1:Nat):Int):=by
  unfold IntKind.max;rw [hu];have:0<2 ^ kk.bits:=Nat.pow_pos (by decide);simp only [wG,uC];rw [Int.ofNat_sub (by omega)];simp
 have h3:(BitVec.ofNat kk.bits (2 ^ kk.bits-1) ^^^ BitVec.ofNat kk.bits x).toNat=2 ^ kk.bits-1-x:=by
  have e1:BitVec.ofNat kk.bits (2 ^ kk.bits-1)=BitVec.allOnes kk.bits:=by
   apply BitVec.eq_of_toNat_eq;simp
  rw [e1,BitVec.allOnes_xor,BitVec.toNat_not,BitVec.toNat_ofNat,wO hx]
 simp only [Op.unary,hu,wG,uC,Op.intBits,h2,h1,h3];rw [hw _ (by have:0<2 ^ kk.bits:=Nat.pow_pos (by decide);omega)]
 rfl
end
end
namespace Go
section
variable {P:Program} {b:Frame} {a:Act} {k:List Item} {cs:List Frame} {w:World} {F:Fence} {n:Nat} {Q:Exit->Act->World->Prop}
theorem an9 {c:Code}:step P (lone (b.atR a (.code (.scope c)::k)) cs w) = .next (lone (b.atR a (.code c::.inScope c::k)) cs w):=
 step_lone_go (by simp [stepG,stepG.exec,Frame.atR])
theorem aR9 {c:Code}:step P (lone (b.atR a (.inScope c::k)) cs w) = .next (lone (b.atR a k) cs w):=
 step_lone_go (by simp [stepG,stepG.exec,Frame.atR])
theorem bi1 {c:Code} (h:c.wpIn F n P (Exit.noGoto Q) a w):(Code.scope c).wpIn F n P Q a w:=by
 intro b k cs hro hb hr;have h0:(lone (b.atR a (.code (.scope c)::k)) cs w).fenced P F:=fenced_calm hb hr rfl;obtain⟨e,a₁,w₁,hq,harr⟩:=h b (.inScope c::k) cs hro hb hr
 cases e with
 | normal=>exact⟨.normal,a₁,w₁,hq,.head h0 an9 (StepsIn.trans harr (.one (fenced_calm hb hr rfl) aR9))⟩
 | exit id=>
  have hx:exitTo id (.inScope c::k)=exitTo id k:=by simp [exitTo]
  exact⟨.exit id,a₁,w₁,hq,fun k' hk=>.head h0 an9 (harr.1 k' (by rw [hx];exact hk)),
   fun hr' hk=>let ⟨k₁,h1,h2⟩:=harr.2 hr' (by rw [hx];exact hk);⟨k₁,h1,.head h0 an9 h2⟩⟩
 | goto l=>exact hq.elim
 | ret=>exact⟨_,a₁,w₁,hq,.of_steps (.one h0 an9) harr⟩
 | panic ch=>exact⟨_,a₁,w₁,hq,.of_steps (.one h0 an9) harr⟩
 | outgrown=>exact⟨_,a₁,w₁,hq,.of_steps (.one h0 an9) harr⟩
end
end Go
section
open Go Go.RowKit Go.Shelf
section
variable {P:Program} {r:Option Nat} {n:Nat} {df:Nat} {N:Nat} {σ:aa1} {f:Frm} {a:List D} {T:TypeId->Option TI} {Q:Fst}
def cd3 (Q:Pst):Pst
 | .goto _,_,_=>False
 | e,a,σ=>Q e a σ
def cd2 (Q:Fst):Fst
 | .goto _,_,_=>False
 | e,f,σ=>Q e f σ
theorem bI8 {c:Code} {Q:Pst} (h:AWP P r n df c (cd3 Q) a σ):AWP P r n df (.scope c) Q a σ:=by
 refine⟨fun w X fr hs=>bi1 (wpIn_mono (h.run w X fr hs) ?_)⟩;rintro e fr' w' ⟨a',σ',h1,h2,h3⟩
 cases e with
 | goto l=>exact h1.elim
 | _=>exact⟨a',σ',h1,h2,h3⟩
theorem bJ0 {l:Nat} {Q:Pst} (h:Q .normal a σ):AWP P r n df (.label l) Q a σ:=⟨fun w X fr hs=>wpIn_label ⟨a,σ,h,hs,Mv.refl _ _⟩⟩
theorem ab4 (hm:P.follows .mixedOrders=true) (hT:∀ t i,T t=some i->tiOf P t=some i) {c:Code} (h:W (ao9 P T r n df N c (cd2 Q) f σ)):Lp P r n df N (.scope c) Q f σ:=by
 refine⟨fun a hs=>bI8 (as4 (ao8 hm hT h.h hs) ?_)⟩;rintro e a' σ' ⟨f',h1,h2⟩
 cases e with
 | goto l=>exact h2.elim
 | _=>exact⟨f',h1,h2⟩
theorem ab5 {l:Nat} (h:W (Q .normal f σ)):Lp P r n df N (.label l) Q f σ:=⟨fun a hs=>bJ0 ⟨f,hs,h.h⟩⟩
end
end
section
open Go
def nb (m:Nat):Nat:=if h:m=0 then 0 else nb (m/256)+1
termination_by m
decreasing_by exact Nat.div_lt_self (Nat.pos_of_ne_zero h) (by decide)
theorem bj9:nb 0=0:=by rw [nb];simp
theorem bE4 {m:Nat} (h:m≠0):nb m=nb (m/256)+1:=by rw [nb];simp [h]
theorem cp1:∀ (m:Nat),m<256 ^ nb m
 | m=>by
  by_cases h:m=0
  ·subst h;rw [bj9];decide
  ·rw [bE4 h,Nat.pow_succ];have h1:=cp1 (m/256);omega
termination_by m=>m
decreasing_by exact Nat.div_lt_self (Nat.pos_of_ne_zero h) (by decide)
theorem cp2:∀ (m:Nat),m≠0->256 ^ (nb m-1)<=m
 | m,h=>by
  rw [bE4 h,Nat.add_sub_cancel];by_cases h0:m/256=0
  ·rw [h0,bj9];omega
  ·have h1:=cp2 (m/256) h0;have h2:nb (m/256)=nb (m/256)-1+1:=by rw [bE4 h0];simp
   rw [h2,Nat.pow_succ];omega
termination_by m=>m
decreasing_by exact Nat.div_lt_self (Nat.pos_of_ne_zero h) (by decide)
theorem bq5 (m j:Nat):m/256 ^ j=0↔nb m<=j:=by
 constructor
 ·intro h;by_cases h0:m=0
  ·subst h0;rw [bj9];omega
  ·have a2:=cp2 m h0;have h1:m<256 ^ j:=by
    have:=(Nat.div_eq_zero_iff).1 h;have hp:0<256 ^ j:=Nat.pow_pos (by decide);omega
   rcases wU j (nb m) with h3|h3
   ·have:256 ^ j<=256 ^ (nb m-1):=Nat.pow_le_pow_right (by decide) (by omega);omega
   ·exact h3
 ·intro h;have a1:=cp1 m;have:256 ^ nb m<=256 ^ j:=Nat.pow_le_pow_right (by decide) h;exact Nat.div_eq_of_lt (by omega)
theorem ba0 {m:Nat} (h:m<9223372036854775808):nb m<=8:=by
 rw [← bq5];exact Nat.div_eq_of_lt (by omega)
def dig:Nat->Nat->List Nat
 | 0,_=>[]
 | k+1,m=>dig k (m/256)++[m%256]
theorem aj3:∀ (k m:Nat),(dig k m).length=k
 | 0,_=>rfl
 | k+1,m=>by rw [dig,zI,aj3 k];rfl
def wH:=@Nat.sub_self
theorem az9:∀ (k m q:Nat),q<k->(dig k m)[q]?=some (m/256 ^ (k-1-q)%256)
 | 0,_,q,h=>by omega
 | k+1,m,q,h=>by
  rw [dig];by_cases hq:q<k
  ·rw [yP (by rw [aj3];exact hq),az9 k _ q hq,Nat.div_div_eq_div_mul,show k+1-1-q=(k-1-q)+1 by omega,Nat.pow_succ,Nat.mul_comm 256]
  ·obtain rfl:q=k:=by omega
   rw [yK (by rw [aj3];exact zT _),aj3,wH,show q+1-1-q=0 by omega];simp
def ac7 (neg:Bool) (d:Nat):Nat:=if neg then 255-d else d
def az3 (n:Int):Nat:=if n<0 then (-1-n).toNat else n.toNat
def encI (n:Int):List Nat:=ac7 (decide (n<0)) (128+nb (az3 n))::(dig (nb (az3 n)) (az3 n)).map (ac7 (decide (n<0)))
def encL (l:List Int):List Nat:=encI l.length++l.flatMap encI
theorem bq7 {n:Int} (h:InR n):az3 n<9223372036854775808:=by
 have h1:=h.lo;have h2:=h.hi;unfold az3;split<;>omega
theorem bR1 (n:Int):(encI n).length=nb (az3 n)+1:=by unfold encI;rw [List.length_cons,zL,aj3]
theorem aj2 {n:Int} (h:InR n):(encI n).length<=9:=by have:=ba0 (bq7 h);rw [bR1];omega
end
section
open Go
section
variable {α β:Type}
end
def encK (l:List (List Int)):List Nat:=encI l.length++l.flatMap encL
def encW (w:List (List (List Int))):List Nat:=encI w.length++w.flatMap encK
section
variable {α:Type} {f:List Nat->α × Nat × Int} {c:Int}
end
structure WdR (w:List (List (List Int))):Prop where
 k:InR w.length
 n:∀ l∈w,InR l.length
 f:∀ l∈w,∀ r∈l,InR r.length
 v:∀ l∈w,∀ r∈l,∀ v∈r,InR v
end
section
open Go
abbrev yD (b:Nat):D:=.v (.int .u8 (b:Int))
abbrev yC (b:Nat):List D:=[yD b]
abbrev slY (l:List Nat):D:=.sl 1 (l.map yC)
abbrev RY:ORep (List Nat):=fun l v s=>RowIs 5 1 (l.map yC) v s
theorem co6 (l:List Nat):((l.map yC).all fun y=>y.all oneD)=true:=by rw [yA];intro y hy;obtain⟨b,_,rfl⟩:=xM.1 hy;rfl
section
variable {P:Program} {σ:aa1} {ρ:Operand->D}
theorem aj6 {o:Oper} {s d:TypeId} {x:Operand} {k k':IntKind} {n m:Int} (ho:o.op = .convert s d x) (hx:ρ x = .v (.int k n)) {ds:TypeDesc} (h1:P.underlying s=some ds) (h2:P.underlying d=some (.int k')) (hn:k'.wrap n=m):Yd P o ρ σ (.v (.int k' m)):=by
 intro w X η hη hst;obtain⟨dst,op,ty,pos,aft,g⟩:=o;simp only at ho;subst ho;have h:=(hη x (by simp [Op.operands])).val hx;refine ag4 (s:=convert s d (η x)) (u:=.int k' m) ?_ (Ex.refl w) (.v _);rw [h]
 cases ds<;>simp [convert,run_underlying h1,run_underlying h2,Conv.intToInt,hn]
end
theorem aU1 (j:Nat):2 ^ (8*j)=256 ^ j:=by rw [Nat.pow_mul]
theorem ck1 {d:Nat} (h:d<256):d ^^^ 255=255-d:=by
 have h1:d ^^^ 255=(BitVec.ofNat 8 d ^^^ BitVec.allOnes 8).toNat:=by
  rw [BitVec.toNat_xor,BitVec.toNat_ofNat,BitVec.toNat_allOnes,wO (by simpa using h)]
 rw [h1,BitVec.xor_allOnes,BitVec.toNat_not,BitVec.toNat_ofNat,wO (by simpa using h)]
theorem ca2 {n:Int} (h:InR n) (h0:n<0):IntKind.u64.wrap n=((18446744073709551615-az3 n:Nat):Int):=by
 have h1:=h.lo;have h2:=bq7 h;have e:az3 n=(-1-n).toNat:=by unfold az3;rw [if_pos h0]
 rw [IntKind.wrap_u64];omega
theorem ca0 {n:Int} (h:InR n) (h0:¬ n<0):IntKind.u64.wrap n=((az3 n:Nat):Int):=by
 have h1:=h.hi;have e:az3 n=n.toNat:=by unfold az3;rw [if_neg h0]
 rw [IntKind.wrap_u64];omega
theorem bE5 {m k:Nat} (h:nb m<=k+1) (h0:¬ 0<m/2 ^ (8*k)):nb m<=k:=by
 rw [← bq5,← aU1];exact Nat.eq_zero_of_not_pos h0
theorem cp3 {m k:Nat} (h:nb m<=k+1) (h0:0<m/2 ^ (8*k)):nb m=k+1:=by
 have:¬ nb m<=k:=fun h1=>by rw [← bq5,← aU1] at h1;rw [h1] at h0;exact absurd h0 (by decide)
 omega
theorem aH1 {e:TypeId} {k:Nat} {xs:List (List D)} (b:Nat) (h:∀ x∈xs,x.length=k) (hm:xs.length<=maxLen):RowIs e k xs (.slice (some ⟨b,0,none⟩) xs.length xs.length) [(b,.cells e xs.flatten)]:=
 ⟨h,.inr ⟨b,xs.length,[],rfl,by simp,zT _,hm,by simp,fun d hd=>by cases hd⟩⟩
section
variable {P:Program} {t:TypeId} {p q:Operand} {w:World}
theorem x255 {d:Nat} (h:d<256):(do eqGuard .xor t p q (.int .u8 (d:Int)) (.int .u8 255);binOp .xor t (.int .u8 (d:Int)) (.int .u8 255)).run P w = .ok (.int .u8 ((ac7 true d:Nat):Int)) w:=by
 have h1:=aX8 (P:=P) (t:=t) (p:=p) (q:=q) (w:=w) .u8 .xor (fun x y=>x ^^^ y) (.inl ⟨rfl,rfl⟩) rfl d 255 h (by decide);rw [ck1 h] at h1;exact h1
theorem x0 {d:Nat} (h:d<256):(do eqGuard .xor t p q (.int .u8 (d:Int)) (.int .u8 0);binOp .xor t (.int .u8 (d:Int)) (.int .u8 0)).run P w = .ok (.int .u8 ((ac7 false d:Nat):Int)) w:=by
 have h1:=aX8 (P:=P) (t:=t) (p:=p) (q:=q) (w:=w) .u8 .xor (fun x y=>x ^^^ y) (.inl ⟨rfl,rfl⟩) rfl d 0 h (by decide);rw [Nat.xor_zero] at h1;exact h1
theorem cw4 {m:Nat} (h:m<9223372036854775808):(Op.unary .xor (.int .u64 ((18446744073709551615-m:Nat):Int))).run P w = .ok (.int .u64 (m:Int)) w:=by
 have h1:=cb4 (P:=P) (w:=w) .u64 rfl (18446744073709551615-m) (by show _<18446744073709551616;omega);rw [show 2 ^ IntKind.u64.bits-1-(18446744073709551615-m)=m from by show 18446744073709551616-1-(18446744073709551615-m)=m;omega] at h1;exact h1
end
theorem sk82 {A B:Prop} (k:B) (h:Hd7 B->A:=by intro q7;(first|refine sb0 ?_|refine sb65 ?_|(refine' cp7x ?hc ?_;(case hc=>fail)));exact q7.1):A:=h ⟨k⟩
theorem cl16 {p:Prop} (h:p:=by intro x hx;rw [zN] at hx;subst hx;rfl):p:=h
theorem cl17 {p:Prop} (h:p:=by rw [xC,hd];simp only [Option.toList_some,yB,List.map_cons,List.map_nil,List.cons_append]):p:=h
def yL:=@List.take_of_length_le
theorem bU1 (n:Int) (hn:InR n):ACall prog 37 [iD n] [] (fun d s=>∃ v,d = .v v/\RY (encI n) v s):=by
 have h1:=hn.lo;have h2:=hn.hi;have hm:=bq7 hn;have hk8:=ba0 hm;obtain⟨m,hmm⟩:∃ m,m=az3 n:=⟨_,rfl⟩
 rw [← hmm] at hm hk8;by_cases h0:n<0
 ·obtain⟨neg,hneg⟩:∃ b,b=true:=⟨_,rfl⟩
  have hE:encI n=ac7 neg (128+nb m)::(dig (nb m) m).map (ac7 neg):=by unfold encI;rw [hmm,hneg,yJ h0]
  rw [hE];have hx:∀ {d:Nat} {t p q} {w:World},d<256->(do eqGuard .xor t p q (.int .u8 (d:Int)) (.int .u8 255);binOp .xor t (.int .u8 (d:Int)) (.int .u8 255)).run prog w = .ok (.int .u8 ((ac7 neg d:Nat):Int)) w:=fun h=>by rw [hneg];exact x255 h
  refine eC7 func37 ntmps37 fun BB=>?_
  repeat' first|refine sk2 ?_|intro b;conv=>whnf|(with_reducible refine ab4 mixed aa0 ?_)|(with_reducible refine ab5 ?_)
  refine Ot.yd (aj6 (m:=((18446744073709551615-m:Nat):Int)) rfl rfl underlying3 underlying167 (by rw [hmm];exact ca2 hn h0)) ?_
  repeat' first|refine sk2 ?_|intro b;conv=>whnf|(with_reducible refine ab4 mixed aa0 ?_)|(with_reducible refine ab5 ?_)
  refine Ot.yd (cv3 (r:=.int .u64 (m:Int)) rfl rfl (fun w=>cw4 hm)) ?_
  repeat' first|refine sk2 ?_|intro b;conv=>whnf|(with_reducible refine ab4 mixed aa0 ?_)|(with_reducible refine ab5 ?_)
  refine ac6 mixed aa0 (γ:=Nat) (fun k=>[(5,iD k)]) (fun _=>[]) (fun k=>k<=8/\nb m<=k) (fun k=>k) 8 rfl rfl ⟨zT _,hk8⟩ ?_;rintro k ⟨hk1,hk2⟩;by_cases hk0:k=0
  ·have hk3:nb m=0:=by omega
   obtain rfl:k=nb m:=by omega
   clear hk0
   repeat' first|refine sk2 ?_|intro b;conv=>whnf|(with_reducible refine ab4 mixed aa0 ?_)|(with_reducible refine ab5 ?_)
   refine Ot.yd (aj6 (m:=((128+nb m:Nat):Int)) rfl rfl underlying3 underlying5 (by rw [IntKind.wrap_u8];omega)) ?_
   repeat' first|refine sk2 ?_|intro b;conv=>whnf|(with_reducible refine ab4 mixed aa0 ?_)|(with_reducible refine ab5 ?_)
   refine Ot.yd (ai3 (r:=.int .u8 ((ac7 neg (128+nb m):Nat):Int)) rfl rfl rfl (fun w=>hx (by omega))) ?_
   repeat' first|refine sk82 ?_|intro b;conv=>whnf|(with_reducible refine ab4 mixed aa0 ?_)|(with_reducible refine ab5 ?_)
   refine Bx.r ?_;refine pA9 aa0 rfl rfl rfl rfl rfl rfl rfl rfl rfl rfl (by decide) (fun bo=>?_)
   repeat' first|refine sk2 ?_|intro b;conv=>whnf|(with_reducible refine ab4 mixed aa0 ?_)|(with_reducible refine ab5 ?_)
   refine aa5 mixed aa0 (γ:=Nat × Value × aa1) (fun g=>[(6,.v g.2.1),(7,iD ((nb m:Int)-1-g.1))]) (fun g=>g.2.2) (fun g=>g.1<=nb m/\RY (ac7 neg (128+nb m)::((dig (nb m) m).take g.1).map (ac7 neg)) g.2.1 g.2.2) (fun g=>nb m-g.1) (0,.slice (some ⟨bo,0,none⟩) 1 1,[(bo,.cells 5 (yC (ac7 neg (128+nb m))))]) (aa2 cl4) (Sc.refl _) ⟨zW _,aH1 (xs:=[yC (ac7 neg (128+nb m))]) bo cl16 (by show 1<=maxLen;decide)⟩ ?_;rintro⟨j,v,s⟩ ⟨hj,hrow⟩;simp only at hj hrow ⊢;by_cases hjl:j<nb m
   ·have hd:=az9 (nb m) m j hjl;obtain⟨i,hi⟩:∃ i:Nat,nb m-1-j=i:=⟨_,rfl⟩
    have hi2:(nb m:Int)-1-j=(i:Int):=by omega
    rw [hi] at hd;rw [hi2];have hdl:(dig (nb m) m).length=nb m:=aj3 _ _
    repeat' first|refine sk2 ?_|intro b;conv=>whnf|(with_reducible refine ab4 mixed aa0 ?_)|(with_reducible refine ab5 ?_)
    refine Ot.yd (ai3 (r:=.int .u64 ((m/2 ^ (8*i):Nat):Int)) rfl rfl rfl (fun w=>by rw [show (8:Int)*(i:Int)=((8*i:Nat):Int) by omega];exact aC6 .u64 m .i64 (8*i) (by show 8*i<=64;omega))) ?_
    repeat' first|refine sk2 ?_|intro b;conv=>whnf|(with_reducible refine ab4 mixed aa0 ?_)|(with_reducible refine ab5 ?_)
    refine Ot.yd (aj6 (m:=((m/256 ^ i%256:Nat):Int)) rfl rfl underlying167 underlying5 (by rw [IntKind.wrap_u8,aU1];omega)) ?_
    repeat' first|refine sk2 ?_|intro b;conv=>whnf|(with_reducible refine ab4 mixed aa0 ?_)|(with_reducible refine ab5 ?_)
    refine Ot.yd (ai3 (r:=.int .u8 ((ac7 neg (m/256 ^ i%256):Nat):Int)) rfl rfl rfl (fun w=>hx (vM _ (by decide)))) ?_
    repeat' first|refine sk2 ?_|intro b;conv=>whnf|(with_reducible refine ab4 mixed aa0 ?_)|(with_reducible refine ab5 ?_)
    have hrow2:RowIs 5 1 ((ac7 neg (128+nb m)::((dig (nb m) m).take j).map (ac7 neg)).map yC) v s:=hrow;refine Ap.go rfl rfl rfl rfl hrow2 (by simp:s.Perm (s++[])) rfl (zs:=(ac7 neg (128+nb m)::((dig (nb m) m).take (j+1)).map (ac7 neg)).map yC) cl17 (by simp;omega) (by simp;omega) (fun s'=>s') (fun s'=>by simp) (fun a' c' s' hr'=>?_)
    repeat' first|refine sk2 ?_|intro b;conv=>whnf|(with_reducible refine ab4 mixed aa0 ?_)|(with_reducible refine ab5 ?_)
    exact⟨(j+1,_,s'),(aa2 cl4),Sc.refl _,⟨by simp only;omega,hr'⟩,by simp only;omega⟩
   ·obtain rfl:j=nb m:=by omega
    repeat' first|refine sk2 ?_|intro b;conv=>whnf|(with_reducible refine ab4 mixed aa0 ?_)|(with_reducible refine ab5 ?_)
    rw [yL (by rw [aj3];exact zT _)] at hrow;exact Rt.same ⟨_,rfl,hrow⟩
  ·obtain⟨k,rfl⟩:∃ j,k=j+1:=⟨k-1,by omega⟩
   repeat' first|refine sk2 ?_|intro b;conv=>whnf|(with_reducible refine ab4 mixed aa0 ?_)|(with_reducible refine ab5 ?_)
   refine Ot.yd (ai3 (r:=.int .u64 ((m/2 ^ (8*k):Nat):Int)) rfl rfl rfl (fun w=>by rw [show (8:Int)*(((k+1:Nat):Int)-1)=((8*k:Nat):Int) by omega];exact aC6 .u64 m .i64 (8*k) (by show 8*k<=64;omega))) ?_;by_cases hq:0<m/2 ^ (8*k)
   ·have hk0:=cp3 hk2 hq;generalize m/2 ^ (8*k)=g at *
    repeat' first|refine sk2 ?_|intro b;conv=>whnf|(with_reducible refine ab4 mixed aa0 ?_)|(with_reducible refine ab5 ?_)
    rw [← hk0]
    repeat' first|refine sk2 ?_|intro b;conv=>whnf|(with_reducible refine ab4 mixed aa0 ?_)|(with_reducible refine ab5 ?_)
    refine Ot.yd (aj6 (m:=((128+nb m:Nat):Int)) rfl rfl underlying3 underlying5 (by rw [IntKind.wrap_u8];omega)) ?_
    repeat' first|refine sk2 ?_|intro b;conv=>whnf|(with_reducible refine ab4 mixed aa0 ?_)|(with_reducible refine ab5 ?_)
    refine Ot.yd (ai3 (r:=.int .u8 ((ac7 neg (128+nb m):Nat):Int)) rfl rfl rfl (fun w=>hx (by omega))) ?_
    repeat' first|refine sk82 ?_|intro b;conv=>whnf|(with_reducible refine ab4 mixed aa0 ?_)|(with_reducible refine ab5 ?_)
    refine Bx.r ?_;refine pA9 aa0 rfl rfl rfl rfl rfl rfl rfl rfl rfl rfl (by decide) (fun bo=>?_)
    repeat' first|refine sk2 ?_|intro b;conv=>whnf|(with_reducible refine ab4 mixed aa0 ?_)|(with_reducible refine ab5 ?_)
    refine aa5 mixed aa0 (γ:=Nat × Value × aa1) (fun g=>[(6,.v g.2.1),(7,iD ((nb m:Int)-1-g.1))]) (fun g=>g.2.2) (fun g=>g.1<=nb m/\RY (ac7 neg (128+nb m)::((dig (nb m) m).take g.1).map (ac7 neg)) g.2.1 g.2.2) (fun g=>nb m-g.1) (0,.slice (some ⟨bo,0,none⟩) 1 1,[(bo,.cells 5 (yC (ac7 neg (128+nb m))))]) (aa2 cl4) (Sc.refl _) ⟨zW _,aH1 (xs:=[yC (ac7 neg (128+nb m))]) bo cl16 (by show 1<=maxLen;decide)⟩ ?_;rintro⟨j,v,s⟩ ⟨hj,hrow⟩;simp only at hj hrow ⊢;by_cases hjl:j<nb m
    ·have hd:=az9 (nb m) m j hjl;obtain⟨i,hi⟩:∃ i:Nat,nb m-1-j=i:=⟨_,rfl⟩
     have hi2:(nb m:Int)-1-j=(i:Int):=by omega
     rw [hi] at hd;rw [hi2];have hdl:(dig (nb m) m).length=nb m:=aj3 _ _
     repeat' first|refine sk2 ?_|intro b;conv=>whnf|(with_reducible refine ab4 mixed aa0 ?_)|(with_reducible refine ab5 ?_)
     refine Ot.yd (ai3 (r:=.int .u64 ((m/2 ^ (8*i):Nat):Int)) rfl rfl rfl (fun w=>by rw [show (8:Int)*(i:Int)=((8*i:Nat):Int) by omega];exact aC6 .u64 m .i64 (8*i) (by show 8*i<=64;omega))) ?_
     repeat' first|refine sk2 ?_|intro b;conv=>whnf|(with_reducible refine ab4 mixed aa0 ?_)|(with_reducible refine ab5 ?_)
     refine Ot.yd (aj6 (m:=((m/256 ^ i%256:Nat):Int)) rfl rfl underlying167 underlying5 (by rw [IntKind.wrap_u8,aU1];omega)) ?_
     repeat' first|refine sk2 ?_|intro b;conv=>whnf|(with_reducible refine ab4 mixed aa0 ?_)|(with_reducible refine ab5 ?_)
     refine Ot.yd (ai3 (r:=.int .u8 ((ac7 neg (m/256 ^ i%256):Nat):Int)) rfl rfl rfl (fun w=>hx (vM _ (by decide)))) ?_
     repeat' first|refine sk2 ?_|intro b;conv=>whnf|(with_reducible refine ab4 mixed aa0 ?_)|(with_reducible refine ab5 ?_)
     have hrow2:RowIs 5 1 ((ac7 neg (128+nb m)::((dig (nb m) m).take j).map (ac7 neg)).map yC) v s:=hrow;refine Ap.go rfl rfl rfl rfl hrow2 (by simp:s.Perm (s++[])) rfl (zs:=(ac7 neg (128+nb m)::((dig (nb m) m).take (j+1)).map (ac7 neg)).map yC) cl17 (by simp;omega) (by simp;omega) (fun s'=>s') (fun s'=>by simp) (fun a' c' s' hr'=>?_)
     repeat' first|refine sk2 ?_|intro b;conv=>whnf|(with_reducible refine ab4 mixed aa0 ?_)|(with_reducible refine ab5 ?_)
     exact⟨(j+1,_,s'),(aa2 cl4),Sc.refl _,⟨by simp only;omega,hr'⟩,by simp only;omega⟩
    ·obtain rfl:j=nb m:=by omega
     repeat' first|refine sk2 ?_|intro b;conv=>whnf|(with_reducible refine ab4 mixed aa0 ?_)|(with_reducible refine ab5 ?_)
     rw [yL (by rw [aj3];exact zT _)] at hrow;exact Rt.same ⟨_,rfl,hrow⟩
   ·have hk0:=bE5 hk2 hq;generalize m/2 ^ (8*k)=g at *
    repeat' first|refine sk2 ?_|intro b;conv=>whnf|(with_reducible refine ab4 mixed aa0 ?_)|(with_reducible refine ab5 ?_)
    exact⟨k,(aa2 cl4),rfl,⟨by omega,hk0⟩,by omega⟩
 ·obtain⟨neg,hneg⟩:∃ b,b=false:=⟨_,rfl⟩
  have hE:encI n=ac7 neg (128+nb m)::(dig (nb m) m).map (ac7 neg):=by unfold encI;rw [hmm,hneg,yE h0]
  rw [hE];have hx:∀ {d:Nat} {t p q} {w:World},d<256->(do eqGuard .xor t p q (.int .u8 (d:Int)) (.int .u8 0);binOp .xor t (.int .u8 (d:Int)) (.int .u8 0)).run prog w = .ok (.int .u8 ((ac7 neg d:Nat):Int)) w:=fun h=>by rw [hneg];exact x0 h
  refine eC7 func37 ntmps37 fun BB=>?_
  repeat' first|refine sk2 ?_|intro b;conv=>whnf|(with_reducible refine ab4 mixed aa0 ?_)|(with_reducible refine ab5 ?_)
  refine Ot.yd (aj6 (m:=((m:Nat):Int)) rfl rfl underlying3 underlying167 (by rw [hmm];exact ca0 hn h0)) ?_
  repeat' first|refine sk2 ?_|intro b;conv=>whnf|(with_reducible refine ab4 mixed aa0 ?_)|(with_reducible refine ab5 ?_)
  refine ac6 mixed aa0 (γ:=Nat) (fun k=>[(5,iD k)]) (fun _=>[]) (fun k=>k<=8/\nb m<=k) (fun k=>k) 8 rfl rfl ⟨zT _,hk8⟩ ?_;rintro k ⟨hk1,hk2⟩;by_cases hk0:k=0
  ·have hk3:nb m=0:=by omega
   obtain rfl:k=nb m:=by omega
   clear hk0
   repeat' first|refine sk2 ?_|intro b;conv=>whnf|(with_reducible refine ab4 mixed aa0 ?_)|(with_reducible refine ab5 ?_)
   refine Ot.yd (aj6 (m:=((128+nb m:Nat):Int)) rfl rfl underlying3 underlying5 (by rw [IntKind.wrap_u8];omega)) ?_
   repeat' first|refine sk2 ?_|intro b;conv=>whnf|(with_reducible refine ab4 mixed aa0 ?_)|(with_reducible refine ab5 ?_)
   refine Ot.yd (ai3 (r:=.int .u8 ((ac7 neg (128+nb m):Nat):Int)) rfl rfl rfl (fun w=>hx (by omega))) ?_
   repeat' first|refine sk82 ?_|intro b;conv=>whnf|(with_reducible refine ab4 mixed aa0 ?_)|(with_reducible refine ab5 ?_)
   refine Bx.r ?_;refine pA9 aa0 rfl rfl rfl rfl rfl rfl rfl rfl rfl rfl (by decide) (fun bo=>?_)
   repeat' first|refine sk2 ?_|intro b;conv=>whnf|(with_reducible refine ab4 mixed aa0 ?_)|(with_reducible refine ab5 ?_)
   refine aa5 mixed aa0 (γ:=Nat × Value × aa1) (fun g=>[(6,.v g.2.1),(7,iD ((nb m:Int)-1-g.1))]) (fun g=>g.2.2) (fun g=>g.1<=nb m/\RY (ac7 neg (128+nb m)::((dig (nb m) m).take g.1).map (ac7 neg)) g.2.1 g.2.2) (fun g=>nb m-g.1) (0,.slice (some ⟨bo,0,none⟩) 1 1,[(bo,.cells 5 (yC (ac7 neg (128+nb m))))]) (aa2 cl4) (Sc.refl _) ⟨zW _,aH1 (xs:=[yC (ac7 neg (128+nb m))]) bo cl16 (by show 1<=maxLen;decide)⟩ ?_;rintro⟨j,v,s⟩ ⟨hj,hrow⟩;simp only at hj hrow ⊢;by_cases hjl:j<nb m
   ·have hd:=az9 (nb m) m j hjl;obtain⟨i,hi⟩:∃ i:Nat,nb m-1-j=i:=⟨_,rfl⟩
    have hi2:(nb m:Int)-1-j=(i:Int):=by omega
    rw [hi] at hd;rw [hi2];have hdl:(dig (nb m) m).length=nb m:=aj3 _ _
    repeat' first|refine sk2 ?_|intro b;conv=>whnf|(with_reducible refine ab4 mixed aa0 ?_)|(with_reducible refine ab5 ?_)
    refine Ot.yd (ai3 (r:=.int .u64 ((m/2 ^ (8*i):Nat):Int)) rfl rfl rfl (fun w=>by rw [show (8:Int)*(i:Int)=((8*i:Nat):Int) by omega];exact aC6 .u64 m .i64 (8*i) (by show 8*i<=64;omega))) ?_
    repeat' first|refine sk2 ?_|intro b;conv=>whnf|(with_reducible refine ab4 mixed aa0 ?_)|(with_reducible refine ab5 ?_)
    refine Ot.yd (aj6 (m:=((m/256 ^ i%256:Nat):Int)) rfl rfl underlying167 underlying5 (by rw [IntKind.wrap_u8,aU1];omega)) ?_
    repeat' first|refine sk2 ?_|intro b;conv=>whnf|(with_reducible refine ab4 mixed aa0 ?_)|(with_reducible refine ab5 ?_)
    refine Ot.yd (ai3 (r:=.int .u8 ((ac7 neg (m/256 ^ i%256):Nat):Int)) rfl rfl rfl (fun w=>hx (vM _ (by decide)))) ?_
    repeat' first|refine sk2 ?_|intro b;conv=>whnf|(with_reducible refine ab4 mixed aa0 ?_)|(with_reducible refine ab5 ?_)
    have hrow2:RowIs 5 1 ((ac7 neg (128+nb m)::((dig (nb m) m).take j).map (ac7 neg)).map yC) v s:=hrow;refine Ap.go rfl rfl rfl rfl hrow2 (by simp:s.Perm (s++[])) rfl (zs:=(ac7 neg (128+nb m)::((dig (nb m) m).take (j+1)).map (ac7 neg)).map yC) cl17 (by simp;omega) (by simp;omega) (fun s'=>s') (fun s'=>by simp) (fun a' c' s' hr'=>?_)
    repeat' first|refine sk2 ?_|intro b;conv=>whnf|(with_reducible refine ab4 mixed aa0 ?_)|(with_reducible refine ab5 ?_)
    exact⟨(j+1,_,s'),(aa2 cl4),Sc.refl _,⟨by simp only;omega,hr'⟩,by simp only;omega⟩
   ·obtain rfl:j=nb m:=by omega
    repeat' first|refine sk2 ?_|intro b;conv=>whnf|(with_reducible refine ab4 mixed aa0 ?_)|(with_reducible refine ab5 ?_)
    rw [yL (by rw [aj3];exact zT _)] at hrow;exact Rt.same ⟨_,rfl,hrow⟩
  ·obtain⟨k,rfl⟩:∃ j,k=j+1:=⟨k-1,by omega⟩
   repeat' first|refine sk2 ?_|intro b;conv=>whnf|(with_reducible refine ab4 mixed aa0 ?_)|(with_reducible refine ab5 ?_)
   refine Ot.yd (ai3 (r:=.int .u64 ((m/2 ^ (8*k):Nat):Int)) rfl rfl rfl (fun w=>by rw [show (8:Int)*(((k+1:Nat):Int)-1)=((8*k:Nat):Int) by omega];exact aC6 .u64 m .i64 (8*k) (by show 8*k<=64;omega))) ?_;by_cases hq:0<m/2 ^ (8*k)
   ·have hk0:=cp3 hk2 hq;generalize m/2 ^ (8*k)=g at *
    repeat' first|refine sk2 ?_|intro b;conv=>whnf|(with_reducible refine ab4 mixed aa0 ?_)|(with_reducible refine ab5 ?_)
    rw [← hk0]
    repeat' first|refine sk2 ?_|intro b;conv=>whnf|(with_reducible refine ab4 mixed aa0 ?_)|(with_reducible refine ab5 ?_)
    refine Ot.yd (aj6 (m:=((128+nb m:Nat):Int)) rfl rfl underlying3 underlying5 (by rw [IntKind.wrap_u8];omega)) ?_
    repeat' first|refine sk2 ?_|intro b;conv=>whnf|(with_reducible refine ab4 mixed aa0 ?_)|(with_reducible refine ab5 ?_)
    refine Ot.yd (ai3 (r:=.int .u8 ((ac7 neg (128+nb m):Nat):Int)) rfl rfl rfl (fun w=>hx (by omega))) ?_
    repeat' first|refine sk82 ?_|intro b;conv=>whnf|(with_reducible refine ab4 mixed aa0 ?_)|(with_reducible refine ab5 ?_)
    refine Bx.r ?_;refine pA9 aa0 rfl rfl rfl rfl rfl rfl rfl rfl rfl rfl (by decide) (fun bo=>?_)
    repeat' first|refine sk2 ?_|intro b;conv=>whnf|(with_reducible refine ab4 mixed aa0 ?_)|(with_reducible refine ab5 ?_)
    refine aa5 mixed aa0 (γ:=Nat × Value × aa1) (fun g=>[(6,.v g.2.1),(7,iD ((nb m:Int)-1-g.1))]) (fun g=>g.2.2) (fun g=>g.1<=nb m/\RY (ac7 neg (128+nb m)::((dig (nb m) m).take g.1).map (ac7 neg)) g.2.1 g.2.2) (fun g=>nb m-g.1) (0,.slice (some ⟨bo,0,none⟩) 1 1,[(bo,.cells 5 (yC (ac7 neg (128+nb m))))]) (aa2 cl4) (Sc.refl _) ⟨zW _,aH1 (xs:=[yC (ac7 neg (128+nb m))]) bo cl16 (by show 1<=maxLen;decide)⟩ ?_;rintro⟨j,v,s⟩ ⟨hj,hrow⟩;simp only at hj hrow ⊢;by_cases hjl:j<nb m
    ·have hd:=az9 (nb m) m j hjl;obtain⟨i,hi⟩:∃ i:Nat,nb m-1-j=i:=⟨_,rfl⟩
     have hi2:(nb m:Int)-1-j=(i:Int):=by omega
     rw [hi] at hd;rw [hi2];have hdl:(dig (nb m) m).length=nb m:=aj3 _ _
     repeat' first|refine sk2 ?_|intro b;conv=>whnf|(with_reducible refine ab4 mixed aa0 ?_)|(with_reducible refine ab5 ?_)
     refine Ot.yd (ai3 (r:=.int .u64 ((m/2 ^ (8*i):Nat):Int)) rfl rfl rfl (fun w=>by rw [show (8:Int)*(i:Int)=((8*i:Nat):Int) by omega];exact aC6 .u64 m .i64 (8*i) (by show 8*i<=64;omega))) ?_
     repeat' first|refine sk2 ?_|intro b;conv=>whnf|(with_reducible refine ab4 mixed aa0 ?_)|(with_reducible refine ab5 ?_)
     refine Ot.yd (aj6 (m:=((m/256 ^ i%256:Nat):Int)) rfl rfl underlying167 underlying5 (by rw [IntKind.wrap_u8,aU1];omega)) ?_
     repeat' first|refine sk2 ?_|intro b;conv=>whnf|(with_reducible refine ab4 mixed aa0 ?_)|(with_reducible refine ab5 ?_)
     refine Ot.yd (ai3 (r:=.int .u8 ((ac7 neg (m/256 ^ i%256):Nat):Int)) rfl rfl rfl (fun w=>hx (vM _ (by decide)))) ?_
     repeat' first|refine sk2 ?_|intro b;conv=>whnf|(with_reducible refine ab4 mixed aa0 ?_)|(with_reducible refine ab5 ?_)
     have hrow2:RowIs 5 1 ((ac7 neg (128+nb m)::((dig (nb m) m).take j).map (ac7 neg)).map yC) v s:=hrow;refine Ap.go rfl rfl rfl rfl hrow2 (by simp:s.Perm (s++[])) rfl (zs:=(ac7 neg (128+nb m)::((dig (nb m) m).take (j+1)).map (ac7 neg)).map yC) cl17 (by simp;omega) (by simp;omega) (fun s'=>s') (fun s'=>by simp) (fun a' c' s' hr'=>?_)
     repeat' first|refine sk2 ?_|intro b;conv=>whnf|(with_reducible refine ab4 mixed aa0 ?_)|(with_reducible refine ab5 ?_)
     exact⟨(j+1,_,s'),(aa2 cl4),Sc.refl _,⟨by simp only;omega,hr'⟩,by simp only;omega⟩
    ·obtain rfl:j=nb m:=by omega
     repeat' first|refine sk2 ?_|intro b;conv=>whnf|(with_reducible refine ab4 mixed aa0 ?_)|(with_reducible refine ab5 ?_)
     rw [yL (by rw [aj3];exact zT _)] at hrow;exact Rt.same ⟨_,rfl,hrow⟩
   ·have hk0:=bE5 hk2 hq;generalize m/2 ^ (8*k)=g at *
    repeat' first|refine sk2 ?_|intro b;conv=>whnf|(with_reducible refine ab4 mixed aa0 ?_)|(with_reducible refine ab5 ?_)
    exact⟨k,(aa2 cl4),rfl,⟨by omega,hk0⟩,by omega⟩
end
section
open Go
def rdig (m:Nat):List Nat:=(dig (nb m) m).reverse
theorem aL0 (m:Nat):(rdig m).length=nb m:=by unfold rdig;rw [List.length_reverse,aj3]
theorem aL1 {m i:Nat} (h:i<nb m):(rdig m)[i]?=some (m/256 ^ i%256):=by
 unfold rdig;rw [vS (by rw [aj3];exact h),aj3,az9 _ _ _ (by omega)]
 congr 3
 congr 1
 omega
theorem aB4 {m q:Nat}:0<m/256 ^ q↔q<nb m:=by
 rw [Nat.pos_iff_ne_zero,Ne,bq5];omega
section
variable {P:Program} {t:TypeId} {p q:Operand} {w:World}
theorem s255 {d:Nat} (h:d<256):(do eqGuard .sub t p q (.int .u8 255) (.int .u8 (d:Int));binOp .sub t (.int .u8 255) (.int .u8 (d:Int))).run P w = .ok (.int .u8 ((ac7 true d:Nat):Int)) w:=by
 show Result.ok (Value.int .u8 (IntKind.u8.wrap _)) w=_;have e:IntKind.u8.wrap (255-(d:Int))=((ac7 true d:Nat):Int):=by
  rw [IntKind.wrap_u8];unfold ac7;rw [if_pos rfl];omega
 rw [e]
end
theorem cl18 {p:Prop} (h:p:=by rw [Nat.pow_zero,Nat.div_one];exact (aa2 (by repeat (first|exact Chk.nil|refine Chk.cons rfl ?_|(refine Chk.cons (zM (fun n=>some (iD n)) ?h) ?_;(case h=>(first|omega|((try simp only [zL,zR,zI,List.length_cons,List.length_nil,zY,Nat.reduceAdd]);omega)))))))):p:=h
theorem cl19 {p:Prop} (h:p:=by rw [xC,hrg];simp only [Option.toList_some,yB,List.map_cons,List.map_nil]):p:=h
theorem cl20 {p:Prop} (h:p:=by rw [xC,hd];simp only [Option.toList_some,yB,List.map_cons,List.map_nil,List.cons_append];try simp only [hfl hneg]):p:=h
theorem bV3 (n:Int) (hn:InR n):ACall prog 39 [iD n] [] (fun d s=>∃ v,d = .v v/\RY (encI n) v s):=by
 have h1:=hn.lo;have h2:=hn.hi;have hm:=bq7 hn;have hk8:=ba0 hm;by_cases h0:n<0
 ·obtain⟨m,hmm⟩:∃ m,m=az3 n:=⟨_,rfl⟩
  rw [← hmm] at hm hk8;obtain⟨neg,hneg⟩:∃ b,b=true:=⟨_,rfl⟩
  have hE:encI n=ac7 neg (128+nb m)::(dig (nb m) m).map (ac7 neg):=by unfold encI;rw [hmm,hneg,yJ h0]
  have hnm:-1-n=(m:Int):=by rw [hmm];unfold az3;rw [if_pos h0];omega
  rw [hE];refine eC7 func39 ntmps39 fun BB=>?_
  repeat' first|refine sk2 ?_|intro b;conv=>whnf
  rw [hnm];refine aa5 mixed aa0 (γ:=Nat × Value × aa1) (fun g=>[(3,iD ((m/256 ^ g.1:Nat):Int)),(4,.v g.2.1)]) (fun g=>g.2.2) (fun g=>g.1<=nb m/\RY ((rdig m).take g.1) g.2.1 g.2.2) (fun g=>nb m-g.1) (0,.slice none 0 0,[]) cl18 (Sc.refl _) ⟨zW _,RowIs.nil _ _⟩ ?_;rintro⟨j,v,s⟩ ⟨hj,hrow⟩;simp only at hj hrow ⊢;have hrl:=aL0 m;by_cases hjl:j<nb m
  ·have hg:=aB4.2 hjl;have hrg:=aL1 (m:=m) hjl;have hnx:m/256 ^ (j+1)=m/256 ^ j/256:=by rw [Nat.pow_succ,Nat.div_div_eq_div_mul]
   have hlt:m/256 ^ j<=m:=Nat.div_le_self _ _;have hrow2:RowIs 5 1 (((rdig m).take j).map yC) v s:=hrow;generalize m/256 ^ j=g at *
   repeat' first|refine sk2 ?_|intro b;conv=>whnf
   refine Ot.yd (aj6 (m:=((g%256:Nat):Int)) rfl rfl underlying3 underlying5 (by rw [IntKind.wrap_u8,Int.tmod_eq_emod_of_nonneg (by omega)];omega)) ?_
   repeat' first|refine sk2 ?_|intro b;conv=>whnf
   refine Ap.go rfl rfl rfl rfl hrow2 (by simp:s.Perm (s++[])) rfl (zs:=((rdig m).take (j+1)).map yC) cl19 (by simp;omega) (by simp;omega) (fun s'=>s') (fun s'=>by simp) (fun a' c' s' hr'=>?_);have htd:((g:Int)).tdiv 256=((g/256:Nat):Int):=by rw [Int.tdiv_eq_ediv_of_nonneg (by omega)];omega
   repeat' first|refine sk2 ?_|intro b;conv=>whnf
   refine Sd.go ⟨by decide,by rw [htd];exact⟨by omega,by omega⟩⟩ ?_;rw [htd]
   repeat' first|refine sk2 ?_|intro b;conv=>whnf
   exact⟨(j+1,_,s'),(by simp only [hnx];exact (aa2 cl2)),Sc.refl _,⟨by simp only;omega,hr'⟩,by simp only;omega⟩
  ·obtain rfl:j=nb m:=by omega
   have hg:¬ 0<m/256 ^ nb m:=fun h=>by have:=aB4.1 h;omega
   have hg0:m/256 ^ nb m=0:=Nat.eq_zero_of_not_pos hg;rw [hg0];rw [yL (by omega)] at hrow;have hrd:RowIs 5 1 ((rdig m).map yC) v s:=hrow;obtain⟨a0,c0,rfl⟩:=hrd.slice;rw [zL,hrl] at hrd ⊢
   repeat' first|refine sk2 ?_|intro b;conv=>whnf
   refine Ot.yd (aj6 (m:=((ac7 neg (128+nb m):Nat):Int)) rfl rfl underlying3 underlying5 (by rw [IntKind.wrap_u8,hneg];unfold ac7;simp;omega)) ?_
   repeat' first|refine sk2 ?_|intro b;conv=>whnf
   refine Ap.go rfl rfl rfl rfl (RowIs.nil 5 1) (τ:=s) (zH s) rfl (zs:=[yC (ac7 neg (128+nb m))]) rfl (by simp) (by simp) (fun s'=>s'++s) (fun s'=>zH _) (fun a' c' so hro=>?_)
   repeat' first|refine sk2 ?_|intro b;conv=>whnf
   refine aj5 (i:=4) (d':=slY (rdig m)) (τ:=so) rfl (fun h=>by cases h) (Vs.row hrd yT) ?_;refine aa5 mixed aa0 (γ:=Nat × Value × aa1) (fun g=>[(6,.v g.2.1),(7,iD ((nb m:Int)-1-g.1))]) (fun g=>g.2.2) (fun g=>g.1<=nb m/\RY (ac7 neg (128+nb m)::((dig (nb m) m).take g.1).map (ac7 neg)) g.2.1 g.2.2) (fun g=>nb m-g.1) (0,_,so) (aa2 cl4) (Sc.refl _) ⟨zW _,hro⟩ ?_;clear hro hrd;rintro⟨j,v,s⟩ ⟨hj,hrow⟩;simp only at hj hrow ⊢;have hdl:(dig (nb m) m).length=nb m:=aj3 _ _;by_cases hjl:j<nb m
   ·have hd:=az9 (nb m) m j hjl;obtain⟨i,hi⟩:∃ i:Nat,nb m-1-j=i:=⟨_,rfl⟩
    have hi2:(nb m:Int)-1-j=(i:Int):=by omega
    rw [hi] at hd;rw [hi2];have hrg:=aL1 (m:=m) (i:=i) (by omega);have hrg':(rdig m)[((i:Nat):Int).toNat]?=some (m/256 ^ i%256):=hrg;have hrl:=aL0 m;have hrow2:RowIs 5 1 ((ac7 neg (128+nb m)::((dig (nb m) m).take j).map (ac7 neg)).map yC) v s:=hrow;have hlt:m/256 ^ i%256<256:=vM _ (by decide);generalize m/256 ^ i%256=d at *;have hfl:neg=false->ac7 neg d=d:=fun h=>by rw [h];rfl
    repeat' first|refine sk2 ?_|intro b;conv=>whnf
    first|(refine Ot.yd (ai3 (r:=.int .u8 ((ac7 neg d:Nat):Int)) rfl rfl rfl (fun w=>by rw [hneg];exact s255 hlt)) ?_;repeat' (first|refine sk2 ?_|intro b;conv=>whnf))|skip
    refine Ap.go rfl rfl rfl rfl hrow2 (by simp:s.Perm (s++[])) rfl (zs:=(ac7 neg (128+nb m)::((dig (nb m) m).take (j+1)).map (ac7 neg)).map yC) cl20 (by simp;omega) (by simp;omega) (fun s'=>s') (fun s'=>by simp) (fun a' c' s' hr'=>?_)
    repeat' first|refine sk2 ?_|intro b;conv=>whnf
    exact⟨(j+1,_,s'),(aa2 cl4),Sc.refl _,⟨by simp only;omega,hr'⟩,by simp only;omega⟩
   ·obtain rfl:j=nb m:=by omega
    repeat' first|refine sk2 ?_|intro b;conv=>whnf
    rw [yL (by rw [aj3];exact zT _)] at hrow;exact Rt.same ⟨_,rfl,hrow⟩
 ·obtain⟨m,hmm⟩:∃ m,m=az3 n:=⟨_,rfl⟩
  rw [← hmm] at hm hk8;obtain⟨neg,hneg⟩:∃ b,b=false:=⟨_,rfl⟩
  have hE:encI n=ac7 neg (128+nb m)::(dig (nb m) m).map (ac7 neg):=by unfold encI;rw [hmm,hneg,yE h0]
  have hnm:n=(m:Int):=by rw [hmm];unfold az3;rw [if_neg h0];omega
  rw [hE];clear hmm hE;subst hnm;refine eC7 func39 ntmps39 fun BB=>?_
  repeat' first|refine sk2 ?_|intro b;conv=>whnf
  refine aa5 mixed aa0 (γ:=Nat × Value × aa1) (fun g=>[(3,iD ((m/256 ^ g.1:Nat):Int)),(4,.v g.2.1)]) (fun g=>g.2.2) (fun g=>g.1<=nb m/\RY ((rdig m).take g.1) g.2.1 g.2.2) (fun g=>nb m-g.1) (0,.slice none 0 0,[]) cl18 (Sc.refl _) ⟨zW _,RowIs.nil _ _⟩ ?_;rintro⟨j,v,s⟩ ⟨hj,hrow⟩;simp only at hj hrow ⊢;have hrl:=aL0 m;by_cases hjl:j<nb m
  ·have hg:=aB4.2 hjl;have hrg:=aL1 (m:=m) hjl;have hnx:m/256 ^ (j+1)=m/256 ^ j/256:=by rw [Nat.pow_succ,Nat.div_div_eq_div_mul]
   have hlt:m/256 ^ j<=m:=Nat.div_le_self _ _;have hrow2:RowIs 5 1 (((rdig m).take j).map yC) v s:=hrow;generalize m/256 ^ j=g at *
   repeat' first|refine sk2 ?_|intro b;conv=>whnf
   refine Ot.yd (aj6 (m:=((g%256:Nat):Int)) rfl rfl underlying3 underlying5 (by rw [IntKind.wrap_u8,Int.tmod_eq_emod_of_nonneg (by omega)];omega)) ?_
   repeat' first|refine sk2 ?_|intro b;conv=>whnf
   refine Ap.go rfl rfl rfl rfl hrow2 (by simp:s.Perm (s++[])) rfl (zs:=((rdig m).take (j+1)).map yC) cl19 (by simp;omega) (by simp;omega) (fun s'=>s') (fun s'=>by simp) (fun a' c' s' hr'=>?_);have htd:((g:Int)).tdiv 256=((g/256:Nat):Int):=by rw [Int.tdiv_eq_ediv_of_nonneg (by omega)];omega
   repeat' first|refine sk2 ?_|intro b;conv=>whnf
   refine Sd.go ⟨by decide,by rw [htd];exact⟨by omega,by omega⟩⟩ ?_;rw [htd]
   repeat' first|refine sk2 ?_|intro b;conv=>whnf
   exact⟨(j+1,_,s'),(by simp only [hnx];exact (aa2 cl2)),Sc.refl _,⟨by simp only;omega,hr'⟩,by simp only;omega⟩
  ·obtain rfl:j=nb m:=by omega
   have hg:¬ 0<m/256 ^ nb m:=fun h=>by have:=aB4.1 h;omega
   have hg0:m/256 ^ nb m=0:=Nat.eq_zero_of_not_pos hg;rw [hg0];rw [yL (by omega)] at hrow;have hrd:RowIs 5 1 ((rdig m).map yC) v s:=hrow;obtain⟨a0,c0,rfl⟩:=hrd.slice;rw [zL,hrl] at hrd ⊢
   repeat' first|refine sk2 ?_|intro b;conv=>whnf
   refine Ot.yd (aj6 (m:=((ac7 neg (128+nb m):Nat):Int)) rfl rfl underlying3 underlying5 (by rw [IntKind.wrap_u8,hneg];unfold ac7;simp;omega)) ?_
   repeat' first|refine sk2 ?_|intro b;conv=>whnf
   refine Ap.go rfl rfl rfl rfl (RowIs.nil 5 1) (τ:=s) (zH s) rfl (zs:=[yC (ac7 neg (128+nb m))]) rfl (by simp) (by simp) (fun s'=>s'++s) (fun s'=>zH _) (fun a' c' so hro=>?_)
   repeat' first|refine sk2 ?_|intro b;conv=>whnf
   refine aj5 (i:=4) (d':=slY (rdig m)) (τ:=so) rfl (fun h=>by cases h) (Vs.row hrd yT) ?_;refine aa5 mixed aa0 (γ:=Nat × Value × aa1) (fun g=>[(6,.v g.2.1),(7,iD ((nb m:Int)-1-g.1))]) (fun g=>g.2.2) (fun g=>g.1<=nb m/\RY (ac7 neg (128+nb m)::((dig (nb m) m).take g.1).map (ac7 neg)) g.2.1 g.2.2) (fun g=>nb m-g.1) (0,_,so) (aa2 cl4) (Sc.refl _) ⟨zW _,hro⟩ ?_;clear hro hrd;rintro⟨j,v,s⟩ ⟨hj,hrow⟩;simp only at hj hrow ⊢;have hdl:(dig (nb m) m).length=nb m:=aj3 _ _;by_cases hjl:j<nb m
   ·have hd:=az9 (nb m) m j hjl;obtain⟨i,hi⟩:∃ i:Nat,nb m-1-j=i:=⟨_,rfl⟩
    have hi2:(nb m:Int)-1-j=(i:Int):=by omega
    rw [hi] at hd;rw [hi2];have hrg:=aL1 (m:=m) (i:=i) (by omega);have hrg':(rdig m)[((i:Nat):Int).toNat]?=some (m/256 ^ i%256):=hrg;have hrl:=aL0 m;have hrow2:RowIs 5 1 ((ac7 neg (128+nb m)::((dig (nb m) m).take j).map (ac7 neg)).map yC) v s:=hrow;have hlt:m/256 ^ i%256<256:=vM _ (by decide);generalize m/256 ^ i%256=d at *;have hfl:neg=false->ac7 neg d=d:=fun h=>by rw [h];rfl
    repeat' first|refine sk2 ?_|intro b;conv=>whnf
    first|(refine Ot.yd (ai3 (r:=.int .u8 ((ac7 neg d:Nat):Int)) rfl rfl rfl (fun w=>by rw [hneg];exact s255 hlt)) ?_;repeat' (first|refine sk2 ?_|intro b;conv=>whnf))|skip
    refine Ap.go rfl rfl rfl rfl hrow2 (by simp:s.Perm (s++[])) rfl (zs:=(ac7 neg (128+nb m)::((dig (nb m) m).take (j+1)).map (ac7 neg)).map yC) cl20 (by simp;omega) (by simp;omega) (fun s'=>s') (fun s'=>by simp) (fun a' c' s' hr'=>?_)
    repeat' first|refine sk2 ?_|intro b;conv=>whnf
    exact⟨(j+1,_,s'),(aa2 cl4),Sc.refl _,⟨by simp only;omega,hr'⟩,by simp only;omega⟩
   ·obtain rfl:j=nb m:=by omega
    repeat' first|refine sk2 ?_|intro b;conv=>whnf
    rw [yL (by rw [aj3];exact zT _)] at hrow;exact Rt.same ⟨_,rfl,hrow⟩
end
section
open Go Go.RowKit Go.Shelf
section
variable {P:Program} {σ:aa1} {ρ:Operand->D} {T:TypeId->Option TI}
theorem by8 (hT:∀ t i,T t=some i->tiOf P t=some i) {o:Oper} {t:TypeId} {x:Operand} {lo hi:Option Operand} {k:Nat} {xs ys:List (List D)} {l h:Nat} {i:TI} {p:Nat × Bool × Nat × Nat} (ho:o.op = .slice t x lo hi none) (hx:ρ x = .sl k xs) (ht:T t=some i) (hs:i.sl=some p) (hpk:p.2.2.1=k)
  (hlo:(lo=none/\l=0)\/∃ y kk n,lo=some y/\ρ y = .v (.int kk n)/\n=(l:Int)) (hhi:(hi=none/\h=xs.length)\/∃ y kk n,hi=some y/\ρ y = .v (.int kk n)/\n=(h:Int)) (h1:l<=h) (h2:h<=xs.length) (hys:(xs.take h).drop l=ys):Yd P o ρ σ (.sl k ys):=by
 subst hys;intro w X η hη hst;obtain⟨dst,op,ty,pos,aft,g⟩:=o;simp only at ho;subst ho;obtain⟨e,ag,k',by_⟩:=p;simp only at hpk;subst hpk;have hxr:=hη x (by simp [Op.operands]);rw [hx] at hxr;obtain⟨hu,hsz,_⟩:=al0 (hT t i ht) hs;have hz:=(aq0 hsz w).2;obtain⟨ad,cap,vs,hv,hcap,hk,hc,hr⟩:=hxr.sl_inv;have hb:(Instr.sliceBounds true xs.length cap (lo.map η) (hi.map η) none).run P w = .ok (l,h,cap) w:=by
  have hh:((h:Int)).toNat=h:=rfl;have hl:((l:Int)).toNat=l:=rfl;have h3:h<=cap:=by omega
  rcases hlo with ⟨rfl,rfl⟩|⟨yl,kl,nl,rfl,hyl,rfl⟩<;>rcases hhi with ⟨rfl,rfl⟩|⟨yh,kh,nh,rfl,hyh,rfl⟩
  ·simp [Instr.sliceBounds,Result.andThen]
  ·have:=(hη yh (by simp [Op.operands])).val hyh;simp [Instr.sliceBounds,Instr.sliceBound,Result.andThen,this,asIntOf,h3]
  ·have:=(hη yl (by simp [Op.operands])).val hyl;simp [Instr.sliceBounds,Instr.sliceBound,Result.andThen,this,asIntOf,h1]
  ·have q1:=(hη yl (by simp [Op.operands])).val hyl;have q2:=(hη yh (by simp [Op.operands])).val hyh;simp [Instr.sliceBounds,Instr.sliceBound,Result.andThen,q1,q2,asIntOf,h1,h3]
 have hlen:((xs.take h).drop l).length=h-l:=by rw [List.length_drop,zR];omega
 have hmem:∀ (q:Nat) y,((xs.take h).drop l)[q]?=some y->xs[l+q]?=some y:=fun q y hq=>by
  rw [xR,yX] at hq;split at hq
  ·exact hq
  ·cases hq
 refine ag4 (s:=Instr.sliceAt t (η x) (lo.map η) (hi.map η) ((none:Option Operand).map η)) (u:=.slice (if cap=l then ad else ad.map (·.add (l*k'))) (h-l) (cap-l)) ?_ (Ex.refl w) ?_
 ·rw [hv];simp only [Instr.sliceAt,Sem.run_bind,run_underlying hu,Result.andThen,Instr.slice,Option.map_none,hb,hz,Sem.run_pure]
 ·have:=Rd.sl (w:=w) (O:=Own σ X) k' ((xs.take h).drop l) (if cap=l then ad else ad.map (·.add (l*k'))) (cap-l) (fun q j=>vs (l+q) j) (by omega) (fun y hy=>hk y (xG (List.mem_of_mem_drop hy)))
   (fun q y hq=>by
    have hq2:=hmem q y hq;obtain⟨b,off,ha,g1,g2,g3⟩:=hc (l+q) y hq2;have hlt:=(zE.1 hq2).1;rw [if_neg (by omega),ha];refine⟨b,off+l*k',by simp [as5],g1,g2,fun j hj=>?_⟩;have:=g3 j hj;rw [show off+l*k' + q*k' + j=off+(l+q)*k' + j by rw [vC];omega];exact this) (fun q y hq=>hr (l+q) y (hmem q y hq))
  rw [hlen] at this;exact this
end
end
section
open Go
section
variable {P:Program} {t:TypeId} {p q:Operand} {w:World}
end
end
section
open Go
section
variable {α β:Type}
theorem aI0 {l:List α} {f:α->List β} {c:Nat} (h:∀ x∈l,(f x).length<=c):(l.flatMap f).length<=l.length*c:=by
 induction l with
 | nil=>simp
 | cons x l ih=>
  have h1:=h x yN;have h2:=ih (fun y hy=>h y (yQ _ hy));rw [List.flatMap_cons,zI,List.length_cons,vC];omega
theorem aF6 {l:List α} {f:α->List β} {i:Nat} {x:α} (h:l[i]?=some x):(l.take (i+1)).flatMap f=(l.take i).flatMap f++f x:=by
 rw [xC,h];simp
end
theorem cg9 {l:List Int} (h:∀ v∈l,InR v) (hn:InR l.length):(encL l).length<=9+l.length*9:=by
 unfold encL;rw [zI];have h1:=aj2 hn;have h2:=aI0 (f:=encI) (l:=l) (c:=9) (fun x hx=>aj2 (h x hx));omega
structure WSm (w:List (List (List Int))):Prop where
 k:w.length<=20
 n:∀ l∈w,l.length<=20
 f:∀ l∈w,∀ r∈l,r.length<=60
 v:∀ l∈w,∀ r∈l,∀ v∈r,InR v
theorem at5 {n:Nat} (h:n<=1000000):InR n:=⟨by omega,by omega⟩
theorem WSm.wd {w:List (List (List Int))} (h:WSm w):WdR w:=
 ⟨at5 (by have:=h.k;omega),fun l hl=>at5 (by have:=h.n l hl;omega),fun l hl r hr=>at5 (by have:=h.f l hl r hr;omega),h.v⟩
theorem WSm.l {w:List (List (List Int))} (h:WSm w) {l:List (List Int)} (hl:l∈w):∀ r∈l,(encL r).length<=549:=fun r hr=>by
 have h1:=h.f l hl r hr;have:=cg9 (h.v l hl r hr) (at5 (by omega));omega
theorem WSm.kl {w:List (List (List Int))} (h:WSm w):∀ l∈w,(encK l).length<=10989:=fun l hl=>by
 unfold encK;rw [zI];have h0:=h.n l hl;have h1:=aj2 (n:=(l.length:Int)) (at5 (by omega));have h2:=aI0 (f:=encL) (l:=l) (c:=549) (h.l hl);omega
theorem WSm.len {w:List (List (List Int))} (h:WSm w):(encW w).length<=300000:=by
 unfold encW;rw [zI];have h0:=h.k;have h1:=aj2 (n:=(w.length:Int)) (at5 (by omega));have h2:=aI0 (f:=encK) (l:=w) (c:=10989) h.kl;omega
end
section
open Go
theorem aL8 {P:Program} {f:FuncId} {args:List D} {l:List Nat} (h:ACall P f args [] (fun d s=>∃ v,d = .v v/\RY l v s)):APure P f args (slY l):=
 APure.of_call (ACall.vs (ACall.imp h fun d s ⟨v,hd,hr⟩=>by rw [hd];exact Rt.vs (Vs.row (τ:=[]) hr (by simp))))
theorem aY1 {n:Int} (hn:InR n):APure prog 39 [iD n] (slY (encI n)):=aL8 (bV3 n hn)
theorem aV8 {n:Int} (hn:InR n):APure prog 37 [iD n] (slY (encI n)):=aL8 (bU1 n hn)
theorem sk83 {A B:Prop} (k:B) (h:Hd7 B->A:=by intro q7;(first|refine sb0 ?_|refine sb1 ?_|(refine' cp7x ?hc ?_;(case hc=>first|exact HI|exact HS)));exact q7.1):A:=h ⟨k⟩
end
section
open Go
theorem sk84 {A B:Prop} (k:B) (h:Hd7 B->A:=by intro q7;(first|refine sb0 ?_|refine sb1 ?_|(refine' cp7x ?hc ?_;(case hc=>exact HG)));exact q7.1):A:=h ⟨k⟩
end
section
open Go
theorem sz_y {c k:Nat} {l:List Nat} (h1:l.length<=c) (h:c*k<=140737488355328):(l.map yC).length*k<=140737488355328:=by rw [zL];exact xH (xZ _ h1) h
theorem ck8 {l:List Nat} (h:l.length<=1000000):(l.map yC).length<=1000000000:=by rw [zL];omega
theorem sk85 {A B:Prop} (k:B) (h:Hd7 B->A:=by intro q7;(first|refine sb0 ?_|refine sb1 ?_|(refine' cp7x ?hc ?_;(case hc=>exact aV8 HX)));exact q7.1):A:=h ⟨k⟩
theorem bZ2 (l:List Int) (hl:l.length<=1000) (h:∀ v∈l,InR v):ACall prog 38 [slI l] [] (fun d s=>∃ v,d = .v v/\RY (encL l) v s):=by
 refine eC7 func38 ntmps38 fun BB=>?_
 repeat' first|refine sk85 ?_|intro b;conv=>whnf
 refine pA6 (bU1 ((l.map fun n=>[iD n]).length:Int) (at5 (by simp;omega))) (aw9 _) (fun s'=>s') at1 ?_;rintro _ s0 ⟨v0,rfl,hr0⟩;rw [zL] at hr0
 repeat' first|refine sk85 ?_|intro b;conv=>whnf
 refine aa5 mixed aa0 (γ:=Nat × Value × aa1) (fun g=>[(11,iD g.1),(3,.v g.2.1)]) (fun g=>g.2.2) (fun g=>g.1<=l.length/\RY (encI l.length++(l.take g.1).flatMap encI) g.2.1 g.2.2) (fun g=>l.length-g.1) (0,v0,s0) (aa2 cl4) (Sc.refl _) ⟨zW _,by simpa using hr0⟩ ?_;clear hr0;rintro⟨j,v,s⟩ ⟨hj,hrow⟩;simp only at hj hrow ⊢;by_cases hjl:j<l.length
 ·obtain⟨x,hx⟩:∃ x,l[j]?=some x:=⟨_,zD hjl⟩
  have hx':l[((j:Nat):Int).toNat]?=some x:=hx;have HX:=h x (zG hx);have hxs:=aj2 HX;have hns:=aj2 (n:=(l.length:Int)) (at5 (by omega));have hpre:=aI0 (f:=encI) (l:=l.take j) (c:=9) (fun y hy=>aj2 (h y (xG hy)));rw [zR] at hpre;have hrow2:RowIs 5 1 ((encI l.length++(l.take j).flatMap encI).map yC) v s:=hrow;have hle:(encI l.length++(l.take (j+1)).flatMap encI).length<=1000000:=by rw [aF6 hx];simp only [zI];omega
  repeat' first|refine sk85 ?_|intro b;conv=>whnf
  refine Ap.go rfl rfl rfl rfl hrow2 (by simp:s.Perm (s++[])) (co6 _) (zs:=(encI l.length++(l.take (j+1)).flatMap encI).map yC) (by rw [aF6 hx];simp only [yB,zV]) (sz_y hle (by decide)) (ck8 hle) (fun s'=>s') (fun s'=>by simp) (fun a' c' s' hr'=>?_)
  repeat' first|refine sk85 ?_|intro b;conv=>whnf
  exact⟨(j+1,_,s'),(aa2 cl4),Sc.refl _,⟨by simp only;omega,hr'⟩,by simp only;omega⟩
 ·obtain rfl:j=l.length:=by omega
  repeat' first|refine sk85 ?_|intro b;conv=>whnf
  rw [yM] at hrow;exact Rt.same ⟨_,rfl,hrow⟩
theorem sk86 {A B:Prop} (k:B) (h:Hd7 B->A:=by intro q7;(first|refine sb0 ?_|refine sb1 ?_|(refine' cp7x ?hc ?_;(case hc=>exact aY1 HX)));exact q7.1):A:=h ⟨k⟩
theorem cc3 (l:List Int) (hl:l.length<=1000) (h:∀ v∈l,InR v):ACall prog 40 [slI l] [] (fun d s=>∃ v,d = .v v/\RY (encL l) v s):=by
 refine eC7 func40 ntmps40 fun BB=>?_
 repeat' first|refine sk86 ?_|intro b;conv=>whnf
 refine pA6 (bV3 ((l.map fun n=>[iD n]).length:Int) (at5 (by simp;omega))) (aw9 _) (fun s'=>s') at1 ?_;rintro _ s0 ⟨v0,rfl,hr0⟩;rw [zL] at hr0
 repeat' first|refine sk86 ?_|intro b;conv=>whnf
 refine aa5 mixed aa0 (γ:=Nat × Value × aa1) (fun g=>[(4,iD g.1),(3,.v g.2.1)]) (fun g=>g.2.2) (fun g=>g.1<=l.length/\RY (encI l.length++(l.take g.1).flatMap encI) g.2.1 g.2.2) (fun g=>l.length-g.1) (0,v0,s0) (aa2 cl4) (Sc.refl _) ⟨zW _,by simpa using hr0⟩ ?_;clear hr0;rintro⟨j,v,s⟩ ⟨hj,hrow⟩;simp only at hj hrow ⊢;by_cases hjl:j<l.length
 ·obtain⟨x,hx⟩:∃ x,l[j]?=some x:=⟨_,zD hjl⟩
  have hx':l[((j:Nat):Int).toNat]?=some x:=hx;have HX:=h x (zG hx);have hxs:=aj2 HX;have hns:=aj2 (n:=(l.length:Int)) (at5 (by omega));have hpre:=aI0 (f:=encI) (l:=l.take j) (c:=9) (fun y hy=>aj2 (h y (xG hy)));rw [zR] at hpre;have hrow2:RowIs 5 1 ((encI l.length++(l.take j).flatMap encI).map yC) v s:=hrow;have hle:(encI l.length++(l.take (j+1)).flatMap encI).length<=1000000:=by rw [aF6 hx];simp only [zI];omega
  repeat' first|refine sk86 ?_|intro b;conv=>whnf
  refine Ap.go rfl rfl rfl rfl hrow2 (by simp:s.Perm (s++[])) (co6 _) (zs:=(encI l.length++(l.take (j+1)).flatMap encI).map yC) (by rw [aF6 hx];simp only [yB,zV]) (sz_y hle (by decide)) (ck8 hle) (fun s'=>s') (fun s'=>by simp) (fun a' c' s' hr'=>?_)
  repeat' first|refine sk86 ?_|intro b;conv=>whnf
  exact⟨(j+1,_,s'),(aa2 cl4),Sc.refl _,⟨by simp only;omega,hr'⟩,by simp only;omega⟩
 ·obtain rfl:j=l.length:=by omega
  repeat' first|refine sk86 ?_|intro b;conv=>whnf
  rw [yM] at hrow;exact Rt.same ⟨_,rfl,hrow⟩
theorem bm8 {l:List Int} (hl:l.length<=1000) (h:∀ v∈l,InR v):APure prog 38 [slI l] (slY (encL l)):=aL8 (bZ2 l hl h)
theorem bp0 {l:List Int} (hl:l.length<=1000) (h:∀ v∈l,InR v):APure prog 40 [slI l] (slY (encL l)):=aL8 (cc3 l hl h)
end
section
open Go
section
variable {P:Program} {r:Option Nat} {n:Nat} {df:Nat} {N:Nat} {σ:aa1} {a:List D} {f:Frm} {T:TypeId->Option TI} {L:List Oper}
end
theorem sz_i {c k:Nat} {l:List Int} (h1:l.length<=c) (h:c*k<=140737488355328):(l.map fun n=>[iD n]).length*k<=140737488355328:=by rw [zL];exact xH (xZ _ h1) h
theorem sk87 {A B:Prop} (k:B) (h:Hd7 B->A:=by intro q7;(first|refine sb0 ?_|refine sb1 ?_|(refine' cp7x ?hc ?_;(case hc=>first|exact HC|exact HG)));exact q7.1):A:=h ⟨k⟩
theorem sk88 {A B:Prop} (k:B) (h:Hd7 B->A:=by intro q7;(first|refine sb0 ?_|refine sb1 ?_|(refine' cp7x ?hc ?_;(case hc=>exact HC)));exact q7.1):A:=h ⟨k⟩
end
section
open Go
theorem WSm.pre {w:List (List (List Int))} (h:WSm w) (k:Nat):(encI w.length++(w.take k).flatMap encK).length<=220000:=by
 rw [zI];have h0:=h.k;have h1:=aj2 (n:=(w.length:Int)) (at5 (by omega));have h2:=aI0 (f:=encK) (l:=w.take k) (c:=10989) (fun l hl=>h.kl l (xG hl));rw [zR] at h2;have h3:Nat.min k w.length<=20:=xH (Nat.min_le_right _ _) h0;have h4:=xZ 10989 h3;have h5:min k w.length*10989<=20*10989:=h4;omega
theorem sk89 {A B:Prop} (k:B) (h:Hd7 B->A:=by intro q7;(first|refine sb0 ?_|refine sb1 ?_|(refine' cp7x ?hc ?_;(case hc=>first|exact aV8 HX|exact bm8 HL HR)));exact q7.1):A:=h ⟨k⟩
theorem sk90 {A B:Prop} (k:B) (h:Hd7 B->A:=by intro q7;(first|refine sb0 ?_|refine sb1 ?_|(refine' cp7x ?hc ?_;(case hc=>first|exact aY1 HX|exact bp0 HL HR)));exact q7.1):A:=h ⟨k⟩
end
section
open Go
theorem aD7 {α:Type} {R:ORep α} {e:TypeId} {xs:List α} {vs:List Value} {s0 t s':aa1} {ts:List aa1} {v u:Value} {x:α} (h2:All3 R xs vs ts) (h1:RowIs e 1 (vs.map (fun u=>[D.v u])++[[D.v u]]) v s0) (hx:R x u t) (hp:s'.Perm (s0++(ts.flatten++t))):RowsOf e R (xs++[x]) v s':=
 ⟨vs++[u],s0,ts++[t],by simpa using h1,h2.append (.cons hx .nil),hp.trans (by simp)⟩
end
section
open Go
theorem sz_2 {c k:Nat} {vs:List Value} {z:D} (h1:vs.length+1<=c) (h:c*k<=140737488355328):(vs.map (fun u=>[D.v u])++[[z]]).length*k<=140737488355328:=by rw [zI,zL];exact xH (xZ _ h1) h
theorem sk91 {A B:Prop} (k:B) (h:Hd7 B->A:=by intro q7;(first|refine sb0 ?_|refine sb1 ?_|(refine' cp7x ?hc ?_;(case hc=>first|exact HC|exact HG|exact HL)));exact q7.1):A:=h ⟨k⟩
end
section
open Go
theorem sk92 {A B:Prop} (k:B) (h:Hd7 B->A:=by intro q7;(first|refine sb0 ?_|refine sb1 ?_|(refine' cp7x ?hc ?_;(case hc=>exact HL)));exact q7.1):A:=h ⟨k⟩
end
section
open Go
theorem bU8 (a b:List Int) (ha:a.length<=1000000) (hb:b.length<=1000000):APure prog 47 [slI a,slI b] (bD (decide (a=b))):=by
 refine eP7 func47 ntmps47 fun BB=>?_;by_cases hl:a.length=b.length
 ·repeat' first|refine sk2 ?_|intro b;conv=>whnf
  refine ac6 mixed aa0 (γ:=Nat) (fun k=>[(13,iD k)]) (fun _=>[]) (fun k=>k<=a.length/\∀ i,i<k->a[i]?=b[i]?) (fun k=>a.length-k) 0 rfl rfl ⟨zW _,fun i h=>by omega⟩ ?_;rintro k ⟨hk,hno⟩;by_cases hlt:k<a.length
  ·obtain⟨x,hx⟩:∃ x,a[((k:Nat):Int).toNat]?=some x:=⟨_,zD hlt⟩
   obtain⟨y,hy⟩:∃ y,b[((k:Nat):Int).toNat]?=some y:=⟨_,zD (by show k<_;omega)⟩
   have hx':a[k]?=some x:=hx;have hy':b[k]?=some y:=hy;by_cases he:x=y
   ·repeat' first|refine sk2 ?_|intro b;conv=>whnf
    refine⟨k+1,rfl,rfl,⟨by omega,fun i hi=>?_⟩,by omega⟩;by_cases e:i=k
    ·subst e;rw [hx',hy',he]
    ·exact hno i (by omega)
   ·have hne:a≠b:=fun h=>he (by rw [h,hy'] at hx';cases hx';rfl)
    repeat' first|refine sk2 ?_|intro b;conv=>whnf
    refine Rt.pure (zM bD ?_);exact (yE hne).symm
  ·have hab:a=b:=xY fun i=>by
    by_cases hi:i<k
    ·exact hno i hi
    ·rw [yY.2 (by omega),yY.2 (by omega)]
   repeat' first|refine sk2 ?_|intro b;conv=>whnf
   refine Rt.pure (zM bD ?_);exact (yJ hab).symm
 ·have hne:a≠b:=fun h=>hl (by rw [h])
  repeat' first|refine sk2 ?_|intro b;conv=>whnf
  refine Rt.pure (zM bD ?_);exact (yE hne).symm
theorem sk93 {A B:Prop} (k:B) (h:Hd7 B->A:=by intro q7;(first|refine sb0 ?_|refine sb1 ?_|(refine' cp7x ?hc ?_;(case hc=>exact bU8 _ _ (by assumption) (by assumption))));exact q7.1):A:=h ⟨k⟩
end
end Go.Proofs.YtlcfiilejnnlnaaGreatDoor
