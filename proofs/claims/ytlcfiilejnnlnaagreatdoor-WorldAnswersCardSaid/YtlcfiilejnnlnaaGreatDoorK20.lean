/- A part of the proof: Gs Ui Uj Ue R09h It Ld Lc. -/
import Derived.Test.YtlcfiilejnnlnaaGreatDoorK13
import Derived.Test.YtlcfiilejnnlnaaGreatDoorK19
import Derived.Test.YtlcfiilejnnlnaaGreatDoorRows
import Derived.LaidMore
import Derived.OpenShut
import Derived.LaidHandle
import Derived.LaidSub
import Derived.Lib.LaidU8
import Derived.WideKeyElems2
import Derived.Maps.RangeWalk
import Derived.Maps.Keyed
import Derived.ProofKit
import Derived.ChangeSlices
import Derived.ChangeCalls
import Derived.Deep.Onto
import Derived.Stop.Joined
set_option maxRecDepth 100000
set_option maxHeartbeats 20000000
set_option linter.all false
namespace Go.Proofs.YtlcfiilejnnlnaaGreatDoor
open Tryz Go.Proofs.Tryz
section
open Go
theorem KForm.low {ks:List Knd} {i:Nat} {k:Knd} (h:KForm ks i k):∀ f∈k.fields,cj0 k.fields f:=by
 obtain⟨lo,r,idl,f1,f2,p1,p2,tt,h1,h2,h3,rfl,h5,h6,h7,h8,h9,h10⟩:=h;intro f hf;have hnot:∀ n∈[nId,nOf,bw6,bw7,nBy,ar9],n≠nLow/\n≠nSize:=by decide +kernel
 have no:f.name∈[nId,nOf,bw6,bw7,nBy,ar9]->cj0 (idF idl::(f1++(f2++(p1++(p2++tt))))) f:=fun hm=>⟨fun e=>absurd e (hnot _ hm).1,fun e=>absurd e (hnot _ hm).2⟩
 have hf0:=hf;rcases zU.1 hf with rfl|hf
 ·exact no (by simp [idF])
 rcases zO.1 hf with hf|hf
 ·have:=(h5.nms).subset (vX (f:=Fld.name) hf);exact no (by simp only [zU,yF,xE] at this ⊢;rcases this with e|e|e<;>simp [e])
 rcases zO.1 hf with hf|hf
 ·rcases h6 with rfl|⟨_,rfl⟩
  ·cases hf
  ·rw [zN] at hf;subst hf;exact no (by simp [byN])
 rcases zO.1 hf with hf|hf
 ·exact h7.low_ok (fun f hf=>by simp [hf]) f hf
 rcases zO.1 hf with hf|hf
 ·exact h8.low_ok (fun f hf=>by simp [hf]) f hf
 ·have:=(h10.nms).subset (vX (f:=Fld.name) hf);exact no (by simp only [zU,yF,xE] at this ⊢;simp [this])
variable {x:Sch}
theorem HX.ruleNm (H:HX x) {i:Nat} {k:Knd} (hk:x.kz[i]?=some k) {f:Fld} (hf:f∈k.fields) (h2:f.kind=2):ah5 x k i f.name=false/\ad7 x k i f.name=false:=by
 obtain⟨j,hj⟩:=yO hf;have e:=aV0 (H.form i k hk).nodup hj;have ha:atR x i (aa4 k f.name)=(f,true):=by rw [atR,e,fat hk,hj]
 exact⟨by simp [ah5,ha],by simp [ad7,ha,h2]⟩
theorem bE3 (k:Knd) (i:Int):ah5 x k i nE=false/\ad7 x k i nE=false:=by simp [ah5,ad7,eNE]
theorem bl5 {a b c d:Bool} (h1:a=false) (h2:b=false) (h3:c=false) (h4:d=false) {n1 n2 n3 n4:Int}:ao7 [(a,n1),(b,n2),(c,n3),(d,n4)]=0:=by subst h1 h2 h3 h4;rfl
theorem GenX.rule0 (h:GenX x) {n:Nat} {r:Rul} (hr:x.rules[n]?=some r):aw7 x n r=0:=by
 have H:=h.hx;obtain⟨i,_,hc⟩:=h.rs;have hN:∀ (t:Nat) y,x.kz[t]?=some y->y.name=knm t:=fun t y hy=>(H.form t y hy).name;obtain⟨hp,hm⟩:=hc.facts hN H.nk;obtain⟨t,k,_,hk,hR⟩:=hm r (zG hr);have htw:ah2 x n r=false:=by
  unfold ah2;rw [List.any_eq_false];intro s hs e;obtain⟨m,hm⟩:=yO hs;have hlt:m<n:=by have:=(zE.1 hm).1;rw [zR] at this;omega
  rw [List.getElem?_take_of_lt hlt] at hm;obtain⟨l1,e1⟩:=zE.1 hm;obtain⟨l2,e2⟩:=zE.1 hr;exact wS.1 hp m n l1 l2 hlt (by rw [e1,e2];exact (aC5 _ _).1 e)
 have hkr:∀ n:ByteArray,n=k.name->aa9 x n=t:=fun n e=>by rw [e,hN t k hk];exact H.kix hk
 have low:=(H.form t k hk).low;unfold aw7
 cases hR with
 | low n2 hl hn=>
  rw [hkr _ rfl,kat hk];obtain⟨f,hf,e⟩:=bl2 hl;obtain⟨k2,g,hg,e2,g2⟩:=(low f hf).1 e;have a1:=H.ruleNm hk hf k2;have a2:=H.ruleNm hk hg g2;rw [e] at a1;rw [e2] at a2;exact bl5 htw (by simp only [a1.1,a2.1];rfl) (by simp only [a1.2,a2.2];rfl) (by show seq nLow nHigh=false;decide +kernel)
 | most f2 n2 hl hf2 hn=>
  rw [hkr _ rfl,kat hk];obtain⟨f,hf,e⟩:=bl2 hl;have a1:=H.ruleNm hk hf ((low f hf).2 e);have a2:=bE3 (x:=x) k t;rw [e] at a1;exact bl5 htw (by simp only [a1.1,a2.1];rfl) (by simp only [a1.2,a2.2];rfl) (by show seq nSize nE=false;decide +kernel)
 | least f2 n2 hl hf2 hn=>
  rw [hkr _ rfl,kat hk];obtain⟨f,hf,e⟩:=bl2 hl;have a1:=H.ruleNm hk hf ((low f hf).2 e);have a2:=bE3 (x:=x) k t;rw [e] at a1;exact bl5 htw (by simp only [a1.1,a2.1];rfl) (by simp only [a1.2,a2.2];rfl) (by show seq nE nSize=false;decide +kernel)
theorem GenX.valid (h:GenX x):ag8 x=true:=by
 have H:=h.hx;have C:=h.cls;have hN:∀ (t:Nat) y,x.kz[t]?=some y->y.name=knm t:=fun t y hy=>(H.form t y hy).name;simp only [ag8,zJ,yA,zQ];refine⟨⟨⟨⟨⟨⟨?_,?_⟩,?_⟩,?_⟩,fun k hk=>?_⟩,fun l hl=>?_⟩,fun r hr=>?_⟩
 ·have:=h.ver;simp [aa3];omega
 ·have:=H.nk;omega
 ·have:=C.nl;omega
 ·have:=h.nr;omega
 ·obtain⟨i,hi⟩:=yO hk;have hil:i<=2:=by have:=(zE.1 hi).1;have:=H.nk;omega
  have hnf:=(C.ks k hk).nf;have hfa:=H.field hi;simp only [ag5,zJ,yA,zQ];refine⟨⟨⟨by rw [hN i k hi];exact be3 hil,?_⟩,hnf⟩,hfa⟩;obtain⟨lo,r,idl,f1,f2,p1,p2,tt,h1,h2,h3,rfl,_⟩:=H.form i k hi;simp only [zU,yF,xE] at h1;simp [ap2];omega
 ·obtain⟨m,mv,hm1,hm2,he,hml,hmq⟩:=h.ls;rw [he,zN] at hl;subst hl;have hlen:(stL.take m).length=m:=by rw [zR];simp;omega
  have hst:(stL.take m).all isNm=true:=by
   rw [yA];intro w hw;have:=xG hw;simp only [stL,zU,yF,xE] at this;rcases this with rfl|rfl|rfl|rfl<;>decide +kernel
  have hmv:mv.all (aP6 m)=true:=by
   rw [yA];intro p hp;have:=hmq p hp;simp [aP6,aa3];omega
  have hnl:isNm nLife=true:=by decide +kernel
  simp only [ag2,hlen,hst,hmv,hnl,Bool.true_and,Bool.and_true,zJ,zQ,aa3];omega
 ·obtain⟨i,_,hc⟩:=h.rs;obtain⟨_,hm⟩:=hc.facts hN H.nk;obtain⟨t,k,_,hk,hR⟩:=hm r hr;have htl:t<=2:=by have:=(zE.1 hk).1;have:=H.nk;omega
  have e1:=bL5 htl (hR.rn (hN t k hk));have e2:isNm r.kind=true:=by
   have:r.kind=k.name:=by cases hR<;>rfl
   rw [this,hN t k hk];exact be3 htl
  have e3:aa3 r.n (-1048576) 1048576=true:=by have:=(C.rs r hr).n;simp [aa3];omega
  have e4:(isE r.a||isNm r.a)=true/\(isE r.b||isNm r.b)=true/\(!(isE r.a&&isE r.b))=true:=by
   cases hR<;>(simp only;decide +kernel)
  simp only [an5,e1,e2,e3,e4.1,e4.2.1,e4.2.2,Bool.and_self]
theorem aK8 {α:Type} {q:Nat} {g:Nat->List α} (h:∀ i,i<q->g i=[]):upTo q g=[]:=by
 unfold upTo;rw [List.flatMap_eq_nil_iff];intro i hi;exact h i (xT.1 hi)
theorem GenX.probs0 (h:GenX x):aj9 x=[]:=by
 have H:=h.hx;have hv:ad4 x=0:=by rw [ad4,h.valid];rfl
 rw [aj9,if_pos hv,aK8,aK8,aK8]
 ·rfl
 ·intro i hi;unfold az1;rw [zD hi];simp only;rw [h.rule0 (zD hi),one0]
 ·intro i hi;have hk:=zD hi;unfold ae7;rw [hk];simp only;generalize x.kz[i]=k at hk;have hkE:ag0 x i k=0:=by
   have hF:=H.form i k hk;rw [ag0,hF.name,H.kix hk,if_neg (by omega)];obtain⟨lo,r,idl,f1,f2,p1,p2,tt,h1,h2,h3,rfl,_⟩:=hF
   rfl
  rw [hkE,one0,List.nil_append,aK8];intro j hj;have hf:=zD hj;unfold ad1;rw [hf];simp only;generalize k.fields[j]=f at hf;rw [al8,aV0 (H.form i k hk).nodup hf,if_neg (by omega),H.leads hk hf,one0]
 ·intro i hi;obtain⟨m,mv,_,_,he,_⟩:=h.ls;rw [he] at hi;obtain rfl:i=0:=by simp at hi;omega
  unfold ax4;rw [he];simp [ao5,one0]
end
section
open Go
end
section
open Go Go.RowKit Go.Shelf
theorem Sc.frzD {α:Type} {R:ORep α} {den:α->D} (hf:Frz R den) {b:Nat} {t:TypeId} {cs:List D} {j:Nat} {x:α} {v:Value} {s τ:aa1} (hj:cs[j]?=some (.v v)) (h:R x v s):Sc ((b,.cells t cs)::(s++τ)) ((b,.cells t (cs.set j (den x)))::τ):=by
 have hsub:∀ z,z∈aa6 ((b,Blk.cells t (cs.set j (den x)))::τ)->z∈aa6 ((b,Blk.cells t cs)::(s++τ)):=fun z hz=>by
  simp only [aa6,List.map_cons,yB,zU,zO] at hz ⊢;rcases hz with h|h
  ·exact .inl h
  ·exact .inr (.inr h)
 refine⟨fun w X hs=>?_,hsub⟩;have hO:∀ z,z<w.heap.size->¬ Own ((b,Blk.cells t cs)::(s++τ)) X z->¬ Own ((b,Blk.cells t (cs.set j (den x)))::τ) X z:=fun z _ hn ho=>hn (ho.imp id (hsub z));have hp:((b,Blk.cells t cs)::(s++τ)).Perm (s++((b,Blk.cells t cs)::τ)):=List.perm_middle.symm;have hrow':Rd w (Own ((b,Blk.cells t (cs.set j (den x)))::τ) X) (den x) v:=by
  have e:Own ((b,Blk.cells t (cs.set j (den x)))::τ) X=Own ((b,Blk.cells t cs)::τ) X:=rfl;rw [e];exact hf x v s _ w X h (hs.perm hp)
 refine⟨?_,fun z kk hm=>?_,hs.xlt,hs.gok.mono (fun z ho=>ho.imp id (hsub z))⟩
 ·have hnd:=hs.nodup;simp only [aa6,List.map_cons,yB,wZ,zO,wR] at hnd ⊢;exact⟨fun h=>hnd.1 (.inr h),hnd.2.2.1⟩
 ·rcases zU.1 hm with e1|hm
  ·cases e1
   obtain⟨h1,o,h2,vs,rfl,h3⟩:=hs.at_ b _ yN;refine⟨h1,_,h2,vs,rfl,⟨by rw [yR];exact h3.len,fun i d u hi hu=>?_⟩⟩;by_cases e2:j=i
   ·subst e2;rw [xI (zE.1 hj).1] at hi
    cases hi
    have:=(h3.at_ j _ u hj hu).val rfl;rw [this];exact hrow'
   ·rw [wN e2] at hi;exact am0 (h3.at_ i d u hi hu) hsub
  ·obtain⟨h1,o,h2,h3⟩:=hs.at_ z kk (yQ _ (yW _ hm));exact⟨h1,o,h2,pA4 (zT _) hO (fun _ _ _=>rfl) h3⟩
theorem RowsOf.sc {α:Type} {R:ORep α} {den:α->D} (hf:Frz R den) {e:TypeId} {xs:List α} {v:Value} {s:aa1} (h:RowsOf e R xs v s):∃ s',Sc s s'/\RowR e den xs v s':=by
 obtain⟨vs,s0,ts,h1,h2,h3⟩:=h.ex;have key:∀ {xs:List α} {vs:List Value} {ts:List aa1},All3 R xs vs ts->∀ (done:List D) (s0:aa1),RowR e (fun d:D=>d) (done++vs.map D.v) v s0->∃ s',Sc (s0++ts.flatten) s'/\RowR e (fun d:D=>d) (done++xs.map den) v s':=by
  intro xs vs ts h
  induction h with
  | nil=>intro done s0 hr;exact⟨s0,Sc.perm (by simp),hr⟩
  | @cons y u t xs vs ts h k ih=>
   intro done s0 hr;obtain⟨b1,cap1,cs1,ev,rfl,hc,hset⟩:=al9 hr (i:=done.length) (b:=D.v u) (by rw [yK (zT _)];simp);have h5:=hset (den y);have e5:(done++(u::vs).map D.v).set done.length (den y)=(done++[den y])++vs.map D.v:=by simp
   rw [e5] at h5;obtain⟨s',k1,k2⟩:=ih _ _ h5;exact⟨s',(Sc.frzD hf (t:=e) (τ:=ts.flatten) hc h).trans k1,by simpa using k2⟩
 obtain⟨s',k1,k2⟩:=key h2 [] s0 (by show RowIs _ _ _ _ _;rw [List.nil_append,vA];exact h1);exact⟨s',(Sc.perm h3).trans k1,by
  have k3:RowIs e 1 ((([]:List D)++xs.map den).map fun d=>[d]) v s':=k2;rw [List.nil_append,vA] at k3;exact k3⟩
end
section
open Go Go.RowKit Go.Shelf
theorem bZ0 {P:Program} {ρ:Operand->D} {σ:aa1} {o:Oper} {t t':TypeId} {x y:Operand} {p:Bool} (ho:o.op = .binOp .eql t x y t') (hx:ρ x = .v (.bool p)) (hy:ρ y = .v (.bool p)) (ht:P.underlying t=some .bool):Yd P o ρ σ (bD true):=by
 have h:=cj9 (σ:=σ) ho hx hy ht;rw [wP] at h;exact h
theorem bd6 (l:List Int) (hl:I64s l):ASome prog 6 [slI l] (fun d=>∃ x,d=schD x/\GenX x):=
 ASome.of_call ((bv0 l hl).imp fun d σ ⟨x,e,_,h⟩=>⟨x,e,h⟩)
theorem sk167 {A B:Prop} (k:B) (h:Hd7 B->A:=by intro q7;(first|refine sb0 ?_|refine sb1 ?_|(refine' cp7x ?hc ?_;(case hc=>first|exact HQ)));exact q7.1):A:=h ⟨k⟩
theorem sk168 {A B:Prop} (k:B) (h:Hd7 B->A:=by intro q7;(first|refine sb0 ?_|refine sb67 ?_|(refine' cp7x ?hc ?_;(case hc=>exact HA)));exact q7.1):A:=h ⟨k⟩
theorem sk169 {A B:Prop} (k:B) (h:Hd7 B->A:=by intro q7;(first|refine sb0 ?_|refine sb67 ?_|(refine' cp7x ?hc ?_;(case hc=>first|exact HA1|exact HL|exact HC1|exact HC2|exact HD1|exact HD2|exact HS)));exact q7.1):A:=h ⟨k⟩
theorem sk170 {A B:Prop} (k:B) (h:Hd7 B->A:=by intro q7;(first|refine sb0 ?_|refine sb98 ?_|(refine' cp7x ?hc ?_;(case hc=>first|exact HA1|exact HL|exact HC1|exact HC2|exact HD1|exact HD2|exact HS)));exact q7.1):A:=h ⟨k⟩
end
section
open Go
theorem bZ5 {x:Sch} (h:ag8 x=true):ad4 x=0:=by unfold ad4;rw [if_pos h]
theorem aC3 {x:Sch} (h:ag8 x=false):ad4 x=1:=by unfold ad4;rw [h];rfl
theorem sk171 {A B:Prop} (k:B) (h:Hd7 B->A:=by intro q7;(first|refine sb0 ?_|refine sb1 ?_|(refine' cp7x ?hc ?_;(case hc=>first|exact ah8 _ _ _|exact HK|exact HL|exact aT9 _)));exact q7.1):A:=h ⟨k⟩
theorem bd5 (x:Sch) (g:Good x):APure prog 127 [schD x] (iD (ad4 x)):=by
 refine eP7 func127 ntmps127 fun BB=>?_
 cases h1:aa3 x.vz 0 1048576
 ·have hE:ad4 x=1:=aC3 (by simp [ag8,h1])
  repeat' first|refine sk171 ?_|intro b;conv=>whnf|with_reducible refine Br.d (fun hc=>?_) (fun hc=>?_)|with_reducible refine Br.b (fun hc=>?_) (fun hc=>?_)
  all_goals (refine Rt.pure (zM iD ?_);exact hE.symm)
 by_cases h2:x.kz.length<=6
 case neg=>
  have hE:ad4 x=1:=aC3 (by simp [ag8,h2])
  repeat' first|refine sk171 ?_|intro b;conv=>whnf|with_reducible refine Br.d (fun hc=>?_) (fun hc=>?_)|with_reducible refine Br.b (fun hc=>?_) (fun hc=>?_)
  all_goals (refine Rt.pure (zM iD ?_);exact hE.symm)
 by_cases h3:x.lz.length<=6
 case neg=>
  have hE:ad4 x=1:=aC3 (by simp [ag8,h3])
  repeat' first|refine sk171 ?_|intro b;conv=>whnf|with_reducible refine Br.d (fun hc=>?_) (fun hc=>?_)|with_reducible refine Br.b (fun hc=>?_) (fun hc=>?_)
  all_goals (refine Rt.pure (zM iD ?_);exact hE.symm)
 by_cases h4:x.rules.length<=16
 case neg=>
  have hE:ad4 x=1:=aC3 (by simp [ag8,h4])
  repeat' first|refine sk171 ?_|intro b;conv=>whnf|with_reducible refine Br.d (fun hc=>?_) (fun hc=>?_)|with_reducible refine Br.b (fun hc=>?_) (fun hc=>?_)
  all_goals (refine Rt.pure (zM iD ?_);exact hE.symm)
 repeat' first|refine sk171 ?_|intro b;conv=>whnf
 refine ac6 mixed aa0 (γ:=Nat) (fun q=>[(3,iD q)]) (fun _=>[]) (fun q=>q<=x.kz.length/\∀ (m:Nat) y,m<q->x.kz[m]?=some y->ag5 y=true) (fun q=>x.kz.length-q) 0 rfl rfl ⟨by omega,fun m y hm=>by omega⟩ ?_;rintro q ⟨hq,hno⟩;by_cases hlt:q<x.kz.length
 ·obtain⟨k,hk⟩:∃ k,x.kz[(q:Int).toNat]?=some k:=⟨_,zD hlt⟩
  have hkm:=zG hk;have hks:=g.sm.kz k hkm;have HK:=bw1 k (fun f hf=>⟨(hks.fields f hf).nwords,(hks.fields f hf).nweights⟩) hks.nfields
  repeat' first|refine sk171 ?_|intro b;conv=>whnf|with_reducible refine Br.d (fun hc=>?_) (fun hc=>?_)|with_reducible refine Br.b (fun hc=>?_) (fun hc=>?_)
  ·exact⟨q+1,rfl,rfl,⟨by omega,ao1 hno hk (by assumption)⟩,by omega⟩
  ·refine Rt.pure (zM iD ?_);exact (aC3 (by simp only [ag8,af9 hk (by assumption:ag5 k=false)];simp)).symm
 have hall1:x.kz.all ag5=true:=ak1 (fun m y hm hy=>hno m y (by omega) hy);clear hno
 repeat' first|refine sk171 ?_|intro b;conv=>whnf
 refine ac6 mixed aa0 (γ:=Nat) (fun q=>[(4,iD q)]) (fun _=>[]) (fun q=>q<=x.lz.length/\∀ (m:Nat) y,m<q->x.lz[m]?=some y->ag2 y=true) (fun q=>x.lz.length-q) 0 rfl rfl ⟨by omega,fun m y hm=>by omega⟩ ?_;clear hq hlt;rintro q ⟨hq,hno⟩;by_cases hlt:q<x.lz.length
 ·obtain⟨k,hk⟩:∃ k,x.lz[(q:Int).toNat]?=some k:=⟨_,zD hlt⟩
  have hkm:=zG hk;have hks:=g.sm.lz k hkm;have HL:=bw0 k hks.nstates hks.nmoves
  repeat' first|refine sk171 ?_|intro b;conv=>whnf|with_reducible refine Br.d (fun hc=>?_) (fun hc=>?_)|with_reducible refine Br.b (fun hc=>?_) (fun hc=>?_)
  ·exact⟨q+1,rfl,rfl,⟨by omega,ao1 hno hk (by assumption)⟩,by omega⟩
  ·refine Rt.pure (zM iD ?_);exact (aC3 (by simp only [ag8,af9 hk (by assumption:ag2 k=false)];simp)).symm
 have hall2:x.lz.all ag2=true:=ak1 (fun m y hm hy=>hno m y (by omega) hy);clear hno
 repeat' first|refine sk171 ?_|intro b;conv=>whnf
 refine ac6 mixed aa0 (γ:=Nat) (fun q=>[(5,iD q)]) (fun _=>[]) (fun q=>q<=x.rules.length/\∀ (m:Nat) y,m<q->x.rules[m]?=some y->an5 y=true) (fun q=>x.rules.length-q) 0 rfl rfl ⟨by omega,fun m y hm=>by omega⟩ ?_;clear hq hlt;rintro q ⟨hq,hno⟩;by_cases hlt:q<x.rules.length
 ·obtain⟨k,hk⟩:∃ k,x.rules[(q:Int).toNat]?=some k:=⟨_,zD hlt⟩
  repeat' first|refine sk171 ?_|intro b;conv=>whnf|with_reducible refine Br.d (fun hc=>?_) (fun hc=>?_)|with_reducible refine Br.b (fun hc=>?_) (fun hc=>?_)
  ·exact⟨q+1,rfl,rfl,⟨by omega,ao1 hno hk (by assumption)⟩,by omega⟩
  ·refine Rt.pure (zM iD ?_);exact (aC3 (by simp only [ag8,af9 hk (by assumption:an5 k=false)];simp)).symm
 have hall3:x.rules.all an5=true:=ak1 (fun m y hm hy=>hno m y (by omega) hy);have hvb:ag8 x=true:=by simp only [ag8,h1,hall1,hall2,hall3];simp;omega
 have hE:=bZ5 hvb;have HS:=bu9 x (bL0 hvb g);have hsr:=g.src hvb
 repeat' first|refine sk171 ?_|intro b;conv=>whnf
 refine CE.some HS ?_;rintro _ ⟨s,rfl,hs⟩
 repeat' first|refine sk171 ?_|intro b;conv=>whnf
 refine Rt.pure (zM iD ?_);exact hE.symm
end
section
open Go Go.RowKit Go.Shelf
theorem bq4 {k f r e:Int} {p:Prb} (h:p∈one k f r e):p.2.2.2≠0:=by
 unfold one at h;split at h
 ·cases h
 ·rw [zN] at h;subst h;assumption
theorem aW3 {q:Nat} {g:Nat->List Prb} (hg:∀ i,∀ p∈g i,p.2.2.2≠0) {p:Prb} (h:p∈upTo q g):p.2.2.2≠0:=by
 obtain⟨i,_,hi⟩:=List.mem_flatMap.1 h;exact hg i p hi
theorem bN0 {x:Sch} {p:Prb} (h:p∈aj9 x):p.2.2.2≠0:=by
 unfold aj9 at h;split at h
 ·rcases zO.1 h with h|h
  ·rcases zO.1 h with h|h
   ·refine aW3 (fun i p hp=>?_) h;unfold ax4 at hp;split at hp
    ·exact bq4 hp
    ·cases hp
   ·refine aW3 (fun i p hp=>?_) h;unfold ae7 at hp;split at hp
    ·rcases zO.1 hp with hp|hp
     ·exact bq4 hp
     ·refine aW3 (fun j p hp=>?_) hp;unfold ad1 at hp;split at hp
      ·exact bq4 hp
      ·cases hp
    ·cases hp
  ·refine aW3 (fun i p hp=>?_) h;unfold az1 at hp;split at hp
   ·exact bq4 hp
   ·cases hp
 ·rw [zN] at h;subst h;assumption
theorem WTiny.ws {w:Wd} (hw:WTiny w):Ws w:=⟨by have:=hw.k;omega,fun l hl=>by have:=hw.n l hl;omega,fun l hl r hr=>by have:=hw.f l hl r hr;omega⟩
theorem WTiny.wv {w:Wd} (hw:WTiny w):Wv w:=⟨by have:=hw.k;omega,fun l hl=>⟨by have:=hw.n l hl;omega,fun r hr=>by have:=hw.f l hl r hr;omega⟩,fun l hl r hr v hv=>⟨by have:=(hw.v l hl r hr v hv).lo;omega,by have:=(hw.v l hl r hr v hv).hi;omega⟩⟩
theorem QryS.b {q:Qry} (h:QryS q):QryB q:=⟨by have:=h.size;omega,by have:=h.path;omega,h.all⟩
theorem ch9 (y:Sch) (hy:Dls y) (w:Wd) (hw:Ws w) (q:Qry) (hq:QryB q):∃ a b e,APure prog 24 [schD y,slW w,qryD q] (.tup [iD a,bD b,iD e])/\APure prog 29 [schD y,slW w,qryD q] (.tup [iD a,bD b,iD e]):=by
 have HS:=aN8 y hy.good;have HR:=bd5 y hy.good
 cases hp:aj9 y with
 | nil=>exact⟨_,_,_,bb9 y w q hw hp hq.size (by have:=hq.path;omega) hq.all HS,aT6 y w q hw hp hq.size (by have:=hq.path;omega) hq.all HR⟩
 | cons p ps=>exact⟨0,false,p.2.2.2,bt7 y w q p ps hp (bN0 (x:=y) (by rw [hp];exact yN ..)) HS,bj6 y w q p ps hp HR⟩
theorem sb172 {A B:Prop} (k:B) (h:Hd7 B->A:=by intro q7;(first|refine u3x ?_|(with_reducible refine pA5 trivial ?_)|(with_reducible refine Br.t (wP _) ?_)|refine u1x ?_|refine u0x ?_);exact q7.1):A:=h ⟨k⟩
theorem sk173 {A B:Prop} (k:B) (h:Hd7 B->A:=by intro q7;(first|refine sb172 ?_|refine sb1 ?_|(refine' cp7x ?hc ?_;(case hc=>fail)));exact q7.1):A:=h ⟨k⟩
theorem sk174 {A B:Prop} (k:B) (h:Hd7 B->A:=by intro q7;(first|refine sb172 ?_|refine sb67 ?_|(refine' cp7x ?hc ?_;(case hc=>fail)));exact q7.1):A:=h ⟨k⟩
theorem sk175 {A B:Prop} (k:B) (h:Hd7 B->A:=by intro q7;(first|refine sb172 ?_|refine sb67 ?_|(refine' cp7x ?hc ?_;(case hc=>first|exact HQ|exact HA|exact HR2)));exact q7.1):A:=h ⟨k⟩
theorem sk176 {A B:Prop} (k:B) (h:Hd7 B->A:=by intro q7;(first|refine sb172 ?_|refine sb67 ?_|(refine' cp7x ?hc ?_;(case hc=>first|exact HQ|exact HA|exact HB|exact HL)));exact q7.1):A:=h ⟨k⟩
theorem bk3 (l m k:List Int) (how by_:Int) (hl:I64s l) (hm:I64s m) (hk:I64s k) (hhow:I64n how) (hby:I64n by_):APure prog 5 [slI l,slI m,slI k,iD how,iD by_] (bD true):=by
 refine eP7 func5 ntmps5 fun BB=>?_
 repeat' first|refine sk173 ?_|intro b;conv=>whnf
 refine CE.some (bd6 l hl) ?_;rintro _ ⟨x,rfl,hgx⟩;have hp:=hgx.probs0;have hnk:=hgx.nk;have HV:=aN8 x hgx.cls.good;have HR:=bd5 x hgx.cls.good;have hnf:∀ k∈x.kz,k.fields.length<=50:=fun k hk=>by have:=(hgx.ks.ck hgx.nk.2 k hk).ck.nf;omega
 have hsb:SchB x:=⟨by omega,fun k hk=>by have:=hnf k hk;omega,fun kd hkd=>by
  obtain⟨j,hj⟩:=yO hkd;obtain⟨d,h,_⟩:=bB7 hp hj;have:=(zE.1 h).1;omega⟩
 repeat' first|refine sk173 ?_|intro b;conv=>whnf
 obtain⟨bx,rfl⟩:∃ bx,bx=b:=⟨_,rfl⟩
 refine CE.some (bp1 x hsb (by omega) k hk) ?_;rintro _ ⟨q,rfl,hq⟩
 repeat' first|refine sk173 ?_|intro b;conv=>whnf
 obtain⟨bq,rfl⟩:∃ bx,bx=b:=⟨_,rfl⟩
 refine CE.some (bC7 x (by omega) hnf m hm) ?_;rintro _ ⟨w,rfl,hw⟩
 repeat' first|refine sk174 ?_|intro b;conv=>whnf
 (refine Dr.r ?_;refine W.mk ?_)
 refine ak3 mixed aa0 rfl [2,3,6] 7 (inE [0,1,4,5,7]) (.three 0 (.two 1 (.two 4 (.one 5 (.one 7 (.fst 8 (.fst 9 .done)))) 5 (.one 4 (.one 7 (.fst 8 (.fst 9 .done))))) 5 (.one 1 (.one 4 (.one 7 (.fst 8 (.fst 9 .done)))))) 1 (.three 0 (.two 4 (.one 5 (.one 7 (.fst 8 (.fst 9 .done)))) 5 (.one 4 (.one 7 (.fst 8 (.fst 9 .done))))) 4 (.two 0 (.one 5 (.one 7 (.fst 8 (.fst 9 .done)))) 5 (.two 0 (.one 7 (.fst 8 (.fst 9 .done))) 7 (.one 0 (.fst 8 (.fst 9 .done))))) 5 (.two 0 (.one 4 (.one 7 (.fst 8 (.fst 9 .done)))) 4 (.two 0 (.one 7 (.fst 8 (.fst 9 .done))) 7 (.one 0 (.fst 8 (.fst 9 .done)))))) 5 (.two 0 (.one 1 (.one 4 (.one 7 (.fst 8 (.fst 9 .done))))) 1 (.two 0 (.one 4 (.one 7 (.fst 8 (.fst 9 .done)))) 4 (.two 0 (.one 7 (.fst 8 (.fst 9 .done))) 7 (.one 0 (.fst 8 (.fst 9 .done))))))) (γ:=List Qry) (fun g=>[(14,.sl 8 (g.map qryC))]) (fun _=>[(bq,Blk.cells 59 (qryC q)),(bx,Blk.cells 28 (schC x))]) (fun g=>g.length=3/\∀ q∈g,QryB q) (by decide +kernel) ?_ ?_
 ·repeat' first|refine sk174 ?_|intro b;conv=>whnf|(refine And.intro ?_ ?_<;>(conv=>whnf))|(refine CE.some (bM4 q hq how by_ hhow hby) ?_;(rintro _ ⟨q1,rfl,hq1⟩))|(refine CE.some (bp1 x hsb (by omega) m hm) ?_;(rintro _ ⟨q2,rfl,hq2⟩))
  all_goals exact⟨[q,q1,q2],(aa2 cl2),Sc.refl _,⟨rfl,fun z hz=>by
   simp only [zU,yF,xE] at hz;rcases hz with rfl|rfl|rfl
   ·exact hq.b
   ·exact hq1
   ·exact hq2.b⟩⟩
 rintro Qs ⟨hQl,hQs⟩;simp only at hQl hQs ⊢
 repeat' first|refine sk174 ?_|intro b;conv=>whnf
 refine CE.some (bu7 x (by omega) hnf m hm) ?_;rintro _ ⟨w2,rfl,hw2⟩
 repeat' first|refine sk174 ?_|intro b;conv=>whnf
 refine aa5 mixed aa0 (γ:=Nat) (fun i=>[(16,iD i)]) (fun _=>[(bq,Blk.cells 59 (qryC q)),(bx,Blk.cells 28 (schC x))]) (fun i=>i<=3) (fun i=>3-i) 0 (aa2 cl2) (Sc.refl _) (zW _) ?_;rintro i hi;by_cases hi3:i<3
 ·obtain⟨qi,hqi⟩:∃ y,Qs[i]?=some y:=⟨_,zD (by omega)⟩
  have hqi':Qs[((i:Nat):Int).toNat]?=some qi:=hqi;have hQ:=hQs qi (zG hqi);have hQp:=hQ.path
  repeat' first|refine sk174 ?_|intro b;conv=>whnf
  refine aa5 mixed aa0 (γ:=Nat) (fun j=>[(17,iD j)]) (fun _=>[(bq,Blk.cells 59 (qryC q)),(bx,Blk.cells 28 (schC x))]) (fun j=>j<=2) (fun j=>2-j) 0 (aa2 cl2) (Sc.refl _) (zW _) ?_;rintro j hj;by_cases hj2:j<2
  ·obtain⟨wj,hwj,hwt⟩:∃ wj,[[slW w],[slW w2]][((j:Nat):Int).toNat]?=some [slW wj]/\WTiny wj:=by
    rcases (by omega:j=0\/j=1) with rfl|rfl
    ·exact⟨w,rfl,hw⟩
    ·exact⟨w2,rfl,hw2⟩
   have HQ:=be9 qi hQ.size;have HA:=bb9 x wj qi hwt.ws hp hQ.size (by omega) hQ.all HV;have HR2:=aT6 x wj qi hwt.ws hp hQ.size (by omega) hQ.all HR;have HE:=cm9 x wj qi hwt.wv hwt.ws hp hQ.size (by omega) hQ.all HV;have hnofit:¬ fitW x wj=true->(af1 x wj qi).2.2=2:=fun h=>by unfold af1;rw [if_pos (by simpa using h)]
   generalize af1 x wj qi=an at *;obtain⟨a1,a2,a3⟩:=an;simp only at HA HR2 HE hnofit
   repeat' first|refine sk175 ?_|intro b;conv=>whnf
   refine Dr.l (by decide +kernel) ?_
   repeat' first|refine sk175 ?_|intro b;conv=>whnf|(refine Ix.at hwj (by omega) ?_)
   refine Dr.l (by decide +kernel) ?_
   repeat' first|refine sk175 ?_|intro b;conv=>whnf|(refine Ix.at hwj (by omega) ?_)
   (refine Dr.r ?_;refine W.mk ?_)
   refine ak3 mixed aa0 rfl [1,2,3,4,5,6,7,8,9,10,11] 9 (inE [0,12]) (.one 0 (.one 12 (.fst 13 (.fst 14 (.fst 15 (.fst 16 (.fst 17 (.fst 18 (.fst 19 .done))))))))) (γ:=Int × Bool × Int) (fun g=>[(24,iD g.1),(25,bD g.2.1),(26,iD g.2.2)]) (fun _=>[(bq,Blk.cells 59 (qryC q)),(bx,Blk.cells 28 (schC x))]) (fun g=>fitW x wj=true->(g.1,g.2.1,g.2.2)=(a1,a2,a3)) (by decide +kernel) ?_ ?_
   ·repeat' first|refine sk175 ?_|intro b;conv=>whnf|(refine Ix.at hwj (by omega) ?_)|(refine And.intro ?_ ?_<;>(conv=>whnf))|((with_reducible refine' Ot.yd ?hydn ?_);(case hydn=>exact cj6 rfl rfl underlying76 (fun m h=>by cases h)))|(refine CE.some HE ?_;(rintro _ ⟨g1,g2,g3,rfl,hg⟩))
    exact⟨(g1,g2,g3),(aa2 cl2),Sc.refl _,hg⟩
   ·rintro⟨g1,g2,g3⟩ hg;simp only at hg ⊢;by_cases h3:a3=2
    ·repeat' first|refine sk175 ?_|intro b;conv=>whnf
     exact⟨j+1,(aa2 cl2),Sc.refl _,by omega,by omega⟩
    ·have hf:fitW x wj=true:=Classical.not_not.1 fun h=>h3 (hnofit h);have hg2:=hg hf;simp only [vY] at hg2;obtain⟨e1,e2,e3⟩:=hg2;rw [e1,e2,e3];clear hg
     repeat' first|refine sk175 ?_|intro b;conv=>whnf
     exact⟨j+1,(aa2 cl2),Sc.refl _,by omega,by omega⟩
  ·obtain rfl:j=2:=by omega
   repeat' first|refine sk175 ?_|intro b;conv=>whnf
   exact⟨i+1,(aa2 cl2),Sc.refl _,by omega,by omega⟩
 ·obtain rfl:i=3:=by omega
  repeat' first|refine sk175 ?_|intro b;conv=>whnf
  refine CE.some (bu8 x hgx.cls by_ how by_ hby hhow hby) ?_;rintro _ ⟨y,rfl,hy⟩;obtain⟨a1,a2,a3,HA,HB⟩:=ch9 y hy w hw.ws q hq.b;have HQ:=be9 q (by have:=hq.size;omega);have HL:=bZ3
  repeat' first|refine sk176 ?_|intro b;conv=>whnf
  refine Dr.l (by decide +kernel) ?_
  repeat' first|refine sk176 ?_|intro b;conv=>whnf|((with_reducible refine' Ot.yd ?hydn ?_);(case hydn=>exact bZ0 rfl rfl rfl underlying4))
  exact Rt.pure rfl
end
section
open Go Go.Maps Go.MapKept Go.WideElems Go.ChangeShapes Go.WideShapes
set_option maxRecDepth 100000
abbrev laidL:List (String × DataW Unit):=[("math/bits.deBruijn32tab",Rows.laid_math_bits_deBruijn32tab),("math/bits.deBruijn64tab",Rows.laid_math_bits_deBruijn64tab),("internal/strconv.uint64pow10",Rows.laid_internal_strconv_uint64pow10),("diorama/schema.words",Rows.laid_diorama_schema_words),("diorama/typing.checks",Rows.laid_diorama_typing_checks)]
theorem cu2:prog.cellsOf 9=1:=by kernel_rfl
theorem cx7:prog.cellsOf 167=1:=by kernel_rfl
theorem cx8:prog.cellsOf 347=20:=by kernel_rfl
theorem c_fn:prog.cellsOf 243=1:=by kernel_rfl
theorem cx9:prog.cellsOf 244=1:=by kernel_rfl
theorem g_pow:prog.globalNamed "internal/strconv.uint64pow10" = some 5:=by kernel_rfl
theorem g_words:prog.globalNamed "diorama/schema.words" = some 3:=by kernel_rfl
theorem g_chk:prog.globalNamed "diorama/typing.checks" = some 0:=by kernel_rfl
theorem t_pow:(prog.globals[5]?).map (·.type)=some 347:=by kernel_rfl
theorem t_words:(prog.globals[3]?).map (·.type)=some 336:=by kernel_rfl
theorem t_chk:(prog.globals[0]?).map (·.type)=some 246:=by kernel_rfl
theorem bN3:(Rows.laid_internal_strconv_uint64pow10:DataW Unit)=Lib.tabData .u64 Lib.pow10Tab:=by rfl
theorem aH6 {W:World} (h:laidMetH prog laidL W) {n:String} {d:DataW Unit} (hm:(n,d)∈laidL.filter fun x=>x.2.handleName?.isNone):Lib.VarReads prog W n d:=Lib.laidMet.reads (laidMetH_iff.1 h).1 hm
theorem bN9:(Rows.laid_internal_strconv_uint64pow10:DataW Unit).handleName?.isNone=true:=rfl
theorem bw5:(Rows.laid_diorama_schema_words:DataW Unit).handleName?.isNone=true:=rfl
theorem bO8 {W:World} (h:laidMetH prog laidL W):Pow10 W:=by
 obtain⟨g,t,cs,fuel,p,hg,ht,hv,hd⟩:=aH6 h (n:= "internal/strconv.uint64pow10") (d:=Rows.laid_internal_strconv_uint64pow10) (vP.2 ⟨by simp [laidL],bN9⟩)
 obtain rfl:=wK (g_pow.symm.trans hg);obtain rfl:=wK (t_pow.symm.trans ht);rw [bN3] at hd;unfold Pow10 Lib.TabIs;rw [hv,← Lib.cells_of_tab underlying347 underlying167 cx7 cx8 hd]
theorem bx1 {W:World} (h:laidMetH prog laidL W):WordsAt W:=by
 obtain⟨g,t,cs,fuel,p,hg,ht,hv,hd⟩:=aH6 h (n:= "diorama/schema.words") (d:=Rows.laid_diorama_schema_words) (vP.2 ⟨by simp [laidL],bw5⟩)
 obtain rfl:=wK (g_words.symm.trans hg);obtain rfl:=wK (t_words.symm.trans ht);obtain⟨xs,m1,rfl,hx1,hlen,hn3,hel⟩:=DataW.trod_array underlying336 hd;intro i s hi;have hi9:i<9:=(zE.1 hi).1;have hE:=hel i hi9;obtain⟨y,hy⟩:∃ y,xs[i]?=some y:=⟨xs[i]'(by omega),zD (by omega)⟩
 rw [hy,cu2] at hE;obtain⟨s',e1,e2,_⟩:=DataW.trod_string underlying9 hE;have hc:=World.var?_cell g_words hv i;have e3:cs[i]?=some (.string s'):=by
  have:=zM (·[0]?) e1
  simpa [yX,xR] using this
 rw [e3] at hc;rw [hc];have e4:(xs.map (·.1))[i]?=some (.lit (.string s'.data.toList)):=by rw [zP,hy,e2];rfl
 have e5:=zM Prod.fst hx1;simp only [Rows.laid_diorama_schema_words,DataW.agg.injEq] at e5;rw [← e5] at e4;have key:s'.data.toList=s.data.toList:=by
  have:i=0\/i=1\/i=2\/i=3\/i=4\/i=5\/i=6\/i=7\/i=8:=by omega
  rcases this with rfl|rfl|rfl|rfl|rfl|rfl|rfl|rfl|rfl<;>(simp at hi e4;subst hi;rw [← e4])
 have:s'=s:=by
  obtain⟨a⟩:=s';obtain⟨b⟩:=s
  congr 1
  exact Array.toList_inj.1 key
 rw [this]
abbrev nmB (d:UInt8):List UInt8:=[100,105,111,114,97,109,97,47,116,121,112,105,110,103,46,99,104,101,99,107,115,36,d]
abbrev chkE:List (Lit × DataW (List UInt8)):=[(.int .i64 0,.agg [.held (nmB 49)]),(.int .i64 1,.agg [.held (nmB 50)]),(.int .i64 4,.agg [.held (nmB 51)]),(.int .i64 5,.agg [.held (nmB 52)]),(.int .i64 6,.agg [.held (nmB 53)]),(.int .i64 7,.agg [.held (nmB 54)]),(.int .i64 8,.agg [.held (nmB 55)])]
theorem ct5 {W:World} {n:Nat} {v:Value} {z:DataW (List UInt8) × List MemPlace} {d:UInt8} {f0:FuncId} (h:elemAt (funcToken prog) prog W 0 (fun _=>true) true n 244 v=some z) (hz:z.1 = .agg [.held (nmB d)])
  (hone:((List.range prog.funcs.size).filter fun f=>(prog.funcs[f]?).any (·.name.toUTF8.data.toList==nmB d))=[f0]):v = .agg #[chkV f0]:=by
 unfold elemAt at h;split at h
 ·rename_i hf;obtain⟨xs,m,rfl,hx,hl,hn,hel⟩:=DataW.trod_struct underlying244 h;rw [cx9] at hl;have h0:=hel 0 _ rfl;obtain⟨y,hy⟩:∃ y,xs[0]?=some y:=⟨xs[0]'(by rw [hn];decide),zD _⟩
  simp only [hy,c_fn,List.drop_zero] at h0;rw [hx] at hz;simp only [DataW.agg.injEq] at hz;have hy1:y.1 = .held (nmB d):=by
   have:(xs.map (·.1))[0]?=some y.1:=by rw [zP,hy];rfl
   rw [hz] at this
   simpa using this.symm
  match hc:v.cells.toList,hl with
  | [c],_=>
   rw [hc] at h0;simp only [List.getElem_toArray,List.getElem_cons_zero,List.drop_zero,c_fn,List.take_succ_cons,List.take_zero] at h0;obtain⟨y1,y2⟩:=y;simp only at hy1;subst hy1;have e:=func_of_trod underlying243 hone h0;subst e;unfold Value.formed at hf;rw [underlying244] at hf
   cases v with
   | agg cs=>
    simp only [Value.cells] at hc;obtain⟨l⟩:=cs;simp only at hc;rw [hc];rfl
   | _=>simp at hf
 ·cases h
theorem bk2 {W:World} (h:laidMetH prog laidL W):∃ r,W.cell? ⟨0,0,none⟩=some (.map (some r))/\MapIs prog 3 W r 7 (aggF chkM):=by
 obtain⟨g,t,cs,fuel,p,hg,ht,hv,hd⟩:=h.funcs (n:= "diorama/typing.checks") (by unfold laidL Rows.laid_diorama_typing_checks;simp only [zU];exact .inr (.inr (.inr (.inr (.inl rfl)))))
 obtain rfl:=wK (g_chk.symm.trans hg);obtain rfl:=wK (t_chk.symm.trans ht);have hd':DataW.trod (funcToken prog) prog W 0 (fun _=>true) true fuel 246 cs.toList=some (.map chkE,p):=hd;rcases open_map underlying246 hd' with ⟨_,hx⟩|⟨bm,es,clock,m,rfl,hcs,hb,_,F,hx⟩
 ·simp at hx
 simp only [vY,DataW.map.injEq] at hx;have hp:=hx.1 ▸ sorted_perm (es.toList.map (rg prog 3 (elemAt (funcToken prog) prog W 0 (fun _=>true) true m 244)));have hcell:=World.var?_cell hg hv 0;rw [Array.eq_one_of_toList hcs] at hcell;have hsz:es.size=7:=by have:=hp.length_eq;simpa using this.symm
 have one:∀ e∈es.toList,aggF chkM e.key=some e.val:=fun e he=>by
  obtain⟨y,hy⟩:=F.reads e he;have hm:y∈chkE:=hp.mem_iff.2 (xM.2 ⟨e,he,rg_of hy⟩);have hk:=rd_key hy;obtain⟨z,hz1,hz2⟩:=rd_val hy;obtain⟨q,e1,e2,_⟩:=keyOf_int_inv underlying3 hk;simp only [chkE,zU,yF,xE] at hm;rcases hm with rfl|rfl|rfl|rfl|rfl|rfl|rfl<;>(cases e2;rw [e1,ct5 hz1 hz2.symm (by kernel_rfl)];rfl)
 refine⟨bm,by simpa using hcell,es,clock,hb,⟨by omega,F.stamped,F.keys,one,fun key v hkv=>?_⟩⟩;have back:∀ (n:Int) d,(Lit.int .i64 n,d)∈chkE->∃ e∈es.toList,e.key = .int .i64 n:=fun n d hm=>by
  obtain⟨e,he,hr⟩:=xM.1 (hp.mem_iff.1 hm);obtain⟨y,hy⟩:=F.reads e he;rw [rg_of hy] at hr;have hk:=rd_key hy;rw [hr] at hk;obtain⟨q,e1,e2,_⟩:=keyOf_int_inv underlying3 hk;simp only at e2
  cases e2
  exact⟨e,he,e1⟩
 have fin:∀ (n:Int) d,(Lit.int .i64 n,d)∈chkE->key = .int .i64 n->∃ e∈es.toList,e.key=key/\e.val=v:=fun n d hm hk=>by
  obtain⟨e,he,e1⟩:=back n d hm;have:=one e he;rw [e1,← hk,hkv] at this;exact⟨e,he,by rw [e1,hk],(wK this).symm⟩
 unfold aggF chkM at hkv;split at hkv
 ·exact fin 0 (.agg [.held (nmB 49)]) (by simp [chkE]) rfl
 ·exact fin 1 (.agg [.held (nmB 50)]) (by simp [chkE]) rfl
 ·exact fin 4 (.agg [.held (nmB 51)]) (by simp [chkE]) rfl
 ·exact fin 5 (.agg [.held (nmB 52)]) (by simp [chkE]) rfl
 ·exact fin 6 (.agg [.held (nmB 53)]) (by simp [chkE]) rfl
 ·exact fin 7 (.agg [.held (nmB 54)]) (by simp [chkE]) rfl
 ·exact fin 8 (.agg [.held (nmB 55)]) (by simp [chkE]) rfl
 ·cases hkv
theorem ck3 {W:World} {n:String} {g:Nat} {cs:Array Value} (hg:prog.globalNamed n=some g) (hv:W.var? prog n=some cs):g<W.heap.size:=by
 unfold World.var? at hv;rw [hg] at hv;simp only [Option.bind_some] at hv
 cases hb:W.heap[g]? with
 | none=>rw [hb] at hv;simp at hv
 | some o=>exact (zX.1 hb).1
theorem bP0 {W:World} (h:laidMetH prog laidL W):GOK W (fun _=>False):=by
 obtain⟨g,t,cs,fuel,p,hg,ht,hv,hd⟩:=aH6 h (n:= "math/bits.deBruijn64tab") (d:=Rows.laid_math_bits_deBruijn64tab) (vP.2 ⟨by simp [laidL],rfl⟩)
 have hlt:=ck3 hg hv;obtain rfl:=wK ((show prog.globalNamed "math/bits.deBruijn64tab" = some 7 by kernel_rfl).symm.trans hg)
 obtain⟨r,h1,h2⟩:=bk2 h;exact⟨fun _ h=>h.elim,hlt,fun _ _ h=>h,bO8 h,bx1 h,r,h1,fun h=>h,h2⟩
end
section
open Go Go.ChangeShapes Go.WideShapes Go.ChangeAt Go.RowKit
set_option maxRecDepth 100000
theorem cu3:prog.cellsOf 3=1:=by kernel_rfl
theorem cy0:prog.bytesOf 3=8:=by kernel_rfl
inductive ArgD:TypeId->D->Prop
 | int (n:Int) (h:I64n n):ArgD 3 (iD n)
 | ints (l:List Int) (h:I64s l):ArgD 22 (slI l)
inductive ArgsD:List TypeId->List D->Prop
 | nil:ArgsD [] []
 | cons {t:TypeId} {d:D} {ts:List TypeId} {ds:List D} (h:ArgD t d) (k:ArgsD ts ds):ArgsD (t::ts) (d::ds)
theorem ArgD.int_inv {d:D} (h:ArgD 3 d):∃ n,I64n n/\d=iD n:=by
 generalize hq:3=q at h
 cases h with
 | int n h=>exact⟨n,h,rfl⟩
 | ints l h=>exact absurd hq (by decide)
theorem ArgD.ints_inv {d:D} (h:ArgD 22 d):∃ l,I64s l/\d=slI l:=by
 generalize hq:22=q at h
 cases h with
 | int n h=>exact absurd hq (by decide)
 | ints l h=>exact⟨l,h,rfl⟩
theorem ArgsD.nil_inv {ds:List D} (h:ArgsD [] ds):ds=[]:=by cases h;rfl
theorem ArgsD.int_inv {ts:List TypeId} {ds:List D} (h:ArgsD (3::ts) ds):∃ n ds',I64n n/\ds=iD n::ds'/\ArgsD ts ds':=by
 cases h with
 | cons h k=>obtain⟨n,hn,rfl⟩:=h.int_inv;exact⟨n,_,hn,rfl,k⟩
theorem ArgsD.ints_inv {ts:List TypeId} {ds:List D} (h:ArgsD (22::ts) ds):∃ l ds',I64s l/\ds=slI l::ds'/\ArgsD ts ds':=by
 cases h with
 | cons h k=>obtain⟨n,hn,rfl⟩:=h.ints_inv;exact⟨n,_,hn,rfl,k⟩
theorem bX5 {n:Int} (h:(Lit.int .i64 n).wf=true):I64n n:=by
 simp only [Lit.wf,zJ,zQ] at h;exact⟨h.1,h.2⟩
section
variable {H:Type} {enc:TypeId × Value->H} {W:World}
theorem bS2 {t:TypeId} {v:Value} {d:DataW H} {ps:List MemPlace} {base:Nat} (ht:t=3\/t=22) (hv:Value.okWide prog W .any base t v)
  (h:DataW.Trod enc prog W 0 (fun _=>true) true t v d ps) (hw:∀ n∈d.weights prog t,n<=reachBytes) :
  (∃ x,ArgD t x/\Rd W (fun _=>False) x v)/\∀ W',Ex W W'->∀ sp:Nat->Bool,(∀ p∈ps,sp p.block=true)->DataW.Trod enc prog W' 0 sp true t v d ps:=by
 rcases ht with rfl|rfl
 ·obtain⟨n,rfl,rfl,rfl,hn⟩:=open_int underlying3 hv h;exact⟨⟨_,.int n (bX5 hn),.v _⟩,fun W' _ sp _=>shut_int underlying3 hn⟩
 ·obtain⟨a,len,cap,rfl⟩:=okWide_slice underlying22 hv;obtain⟨fuel,hf⟩:=h;rcases open_ints underlying22 underlying3 cu3 hf with ⟨h1,h2⟩|⟨a',len',cap',zs,h1,hb,hl,hm,hz,hx,hcell,hwf⟩
  ·simp only [Value.cells,wM,Value.slice.injEq,and_true] at h1;obtain⟨rfl,rfl,rfl⟩:=h1
   cases h2
   refine⟨⟨_,.ints [] ⟨by simp,by simp⟩,?_⟩,fun W' _ sp _=>⟨1,?_⟩⟩
   ·exact .sl 1 [] none 0 (fun _ _=>undef) (zT _) (by simp) (by simp) (by simp)
   ·rw [DataW.trod_step];unfold DataW.trodStep;simp only [underlying22,Value.cells]
  ·simp only [Value.cells,wM,Value.slice.injEq,and_true] at h1;obtain⟨rfl,rfl,rfl⟩:=h1;simp only [if_true] at hz
   cases hx
   have hlen:len<=17592186044416:=by
    have:=hw ((len+(cap-len))*8) (by
     unfold DataW.weights;rw [underlying22];simp only [zL,zR,List.length_drop,lits,cy0,hz,vH hl];exact yN)
    unfold reachBytes at this;omega
   refine⟨⟨_,.ints (zs.take len) ⟨fun n hn=>bX5 (hwf n (xG hn)),by rw [zR];omega⟩,?_⟩,fun W' hex sp hsp=>?_⟩
   ·have hcl:∀ (i:Nat) n,(zs.take len)[i]?=some n->W.cell? (a'.add i)=some (.int .i64 n):=fun i n hn=>by
     rw [yX] at hn;split at hn
     ·have hi:=(zE.1 hn).1;rw [hcell i hi];simp [List.getD_eq_getElem?_getD,hn]
     ·cases hn
    have hln:len=((zs.take len).map fun n=>[iD n]).length:=by rw [zL,zR];omega
    have:Rd W (fun _=>False) (.sl 1 ((zs.take len).map fun n=>[iD n])) (.slice (some a') ((zs.take len).map fun n=>[iD n]).length cap):=by
     refine .sl 1 _ (some a') cap (fun i _=>.int .i64 ((zs.take len).getD i 0)) (by rw [← hln];exact hl) (fun y hy=>by obtain⟨n,_,rfl⟩:=xM.1 hy;rfl) (fun i y hy=>?_) (fun i y hy j d hd=>?_)
     ·rw [zP,xN] at hy;obtain⟨n,hn,rfl⟩:=hy;have hc:=hcl i n hn;obtain⟨b,off,spot⟩:=a';have hs:spot=none:=by
       have hi0:=(zE.1 hn).1;rw [zR] at hi0;have:=World.cell?_spot (hcell 0 (by omega))
       simpa [Addr.add] using this
      subst hs;refine⟨b,off,rfl,fun h=>h,by have:=World.block_lt_of_cell? W _ hc;simp only [Addr.add] at this;split at this<;>simpa using this,fun j hj=>?_⟩;obtain rfl:j=0:=by omega
      rw [add_plain] at hc;rw [Nat.mul_one,Nat.add_zero,hc];simp [List.getD_eq_getElem?_getD,hn]
     ·rw [zP,xN] at hy;obtain⟨n,hn,rfl⟩:=hy
      cases j with
      | succ j=>simp at hd
      | zero=>
       simp at hd;subst hd;have:(zs.take len).getD i 0=n:=by rw [List.getD_eq_getElem?_getD,hn];rfl
       rw [this];exact .v _
    rw [← hln] at this;exact this
   ·have hsz:zs.length=if sp a'.block=true then cap else len:=by
     rcases uA cap with h0|h0
     ·split<;>omega
     ·rw [if_pos (show sp a'.block=true from hsp (.cell a'.block a'.off) (MemPlace.mem_row.2 ⟨0,by omega,by simp⟩))];exact hz
    exact⟨2,shut_ints 0 underlying22 underlying3 cu3 hb hl hm hsz (fun i hi=>hex.cell (hcell i hi)) hwf⟩
theorem bh5 {base:Nat}:∀ {ts:List TypeId} {vs:List Value} {ds:List (DataW H)} {ps:List MemPlace},(∀ t∈ts,t=3\/t=22)->(∀ (j:Nat) t v,ts[j]?=some t->vs[j]?=some v->Value.okWide prog W .any base t v) ->
  DataW.TrodAll enc prog W 0 (fun _=>true) true ts vs ds ps->(∀ n∈DataW.weightsEach prog ts ds,n<=reachBytes) ->
  (∃ xs,ArgsD ts xs/\RdL W (fun _=>False) xs vs)/\(∀ W',Ex W W'->∀ sp:Nat->Bool,(∀ p∈ps,sp p.block=true)->DataW.TrodAll enc prog W' 0 sp true ts vs ds ps)
 | [],vs,ds,ps,_,_,h,_=>by
  obtain⟨rfl,rfl,rfl⟩:=trodAll_nil h;exact⟨⟨[],.nil,.nil⟩,fun _ _ _ _=>trodAll_mk0⟩
 | t::ts,vs,ds,ps,ht,hv,h,hw=>by
  obtain⟨v0,vs0,d0,ds0,p0,q0,rfl,rfl,rfl,h0,r0⟩:=trodAll_cons h;have hw':DataW.weightsEach prog (t::ts) (d0::ds0)=d0.weights prog t++DataW.weightsEach prog ts ds0:=rfl;rw [hw'] at hw;obtain⟨⟨x,k1,k2⟩,k3⟩:=bS2 (ht t (by simp)) (hv 0 t v0 rfl rfl) h0 (fun n hn=>hw n (xK _ hn));obtain⟨⟨xs,g1,g2⟩,g3⟩:=bh5 (fun u hu=>ht u (by simp [hu])) (fun j u v hj hvj=>hv (j+1) u v (by simpa using hj) (by simpa using hvj)) r0 (fun n hn=>hw n (yW _ hn));exact⟨⟨x::xs,.cons k1 g1,.cons k2 g2⟩,fun W' hex sp hsp=>trodAll_cons_mk (k3 W' hex sp (fun p hp=>hsp p (xK _ hp))) (g3 W' hex sp (fun p hp=>hsp p (yW _ hp)))⟩
theorem ce2 {W':World} (h:Ex W W') (may:MemPlace->Prop):W.keptBut W' may:=by
 refine World.keptBut_mono (may:=fun _=>False) (fun _ f=>f.elim) (World.keptBut.congr (World.keptBut_refl W _) ?_ ?_ (fun i hi=>h.block i hi))
 ·exact Keep.os h
 ·exact Keep.output h
theorem be8 {f:FuncId} {fn:Func} {s:ChangeSpec} (hts:∀ t∈fn.params.toList,t=3\/t=22) (hvars:s.vars=[]) (hres:fn.resultTypes = #[4])
  (hs:∀ ds:List (DataW H),ds.length=fn.params.size->s.fn H ds={ results:=[.lit (.bool true)],args:=ds }) (hP:∀ xs,ArgsD fn.params.toList xs->APure prog f xs (bD true))
  (base:Nat) (args:Array Value) (ds gs:List (DataW H)) (before:List MemPlace)
  (hval:∀ (j:Nat) t v,fn.params[j]?=some t->args[j]?=some v->Value.okWide prog W .any base t v)
  (hW:DataW.Whole enc prog fn.params.toList s.vars false W args.toList ds gs before)
  (hsz:(DataW.weightsEach prog (fn.params.toList++s.plain.varTypes prog) (ds++gs)).all (·<=reachBytes)=true) (hL:laidMetH prog laidL W) :
  Calls prog f args W fun e W'=>∃ v,e = .returned v/\s.post enc prog fn false true false false W args v W':=by
 have hW':=hW;obtain⟨p,q,hA,hV,rfl,hfz,hnd⟩:=hW;rw [hvars] at hV;obtain⟨rfl,rfl⟩:=trodVars_none hV;have hdl:ds.length=fn.params.size:=by have:=(trodAll_length hA).2;simpa using this
 have hw:∀ n∈DataW.weightsEach prog fn.params.toList ds,n<=reachBytes:=fun n hn=>by
  have hvt:s.plain.varTypes prog=[]:=by simp [DataSpec.varTypes,ChangeSpec.plain,hvars]
  rw [hvt,zZ,zZ] at hsz;exact wY (yA.1 hsz n hn)
 obtain⟨⟨xs,k1,k2⟩,k3⟩:=bh5 hts (fun j t v hj hv=>hval j t v (by simpa using hj) (by simpa using hv)) hA hw;have hrun:=(hP xs k1).run W (fun _=>False) args.toList k2 (bP0 hL);rw [Array.toArray_toList] at hrun;refine hrun.mono fun e W' ⟨u,he,hu,hex⟩=>?_;have hu':=hu.val rfl;subst hu';refine⟨_,he,?_⟩;have hfn:=hs ds hdl;have hold:∀ x∈p,(fun b=>decide (b<W.heap.size)) x.block=true:=fun x hx=>by have:=hW'.lt x (by simpa using hx);simpa using this
 have hra:∀ (b:Nat) (sp:Nat->Bool) (hd:Bool),DataW.TrodAll enc prog W' b sp hd fn.resultTypes.toList ((Value.bool true).resultList fn.resultTypes.size) (s.fn H (ds++[])).results []:=fun b sp hd=>by
  rw [zZ,hfn,hres];exact trodAll_cons_mk (shut_bool underlying4 _) trodAll_mk0
 have hA1:∀ sp:Nat->Bool,(∀ x∈p,sp x.block=true)->DataW.TrodAll enc prog W' 0 sp true fn.params.toList args.toList (s.fn H (ds++[])).args p:=fun sp hsp=>by
  rw [zZ,hfn];exact k3 W' hex _ hsp
 have hV1:∀ sp:Nat->Bool,DataW.TrodVars enc prog W' sp s.vars (s.fn H (ds++[])).vars []:=fun sp=>by
  rw [hvars,zZ,hfn];rfl
 refine⟨ds,[],p++[],[],p,[],hW',hra _ _ _,hA1 _ hold,hV1 _,ce2 hex _,fun _=>?_⟩
 ·refine⟨ok_one hres rfl (okWide_bool_mk underlying4 _),_,_,([]++p)++[],⟨[]++p,[],trodAll_append (hA1 _ (fun _ _=>rfl)) (hra _ _ _),hV1 _,rfl,?_,fun h=>by cases h⟩,fun x hx _=>by simpa using hx⟩;intro b off hp;have hp':MemPlace.cell b off∈p++[]:=by simpa using hp
  rw [hex.frozen (hW'.lt _ hp')];exact hfz b off hp'
end
theorem bR2 (os:Os) (args:Array Value):laidMetH prog laidL ((World.doorLaid prog 76 os).forCall (fun _ _=>0) ⟨#[],args,[]⟩).memory:=
 laidMetH_of_parts3 (fuel:=8) (laidMet_of_run' 8 (by kernel_rfl) (by kernel_rfl)) (by kernel_rfl) (by kernel_rfl)
theorem own:ownKnob prog.godebug=none:=by kernel_rfl
end
end Go.Proofs.YtlcfiilejnnlnaaGreatDoor
