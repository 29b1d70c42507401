/- A part of the proof: Te Ml R10f Tf Xb Mq Xc Xd Xe Xf. -/
import Derived.Test.YtlcfiilejnnlnaaGreatDoorK07
import Derived.OwnWalkIn
import Derived.LoopNIn
import Derived.LoopIn
set_option maxRecDepth 100000
set_option maxHeartbeats 20000000
set_option linter.all false
namespace Go.Proofs.YtlcfiilejnnlnaaGreatDoor
open Tryz
section
open Go
theorem sk51 {A B:Prop} (k:B) (h:Hd7 B->A:=by intro q7;(first|refine sb0 ?_|refine sb1 ?_|(refine' cp7x ?hc ?_;(case hc=>first|exact ad9 _ _|exact ad8 _ _ _ _|exact aq8 _ _ _ _ _ _ _ _|exact aj7 _ _ (by assumption))));exact q7.1):A:=h ⟨k⟩
theorem bn5 (x:Sch) (i:Nat) (k:Knd) (hl:x.kz.length<=1000000) (hk:x.kz[i]?=some k):APure prog 148 [schD x,iD i] (iD (ag0 x i k)):=by
 have hk:x.kz[((i:Nat):Int).toNat]?=some k:=hk;have hil:=(zE.1 hk).1;refine eP7 func148 ntmps148 fun BB=>?_;rcases hfs:k.fields with _|⟨g,r⟩
 ·have h0:k.fields.length=0:=by rw [hfs];rfl
  repeat' first|refine sk51 ?_|intro b;conv=>whnf|with_reducible refine Br.d (fun hc=>?_) (fun hc=>?_)|with_reducible refine Br.b (fun hc=>?_) (fun hc=>?_)
  all_goals (refine Rt.pure (zM iD ?_);rw [at7];unfold ag0 aU7;rw [hfs];simp [*])
 ·have hg:k.fields[(0:Int).toNat]?=some g:=by rw [hfs];rfl
  have h0:0<k.fields.length:=by rw [hfs];simp
  repeat' first|refine sk51 ?_|intro b;conv=>whnf|with_reducible refine Br.d (fun hc=>?_) (fun hc=>?_)|with_reducible refine Br.b (fun hc=>?_) (fun hc=>?_)
  all_goals (refine Rt.pure (zM iD ?_);rw [at7];unfold ag0 aU7;rw [hfs];simp [*])
theorem bn4 (y r:Rul):APure prog 199 [rulD y,.ro (rulC r)] (bD (seq y.name r.name)):=by
 refine eP7 func199 ntmps199 fun BB=>?_
 repeat' first|refine sk2 ?_|intro b;conv=>whnf
 refine Rt.pure (zM bD ?_);rfl
def ruI (x:Sch) (k:Knd) (o:Int) (r:Rul) (g:Nat × Bool × Bool):Prop:=(g.1=0/\g.2.1=false/\g.2.2=false)\/(g.1=1/\g.2.1=ah5 x k o r.a/\g.2.2=ad7 x k o r.a)\/(g.1=2/\g.2.1=(ah5 x k o r.a||ah5 x k o r.b)/\g.2.2=(ad7 x k o r.a||ad7 x k o r.b))
theorem sk52 {A B:Prop} (k:B) (h:Hd7 B->A:=by intro q7;(first|refine sb0 ?_|refine sb1 ?_|(refine' cp7x ?hc ?_;(case hc=>first|exact ad9 _ _|exact ad8 _ _ _ _|exact aq8 _ _ _ _ _ _ _ _|exact HR|exact HF|exact HAT|exact aj7 _ _ (by assumption))));exact q7.1):A:=h ⟨k⟩
def vR:=@List.map_take
theorem bu0 (x:Sch) (i:Nat) (r:Rul) (hl:x.kz.length<=1000000) (hrl:x.rules.length<=1000000) (hr:x.rules[i]?=some r) (hk:aa9 x r.kind<0):APure prog 149 [schD x,iD i] (iD (aw7 x i r)):=by
 have hr:x.rules[((i:Nat):Int).toNat]?=some r:=hr;have hil:=(zE.1 hr).1;have HR:APure prog 198 [.sl 5 ((x.rules.map rulC).take i),.clo 199 [.ro (rulC r)]] (bD (ah2 x i r)):=by
  rw [← vR];exact bJ7 (x.rules.take i) (fun s=>seq s.name r.name) (by simp;omega) (fun y _=>bn4 y r)
 have hE:aw7 x i r=ao7 [(ah2 x i r,7),(true,12),(false,13),(seq r.a r.b,1)]:=by
  have:af6 x (aa9 x r.kind)=none:=by unfold af6;rw [if_neg (by omega)]
  simp only [aw7,this]
 refine eP7 func149 ntmps149 fun BB=>?_
 repeat' first|refine sk52 ?_|intro b;conv=>whnf
 refine CE.pk (APk.peek (.cons (Pk.same _) (.cons (Pk.clo (.cons (Pk.ptr (j:=0) rfl (PkL.refl _)) .nil)) .nil)) HR rfl) ?_
 repeat' first|refine sk52 ?_|intro b;conv=>whnf
 refine ac2 mixed aa0 (γ:=Nat) (fun j=>[(37,iD j),(8,bD (decide (aa9 x r.kind<0))),(9,bD false)]) (fun _=>[(b,.cells 92 (rulC r))]) (fun j=>j<=2) (fun j=>2-j) 0 (aa2 cl2) cl3 (by omega) ?_;rintro j hj;obtain rfl|rfl|rfl:j=0\/j=1\/j=2:=by omega
 ·repeat' first|refine sk52 ?_|intro b;conv=>whnf|with_reducible refine Br.d (fun hc=>?_) (fun hc=>?_)|with_reducible refine Br.b (fun hc=>?_) (fun hc=>?_)
  all_goals exact⟨1,(aa2 cl2),cl3,by omega,by omega⟩
 ·repeat' first|refine sk52 ?_|intro b;conv=>whnf|with_reducible refine Br.d (fun hc=>?_) (fun hc=>?_)|with_reducible refine Br.b (fun hc=>?_) (fun hc=>?_)
  all_goals exact⟨2,(aa2 cl2),cl3,by omega,by omega⟩
 ·repeat' first|refine sk52 ?_|intro b;conv=>whnf|with_reducible refine Br.d (fun hc=>?_) (fun hc=>?_)|with_reducible refine Br.b (fun hc=>?_) (fun hc=>?_)
  refine Rt.pure (zM iD ?_);rw [hE,yJ hk];rfl
theorem sk53 {A B:Prop} (k:B) (h:Hd7 B->A:=by intro q7;(first|refine sb0 ?_|refine sb1 ?_|(refine' cp7x ?hc ?_;(case hc=>first|exact ad9 _ _|exact ad8 _ _ _ _|exact aq8 _ _ _ _ _ _ _ _|exact HR|exact bi5 _ _ _|exact aj7 _ _ (by assumption)|exact ah0 _ _ (by assumption))));exact q7.1):A:=h ⟨k⟩
theorem bi4 (x:Sch) (i:Nat) (r:Rul) (k:Knd) (hl:x.kz.length<=1000000) (hf:∀ k∈x.kz,k.fields.length<=1000000) (hrl:x.rules.length<=1000000) (hr:x.rules[i]?=some r) (h0:0<=aa9 x r.kind) (hk:x.kz[(aa9 x r.kind).toNat]?=some k):APure prog 149 [schD x,iD i] (iD (aw7 x i r)):=by
 have hr:x.rules[((i:Nat):Int).toNat]?=some r:=hr;have hil:=(zE.1 hr).1;have hfk:=hf k (zG hk);have HR:APure prog 198 [.sl 5 ((x.rules.map rulC).take i),.clo 199 [.ro (rulC r)]] (bD (ah2 x i r)):=by
  rw [← vR];exact bJ7 (x.rules.take i) (fun s=>seq s.name r.name) (by simp;omega) (fun y _=>bn4 y r)
 have hE:aw7 x i r=ao7 [(ah2 x i r,7),(ah5 x k (aa9 x r.kind) r.a||ah5 x k (aa9 x r.kind) r.b,12),(ad7 x k (aa9 x r.kind) r.a||ad7 x k (aa9 x r.kind) r.b,13),(seq r.a r.b,1)]:=by
  have:af6 x (aa9 x r.kind)=some k:=by unfold af6;rw [if_pos h0];exact hk
  simp only [aw7,this]
 refine eP7 func149 ntmps149 fun BB=>?_
 repeat' first|refine sk53 ?_|intro b;conv=>whnf
 refine CE.pk (APk.peek (.cons (Pk.same _) (.cons (Pk.clo (.cons (Pk.ptr (j:=0) rfl (PkL.refl _)) .nil)) .nil)) HR rfl) ?_;clear HR
 repeat' first|refine sk53 ?_|intro b;conv=>whnf
 refine ac2 mixed aa0 (γ:=Nat × Bool × Bool) (fun g=>[(37,iD g.1),(8,bD g.2.1),(9,bD g.2.2)]) (fun _=>[(b,.cells 92 (rulC r))]) (ruI x k (aa9 x r.kind) r) (fun g=>2-g.1) (0,decide (aa9 x r.kind<0),false) (aa2 cl2) cl3 (.inl ⟨rfl,by simp;omega,rfl⟩) ?_;rintro⟨j,m,w⟩ (⟨rfl,rfl,rfl⟩|⟨rfl,rfl,rfl⟩|⟨rfl,rfl,rfl⟩)
 ·repeat' first|refine sk53 ?_|intro b;conv=>whnf|with_reducible refine Br.d (fun hc=>?_) (fun hc=>?_)|with_reducible refine Br.b (fun hc=>?_) (fun hc=>?_)
  all_goals (refine⟨(1,ah5 x k (aa9 x r.kind) r.a,ad7 x k (aa9 x r.kind) r.a),aa2 (.cons rfl (.cons ?_ (.cons ?_ cl2))),cl3,.inr (.inl ⟨rfl,rfl,rfl⟩),by simp only;omega⟩<;>(refine zM (fun b=>some (bD b)) ?_;clear hE;simp only [ah5,ad7,← eqE];generalize (r.a.toList==({ data:=#[] }:ByteArray).toList)=ea at *;generalize (atR x (aa9 x r.kind) (aa4 k r.a)).1.kind=K at *;first|(simp [*];done)|(by_cases h4:K=4<;>by_cases h2:K=2<;>simp_all)))
 ·repeat' first|refine sk53 ?_|intro b;conv=>whnf|with_reducible refine Br.d (fun hc=>?_) (fun hc=>?_)|with_reducible refine Br.b (fun hc=>?_) (fun hc=>?_)
  all_goals (refine⟨(2,ah5 x k (aa9 x r.kind) r.a||ah5 x k (aa9 x r.kind) r.b,ad7 x k (aa9 x r.kind) r.a||ad7 x k (aa9 x r.kind) r.b),aa2 (.cons rfl (.cons ?_ (.cons ?_ cl2))),cl3,.inr (.inr ⟨rfl,rfl,rfl⟩),by simp only;omega⟩<;>(refine zM (fun b=>some (bD b)) ?_;clear hE;generalize ah5 x k (aa9 x r.kind) r.a=na at *;generalize ad7 x k (aa9 x r.kind) r.a=nb at *;simp only [ah5,ad7,← eqE];generalize (r.b.toList==({ data:=#[] }:ByteArray).toList)=eb at *;generalize (atR x (aa9 x r.kind) (aa4 k r.b)).1.kind=K at *;first|(simp [*];done)|(by_cases h4:K=4<;>by_cases h2:K=2<;>simp_all)))
 ·repeat' first|refine sk53 ?_|intro b;conv=>whnf|with_reducible refine Br.d (fun hc=>?_) (fun hc=>?_)|with_reducible refine Br.b (fun hc=>?_) (fun hc=>?_)
  refine Rt.pure (zM iD ?_);rw [hE];rfl
theorem bn3 (x:Sch) (i:Nat) (r:Rul) (hl:x.kz.length<=1000000) (hf:∀ k∈x.kz,k.fields.length<=1000000) (hrl:x.rules.length<=1000000) (hr:x.rules[i]?=some r):APure prog 149 [schD x,iD i] (iD (aw7 x i r)):=by
 by_cases h0:aa9 x r.kind<0
 ·exact bu0 x i r hl hrl hr h0
 ·have hlt:aa9 x r.kind<x.kz.length:=ay3 _ _;exact bi4 x i r _ hl hf hrl hr (by omega) (zD (by omega))
end
section
open Go Go.Maps Go.MapKept
theorem af3 {ρ:Operand->D} {σ:aa1} {o:Oper} (ho:o.op = .load 246 (.global 0)) (hρ:ρ (.global 0) = .v (.pointer (some ⟨0,0,none⟩))) :
  Yd prog o ρ σ (.gl 0):=by
 intro w X η hη hst;obtain⟨dst,op,ty,pos,aft,g⟩:=o;simp only at ho;subst ho;have hp:=(hη (.global 0) (by simp [Op.operands])).val hρ;obtain⟨r,h1,h2,h3⟩:=hst.gok.checks;obtain⟨g1,g2⟩:=aT1 (aa0 246 _ rfl) w;refine ag4 (s:=Instr.loadAt 246 (η (.global 0))) (u:=.map (some r)) ?_ (Ex.refl w) (.gl _ _ (hst.gok.no _ (by decide)) (yI (by decide) hst.gok.sz) h1);rw [hp];exact au1 g1 h1
def chkB (n:Int):Bool:=(aggF chkM (.int .i64 n)).isSome
def chkD (n:Int):D:=.agg [.v (((chkM (.int .i64 n))).getD .nilFunc)]
theorem bY9 {ρ:Operand->D} {σ:aa1} {o:Oper} {x i:Operand} {n:Int} (ho:o.op = .lookup 246 x i true) (hx:ρ x = .gl 0) (hi:ρ i = .v (.int .i64 n)) (hn:0<=n/\n<=8) :
  Yd prog o ρ σ (.tup [chkD n,.v (.bool (chkB n))]):=by
 intro w X η hη hst;obtain⟨dst,op,ty,pos,aft,g⟩:=o;simp only at ho;subst ho;have h0:=hη x (by simp [Op.operands]);rw [hx] at h0;have hv:=(hη i (by simp [Op.operands])).val hi;obtain⟨r,h1,h2,h3⟩:=hst.gok.checks;have hxv:η x = .map (some r):=by
  generalize hq:D.gl 0=q at h0;generalize η x=u at h0
  cases h0<;>cases hq
  rename_i q' _ _ hc;rw [h1] at hc;cases hc;rfl
 have hwf:(Lit.int .i64 n).wf=true:=by
  have:n=0\/n=1\/n=2\/n=3\/n=4\/n=5\/n=6\/n=7\/n=8:=by omega
  rcases this with rfl|rfl|rfl|rfl|rfl|rfl|rfl|rfl|rfl<;>rfl
 have hz:(zeroValue 244).run prog w = .ok (.agg #[.nilFunc]) w:=by
  have:(prog.info? 244).map (fun i=>i.zero)=some (some (.agg #[.nilFunc])):=by kernel_rfl
  cases hi:prog.info? 244 with
  | none=>rw [hi] at this;cases this
  | some inf=>
   rw [hi] at this;simp only [Option.map_some,xB] at this;simp [zeroValue,typeInfo,program,Sem.run,hi,this]
 have hrun:=h3.look_ok (int_keyed underlying3) underlying246 hz (keyOf_int_mk underlying3 hwf);refine ag4 (s:=Instr.lookup 246 (η x) (η i) true) (by rw [hxv,hv];exact hrun) (Ex.refl w) ?_;have e:(aggF chkM (.int .i64 n)).getD (.agg #[.nilFunc]) = .agg #[(chkM (.int .i64 n)).getD .nilFunc]:=by
  unfold aggF;cases chkM (.int .i64 n)<;>rfl
 rw [e];have h5:=RdL.cons (w:=w) (O:=Own σ X) (Rd.agg [.v ((chkM (.int .i64 n)).getD .nilFunc)] [(chkM (.int .i64 n)).getD .nilFunc] rfl (RdL.vals [(chkM (.int .i64 n)).getD .nilFunc]).at_) (RdL.cons (Rd.v (.bool (chkB n))) RdL.nil);exact Rd.tup [chkD n,.v (.bool (chkB n))] _ h5.len h5.at_
end
section
open Go
theorem ba1 {x:Sch} {i m:Nat} {l s:Lif} (hm:m<i) (hs:x.lz[m]?=some s) (h:seq s.name l.name=true):ao5 x i l=true:=by
 unfold ao5;rw [wC];exact⟨s,zG (i:=m) (by rw [yX,if_pos hm];exact hs),h⟩
theorem be6 {x:Sch} {i:Nat} {l:Lif} (h:∀ (m:Nat) y,m<i->x.lz[m]?=some y->seq y.name l.name=false):ao5 x i l=false:=by
 unfold ao5;rw [List.any_eq_false];intro s hs;obtain⟨m,hm⟩:=yO hs;rw [yX] at hm;split at hm
 ·rename_i hlt;simp [h m s hlt hm]
 ·cases hm
theorem sk54 {A B:Prop} (k:B) (h:Hd7 B->A:=by intro q7;(first|refine sb0 ?_|refine sb1 ?_|(refine' cp7x ?hc ?_;(case hc=>first|exact HV|exact bd1 _|exact ai7 _ _ (by assumption)|exact ag9 _ _ (by assumption)|exact bd0 _ _ _ _ (by assumption) (by assumption) (by assumption) (by assumption)|exact bc9 _ _ _ (by assumption) (by assumption) (by assumption) (by assumption))));exact q7.1):A:=h ⟨k⟩
theorem aO4 (x:Sch) (HV:APure prog 127 [schD x] (iD (ad4 x))):APure prog 70 [schD x] (.sl 4 ((aj9 x).map prbC)):=by
 refine eP7 func70 ntmps70 fun BB=>?_
 repeat' first|refine sk54 ?_|intro b;conv=>whnf|refine IxM.mk fun y hy=>?_
 by_cases hv:ad4 x=0
 ·have hV:=bi2 hv;have hl:x.kz.length<=1000000:=by have:=hV.nk;omega
  have hf:∀ k∈x.kz,k.fields.length<=1000000:=fun k hk=>by have:=hV.nf k hk;omega
  have hll:x.lz.length<=1000000:=by have:=hV.nl;omega
  have hrl:x.rules.length<=1000000:=by have:=hV.nr;omega
  have hP:aj9 x=upTo x.lz.length (ax4 x)++upTo x.kz.length (ae7 x)++upTo x.rules.length (az1 x):=by unfold aj9;rw [if_pos hv]
  have hnk:=hV.nk;have hnl:=hV.nl;have hnr:=hV.nr;have hnf:=hV.nf;clear HV hV
  repeat' first|refine sk54 ?_|intro b;conv=>whnf|refine IxM.mk fun y hy=>?_
  refine ac6 mixed aa0 (γ:=Nat × Value × aa1) (fun g=>[(4,.v g.2.1),(5,iD g.1)]) (fun g=>g.2.2) (fun g=>g.1<=x.lz.length/\RowIs 151 4 ((upTo g.1 (ax4 x)).map prbC) g.2.1 g.2.2) (fun g=>x.lz.length-g.1) (0,.slice none 0 0,[]) rfl rfl ⟨zW _,RowIs.nil _ _⟩ ?_;rintro⟨q,v,s⟩ ⟨hq,hrow⟩;simp only at hq hrow ⊢
  repeat' first|refine sk54 ?_|intro b;conv=>whnf|refine IxM.mk fun y hy=>?_|with_reducible refine Br.d (fun hc=>?_) (fun hc=>?_)|with_reducible refine Br.b (fun hc=>?_) (fun hc=>?_)
  ·obtain⟨l,hlq⟩:∃ l,x.lz[q]?=some l:=⟨_,zD (by omega)⟩
   have hS:=ad5 q (ax4 x);have hlen:=ad2 (aE8 x) q;rw [show ax4 x q=one (-1) q (-1) (if ao5 x q l then 7 else 0) by simp only [ax4,hlq]] at hS;refine ac6 mixed aa0 (γ:=Nat) (fun m=>[(6,iD m),(4,.v v),(5,iD q)]) (fun _=>s) (fun m=>m<=q/\∀ (n:Nat) y,n<m->x.lz[n]?=some y->seq y.name l.name=false) (fun m=>q-m) 0 rfl rfl ⟨by omega,fun n y hn=>by omega⟩ ?_;rintro m ⟨hm,hno⟩
   repeat' first|refine sk54 ?_|intro b;conv=>whnf|refine IxM.mk fun y hy=>?_|with_reducible refine Br.d (fun hc=>?_) (fun hc=>?_)|with_reducible refine Br.b (fun hc=>?_) (fun hc=>?_)
   ·have ht:=ba1 (x:=x) (i:=q) (l:=l) (m:=m) (by omega) hy ‹_›;rw [ht] at hS;refine pA6 (at0 (upTo q (ax4 x)) _ _ _ _ _ _ (by assumption) (by (try simp only [zI]);omega)) (aw9 _) (fun s'=>s') at1 ?_;rintro _ s' ⟨v',rfl,hr'⟩
    repeat' first|refine sk54 ?_|intro b;conv=>whnf|refine IxM.mk fun y hy=>?_
    exact⟨(q+1,v',s'),rfl,rfl,⟨by simp only;omega,by simp only;rw [hS];exact hr'⟩,by simp only;omega⟩
   ·exact⟨m+1,rfl,rfl,⟨by omega,fun n z hn hz=>by
     by_cases e:n=m
     ·subst e;rw [show ((n:Int)).toNat=n from rfl,hz] at hy;cases hy;assumption
     ·exact hno n z (by omega) hz⟩,by omega⟩
   ·obtain rfl:m=q:=by omega
    rw [be6 hno] at hS;simp only [wG,uC,one0,zZ] at hS;exact⟨(m+1,v,s),rfl,rfl,⟨by simp only;omega,by simp only;rw [hS];exact hrow⟩,by simp only;omega⟩
  ·obtain rfl:q=x.lz.length:=by omega
   have hlen1:=ad2 (aE8 x) x.lz.length;generalize hL:upTo x.lz.length (ax4 x)=L at *;refine ac6 mixed aa0 (γ:=Nat × Value × aa1) (fun g=>[(4,.v g.2.1),(7,iD g.1)]) (fun g=>g.2.2) (fun g=>g.1<=x.kz.length/\RowIs 151 4 ((L++upTo g.1 (ae7 x)).map prbC) g.2.1 g.2.2) (fun g=>x.kz.length-g.1) (0,v,s) rfl rfl ⟨zW _,by simpa [upTo] using hrow⟩ ?_;rintro⟨q,v,s⟩ ⟨hq,hrow⟩;simp only at hq hrow ⊢;have hlen2:=ad2 (fun i=>bf1 x i hnf) q
   repeat' first|refine sk54 ?_|intro b;conv=>whnf|refine IxM.mk fun y hy=>?_|with_reducible refine Br.d (fun hc=>?_) (fun hc=>?_)|with_reducible refine Br.b (fun hc=>?_) (fun hc=>?_)
   ·have hE:ag0 x q y=7:=by unfold ag0;rw [if_pos (by assumption)]
    have hyf:=hnf y (zG hy);have hyl:y.fields.length<=1000000:=by omega
    have ho1:=at3 q (-1) (-1) (ag0 x q y);have hy:x.kz[q]?=some y:=hy;have hSK:=ad5 q (ae7 x);rw [show ae7 x q=one q (-1) (-1) (ag0 x q y)++upTo y.fields.length (ad1 x q y) by simp only [ae7,hy]] at hSK;refine pA6 (at0 (L++upTo q (ae7 x)) _ _ _ _ _ _ (by assumption) (by (try simp only [zI]);omega)) (aw9 _) (fun s'=>s') at1 ?_;rintro _ s' ⟨v',rfl,hr'⟩
    repeat' first|refine sk54 ?_|intro b;conv=>whnf|refine IxM.mk fun y hy=>?_
    have hrow1:RowIs 151 4 ((L++upTo q (ae7 x)++one q (-1) (-1) (ag0 x q y)).map prbC) v' s':=by rw [hE];exact hr'
    refine ac6 mixed aa0 (γ:=Nat × Value × aa1) (fun g=>[(4,.v g.2.1),(9,iD g.1)]) (fun g=>g.2.2) (fun g=>g.1<=y.fields.length/\RowIs 151 4 ((L++upTo q (ae7 x)++one q (-1) (-1) (ag0 x q y)++upTo g.1 (ad1 x q y)).map prbC) g.2.1 g.2.2) (fun g=>y.fields.length-g.1) (0,v',s') rfl rfl ⟨zW _,by simpa [upTo] using hrow1⟩ ?_;rintro⟨j,v,s⟩ ⟨hj,hrow2⟩;simp only at hj hrow2 ⊢;have hlen3:=ad2 (aw4 x q y) j;have hS:=ad5 j (ad1 x q y);by_cases hjl:j<y.fields.length
    ·obtain⟨f,hf0⟩:∃ f,y.fields[j]?=some f:=⟨_,zD hjl⟩
     have hfa:fieldAt x q j=some f:=by rw [af8 (by omega) (by omega) hy];exact hf0
     rw [show ad1 x q y j=one q j (-1) (al8 x q y j f) by simp only [ad1,hf0]] at hS
     repeat' first|refine sk54 ?_|intro b;conv=>whnf|refine IxM.mk fun y hy=>?_|with_reducible refine Br.d (fun hc=>?_) (fun hc=>?_)|with_reducible refine Br.b (fun hc=>?_) (fun hc=>?_)
     ·rw [show al8 x q y j f=7 by unfold al8;rw [if_pos (by assumption)]] at hS;refine pA6 (at0 (L++upTo q (ae7 x)++one q (-1) (-1) (ag0 x q y)++upTo j (ad1 x q y)) _ _ _ _ _ _ (by assumption) (by (try simp only [zI]);omega)) (aw9 _) (fun s'=>s') at1 ?_;rintro _ s' ⟨v',rfl,hr'⟩
      repeat' first|refine sk54 ?_|intro b;conv=>whnf|refine IxM.mk fun y hy=>?_
      exact⟨(j+1,v',s'),rfl,rfl,⟨by simp only;omega,by simp only;rw [hS,← zV];exact hr'⟩,by simp only;omega⟩
     ·rw [show al8 x q y j f=ac9 x q j f by unfold al8;rw [if_neg (by assumption)]] at hS;refine pA6 (at0 (L++upTo q (ae7 x)++one q (-1) (-1) (ag0 x q y)++upTo j (ad1 x q y)) _ _ _ _ _ _ (by assumption) (by (try simp only [zI]);omega)) (aw9 _) (fun s'=>s') at1 ?_;rintro _ s' ⟨v',rfl,hr'⟩
      repeat' first|refine sk54 ?_|intro b;conv=>whnf|refine IxM.mk fun y hy=>?_
      exact⟨(j+1,v',s'),rfl,rfl,⟨by simp only;omega,by simp only;rw [hS,← zV];exact hr'⟩,by simp only;omega⟩
    ·obtain rfl:j=y.fields.length:=by omega
     repeat' first|refine sk54 ?_|intro b;conv=>whnf|refine IxM.mk fun y hy=>?_|with_reducible refine Br.d (fun hc=>?_) (fun hc=>?_)|with_reducible refine Br.b (fun hc=>?_) (fun hc=>?_)
     exact⟨(q+1,v,s),rfl,rfl,⟨by simp only;omega,by simp only;rw [hSK];simp only [zV] at hrow2 ⊢;exact hrow2⟩,by simp only;omega⟩
   ·have hE:ag0 x q y=0:=by unfold ag0;rw [if_neg (by assumption),if_pos (by assumption)]
    have hyf:=hnf y (zG hy);have hyl:y.fields.length<=1000000:=by omega
    have ho1:=at3 q (-1) (-1) (ag0 x q y);have hy:x.kz[q]?=some y:=hy;have hSK:=ad5 q (ae7 x);rw [show ae7 x q=one q (-1) (-1) (ag0 x q y)++upTo y.fields.length (ad1 x q y) by simp only [ae7,hy]] at hSK;have hrow1:RowIs 151 4 ((L++upTo q (ae7 x)++one q (-1) (-1) (ag0 x q y)).map prbC) v s:=by rw [hE,one0,zZ];exact hrow
    refine ac6 mixed aa0 (γ:=Nat × Value × aa1) (fun g=>[(4,.v g.2.1),(9,iD g.1)]) (fun g=>g.2.2) (fun g=>g.1<=y.fields.length/\RowIs 151 4 ((L++upTo q (ae7 x)++one q (-1) (-1) (ag0 x q y)++upTo g.1 (ad1 x q y)).map prbC) g.2.1 g.2.2) (fun g=>y.fields.length-g.1) (0,v,s) rfl rfl ⟨zW _,by simpa [upTo] using hrow1⟩ ?_;rintro⟨j,v,s⟩ ⟨hj,hrow2⟩;simp only at hj hrow2 ⊢;have hlen3:=ad2 (aw4 x q y) j;have hS:=ad5 j (ad1 x q y);by_cases hjl:j<y.fields.length
    ·obtain⟨f,hf0⟩:∃ f,y.fields[j]?=some f:=⟨_,zD hjl⟩
     have hfa:fieldAt x q j=some f:=by rw [af8 (by omega) (by omega) hy];exact hf0
     rw [show ad1 x q y j=one q j (-1) (al8 x q y j f) by simp only [ad1,hf0]] at hS
     repeat' first|refine sk54 ?_|intro b;conv=>whnf|refine IxM.mk fun y hy=>?_|with_reducible refine Br.d (fun hc=>?_) (fun hc=>?_)|with_reducible refine Br.b (fun hc=>?_) (fun hc=>?_)
     ·rw [show al8 x q y j f=7 by unfold al8;rw [if_pos (by assumption)]] at hS;refine pA6 (at0 (L++upTo q (ae7 x)++one q (-1) (-1) (ag0 x q y)++upTo j (ad1 x q y)) _ _ _ _ _ _ (by assumption) (by (try simp only [zI]);omega)) (aw9 _) (fun s'=>s') at1 ?_;rintro _ s' ⟨v',rfl,hr'⟩
      repeat' first|refine sk54 ?_|intro b;conv=>whnf|refine IxM.mk fun y hy=>?_
      exact⟨(j+1,v',s'),rfl,rfl,⟨by simp only;omega,by simp only;rw [hS,← zV];exact hr'⟩,by simp only;omega⟩
     ·rw [show al8 x q y j f=ac9 x q j f by unfold al8;rw [if_neg (by assumption)]] at hS;refine pA6 (at0 (L++upTo q (ae7 x)++one q (-1) (-1) (ag0 x q y)++upTo j (ad1 x q y)) _ _ _ _ _ _ (by assumption) (by (try simp only [zI]);omega)) (aw9 _) (fun s'=>s') at1 ?_;rintro _ s' ⟨v',rfl,hr'⟩
      repeat' first|refine sk54 ?_|intro b;conv=>whnf|refine IxM.mk fun y hy=>?_
      exact⟨(j+1,v',s'),rfl,rfl,⟨by simp only;omega,by simp only;rw [hS,← zV];exact hr'⟩,by simp only;omega⟩
    ·obtain rfl:j=y.fields.length:=by omega
     repeat' first|refine sk54 ?_|intro b;conv=>whnf|refine IxM.mk fun y hy=>?_|with_reducible refine Br.d (fun hc=>?_) (fun hc=>?_)|with_reducible refine Br.b (fun hc=>?_) (fun hc=>?_)
     exact⟨(q+1,v,s),rfl,rfl,⟨by simp only;omega,by simp only;rw [hSK];simp only [zV] at hrow2 ⊢;exact hrow2⟩,by simp only;omega⟩
   ·have hE:ag0 x q y=11:=by unfold ag0;rw [if_neg (by assumption),if_neg (by simp [*])]
    have hyf:=hnf y (zG hy);have hyl:y.fields.length<=1000000:=by omega
    have ho1:=at3 q (-1) (-1) (ag0 x q y);have hy:x.kz[q]?=some y:=hy;have hSK:=ad5 q (ae7 x);rw [show ae7 x q=one q (-1) (-1) (ag0 x q y)++upTo y.fields.length (ad1 x q y) by simp only [ae7,hy]] at hSK;refine pA6 (at0 (L++upTo q (ae7 x)) _ _ _ _ _ _ (by assumption) (by (try simp only [zI]);omega)) (aw9 _) (fun s'=>s') at1 ?_;rintro _ s' ⟨v',rfl,hr'⟩
    repeat' first|refine sk54 ?_|intro b;conv=>whnf|refine IxM.mk fun y hy=>?_
    have hrow1:RowIs 151 4 ((L++upTo q (ae7 x)++one q (-1) (-1) (ag0 x q y)).map prbC) v' s':=by rw [hE];exact hr'
    refine ac6 mixed aa0 (γ:=Nat × Value × aa1) (fun g=>[(4,.v g.2.1),(9,iD g.1)]) (fun g=>g.2.2) (fun g=>g.1<=y.fields.length/\RowIs 151 4 ((L++upTo q (ae7 x)++one q (-1) (-1) (ag0 x q y)++upTo g.1 (ad1 x q y)).map prbC) g.2.1 g.2.2) (fun g=>y.fields.length-g.1) (0,v',s') rfl rfl ⟨zW _,by simpa [upTo] using hrow1⟩ ?_;rintro⟨j,v,s⟩ ⟨hj,hrow2⟩;simp only at hj hrow2 ⊢;have hlen3:=ad2 (aw4 x q y) j;have hS:=ad5 j (ad1 x q y);by_cases hjl:j<y.fields.length
    ·obtain⟨f,hf0⟩:∃ f,y.fields[j]?=some f:=⟨_,zD hjl⟩
     have hfa:fieldAt x q j=some f:=by rw [af8 (by omega) (by omega) hy];exact hf0
     rw [show ad1 x q y j=one q j (-1) (al8 x q y j f) by simp only [ad1,hf0]] at hS
     repeat' first|refine sk54 ?_|intro b;conv=>whnf|refine IxM.mk fun y hy=>?_|with_reducible refine Br.d (fun hc=>?_) (fun hc=>?_)|with_reducible refine Br.b (fun hc=>?_) (fun hc=>?_)
     ·rw [show al8 x q y j f=7 by unfold al8;rw [if_pos (by assumption)]] at hS;refine pA6 (at0 (L++upTo q (ae7 x)++one q (-1) (-1) (ag0 x q y)++upTo j (ad1 x q y)) _ _ _ _ _ _ (by assumption) (by (try simp only [zI]);omega)) (aw9 _) (fun s'=>s') at1 ?_;rintro _ s' ⟨v',rfl,hr'⟩
      repeat' first|refine sk54 ?_|intro b;conv=>whnf|refine IxM.mk fun y hy=>?_
      exact⟨(j+1,v',s'),rfl,rfl,⟨by simp only;omega,by simp only;rw [hS,← zV];exact hr'⟩,by simp only;omega⟩
     ·rw [show al8 x q y j f=ac9 x q j f by unfold al8;rw [if_neg (by assumption)]] at hS;refine pA6 (at0 (L++upTo q (ae7 x)++one q (-1) (-1) (ag0 x q y)++upTo j (ad1 x q y)) _ _ _ _ _ _ (by assumption) (by (try simp only [zI]);omega)) (aw9 _) (fun s'=>s') at1 ?_;rintro _ s' ⟨v',rfl,hr'⟩
      repeat' first|refine sk54 ?_|intro b;conv=>whnf|refine IxM.mk fun y hy=>?_
      exact⟨(j+1,v',s'),rfl,rfl,⟨by simp only;omega,by simp only;rw [hS,← zV];exact hr'⟩,by simp only;omega⟩
    ·obtain rfl:j=y.fields.length:=by omega
     repeat' first|refine sk54 ?_|intro b;conv=>whnf|refine IxM.mk fun y hy=>?_|with_reducible refine Br.d (fun hc=>?_) (fun hc=>?_)|with_reducible refine Br.b (fun hc=>?_) (fun hc=>?_)
     exact⟨(q+1,v,s),rfl,rfl,⟨by simp only;omega,by simp only;rw [hSK];simp only [zV] at hrow2 ⊢;exact hrow2⟩,by simp only;omega⟩
   ·obtain rfl:q=x.kz.length:=by omega
    generalize hM:upTo x.kz.length (ae7 x)=M at *;refine ac6 mixed aa0 (γ:=Nat × Value × aa1) (fun g=>[(4,.v g.2.1),(10,iD g.1)]) (fun g=>g.2.2) (fun g=>g.1<=x.rules.length/\RowIs 151 4 ((L++M++upTo g.1 (az1 x)).map prbC) g.2.1 g.2.2) (fun g=>x.rules.length-g.1) (0,v,s) rfl rfl ⟨zW _,by simpa [upTo] using hrow⟩ ?_;rintro⟨q,v,s⟩ ⟨hq,hrow2⟩;simp only at hq hrow2 ⊢;have hlen3:=ad2 (bc4 x) q;have hS:=ad5 q (az1 x);by_cases hql:q<x.rules.length
    ·obtain⟨r,hr0⟩:∃ r,x.rules[q]?=some r:=⟨_,zD hql⟩
     rw [show az1 x q=one (-1) (-1) q (aw7 x q r) by simp only [az1,hr0]] at hS
     repeat' first|refine sk54 ?_|intro b;conv=>whnf|refine IxM.mk fun y hy=>?_|with_reducible refine Br.d (fun hc=>?_) (fun hc=>?_)|with_reducible refine Br.b (fun hc=>?_) (fun hc=>?_)
     refine pA6 (at0 (L++M++upTo q (az1 x)) _ _ _ _ _ _ (by assumption) (by (try simp only [zI]);omega)) (aw9 _) (fun s'=>s') at1 ?_;rintro _ s' ⟨v',rfl,hr'⟩
     repeat' first|refine sk54 ?_|intro b;conv=>whnf|refine IxM.mk fun y hy=>?_
     exact⟨(q+1,v',s'),rfl,rfl,⟨by simp only;omega,by simp only;rw [hS,← zV];exact hr'⟩,by simp only;omega⟩
    ·obtain rfl:q=x.rules.length:=by omega
     rw [hP]
     repeat' first|refine sk54 ?_|intro b;conv=>whnf|refine IxM.mk fun y hy=>?_|with_reducible refine Br.d (fun hc=>?_) (fun hc=>?_)|with_reducible refine Br.b (fun hc=>?_) (fun hc=>?_)
     exact Rt.vs (Vs.row hrow2 (aw9 _))
 ·have hP:aj9 x=[(-1,-1,-1,ad4 x)]:=by unfold aj9;rw [if_neg hv]
  rw [hP]
  repeat' first|refine sk54 ?_|intro b;conv=>whnf|refine IxM.mk fun y hy=>?_|with_reducible refine Br.d (fun hc=>?_) (fun hc=>?_)|with_reducible refine Br.b (fun hc=>?_) (fun hc=>?_)
  refine pA6 (at0 [] _ _ _ _ _ _ (RowIs.nil _ _) (by simp)) (aw9 _) (fun s'=>s') at1 ?_;rintro _ s' ⟨v',rfl,hr'⟩
  repeat' first|refine sk54 ?_|intro b;conv=>whnf|refine IxM.mk fun y hy=>?_
  refine Rt.vs (Vs.row (e:=151) (s:=s') (k:=4) (τ:=[]) ?_ (aw9 _))
  simpa [one,hv] using hr'
end
section
open Go
theorem am7 (b:Nat) (l:List Prb) (v:Value) (s:aa1) (k f r e:Int) (hr:RowIs 191 4 (l.map prbC) v s) (hl:l.length<=1000000) :
  ACall prog 144 [iD k,iD f,iD r,iD e,.v (.pointer (some ⟨b,0,none⟩))] ((b,.cells 189 [.v v])::s)
   (fun d σ'=>∃ v' s',d = .v (.tuple #[])/\σ'=(b,.cells 189 [.v v'])::s'/\RowIs 191 4 ((l++one k f r e).map prbC) v' s'):=by
 obtain⟨a,c,rfl⟩:=hr.slice;refine eC7 func144 ntmps144 fun BB=>?_
 repeat' first|refine sk2 ?_|intro b;conv=>whnf|with_reducible refine Br.d (fun hc=>?_) (fun hc=>?_)|with_reducible refine Br.b (fun hc=>?_) (fun hc=>?_)
 ·refine Rt.same ⟨_,s,rfl,rfl,?_⟩;unfold one;rw [if_pos (by omega)];simpa using hr
 ·refine Ap.go rfl rfl rfl rfl hr (bj7 _ _) rfl (zs:=(l++one k f r e).map prbC) (by unfold one;rw [if_neg (by omega)];simp [prbC]) (by simp [one];split<;>simp<;>omega) (by simp [one];split<;>simp<;>omega) (fun s'=>_::s') (aU3 _) (fun a' c' s' hr'=>?_)
  repeat' first|refine sk2 ?_|intro b;conv=>whnf
  exact Rt.same ⟨_,s',rfl,rfl,hr'⟩
theorem bu1 (y l:Lif):APure prog 146 [lifD y,.ro (lifC l)] (bD (seq y.name l.name)):=by
 refine eP7 func146 ntmps146 fun BB=>?_
 repeat' first|refine sk2 ?_|intro b;conv=>whnf
 refine Rt.pure (zM bD ?_);rfl
theorem ah4 {ρ:Operand->D} {σ:aa1} {o:Oper} {x i:Operand} {m n:Int} (ho:o.op = .lookup 246 x i true) (hx:ρ x = .gl 0) (hi:ρ i = .v (.int .i64 m)) (hm:m=n) (hn:0<=n/\n<=8) :
  Yd prog o ρ σ (.tup [chkD n,.v (.bool (chkB n))]):=by subst hm;exact bY9 ho hx hi hn
theorem cr2 {x:Sch} (hV:Vld x) {k:Knd} {f:Fld} (hk:k∈x.kz) (hf:f∈k.fields):0<=f.kind/\f.kind<=8:=by
 have h1:=hV.kz k hk;simp only [ag5,zJ,yA] at h1;have h2:=h1.2 f hf;simp only [ab2,zJ] at h2;have h3:=h2.2;unfold am4 at h3
 repeat (split at h3;omega)
 cases h3
theorem aw8 (x y z:Nat × Blk) (s:aa1):(x::y::z::s).Perm (s++[x,y,z]):=yT (l₁:=[x,y,z]) (l₂:=s)
theorem ap7 (x y z:Nat × Blk) (s:aa1):(s++[x,y,z]).Perm (x::y::z::s):=(aw8 x y z s).symm
theorem sk55 {A B:Prop} (k:B) (h:Hd7 B->A:=by intro q7;(first|refine sb0 ?_|refine sb1 ?_|(refine' cp7x ?hc ?_;(case hc=>first|exact ad9 _ _|exact ad8 _ _ _ _|exact aq8 _ _ _ _ _ _ _ _|exact HV|exact bn5 _ _ _ (by assumption) (by assumption)|exact ah0 _ _ (by assumption)|exact HC|exact bn3 _ _ _ (by assumption) (by assumption) (by assumption) (by assumption))));exact q7.1):A:=h ⟨k⟩
theorem aW7 (x:Sch) (HV:APure prog 143 [schD x] (iD (ad4 x))):APure prog 97 [schD x] (.sl 4 ((aj9 x).map prbC)):=by
 refine eP7 func97 ntmps97 fun BB=>?_
 repeat' first|refine sk55 ?_|intro b;conv=>whnf|refine IxM.mk fun y hy=>?_
 by_cases hv:ad4 x=0
 ·have hV:=bi2 hv;have hl:x.kz.length<=1000000:=by have:=hV.nk;omega
  have hf:∀ k∈x.kz,k.fields.length<=1000000:=fun k hk=>by have:=hV.nf k hk;omega
  have hll:x.lz.length<=1000000:=by have:=hV.nl;omega
  have hrl:x.rules.length<=1000000:=by have:=hV.nr;omega
  have hP:aj9 x=upTo x.lz.length (ax4 x)++upTo x.kz.length (ae7 x)++upTo x.rules.length (az1 x):=by unfold aj9;rw [if_pos hv]
  have hnk:=hV.nk;have hnl:=hV.nl;have hnr:=hV.nr;have hnf:=hV.nf;clear HV
  repeat' first|refine sk55 ?_|intro b;conv=>whnf|refine IxM.mk fun y hy=>?_
  generalize b=b4;refine ac2 mixed aa0 (γ:=Nat × Value × aa1) (fun g=>[(28,iD g.1)]) (fun g=>(b4,.cells 189 [.v g.2.1])::g.2.2) (fun g=>g.1<=x.lz.length/\RowIs 191 4 ((upTo g.1 (ax4 x)).map prbC) g.2.1 g.2.2) (fun g=>x.lz.length-g.1) (0,.slice none 0 0,[]) (aa2 cl2) cl3 ⟨zW _,RowIs.nil _ _⟩ ?_;rintro⟨q,v,s⟩ ⟨hq,hrow⟩;simp only at hq hrow ⊢
  repeat' first|refine sk55 ?_|intro b;conv=>whnf|refine IxM.mk fun y hy=>?_|with_reducible refine Br.d (fun hc=>?_) (fun hc=>?_)|with_reducible refine Br.b (fun hc=>?_) (fun hc=>?_)
  ·have hy:x.lz[q]?=some y:=hy;have hS:=ad5 q (ax4 x);have hlen:=ad2 (aE8 x) q;rw [show ax4 x q=one (-1) q (-1) (if ao5 x q y then 7 else 0) by simp only [ax4,hy]] at hS;have HR:APure prog 145 [.sl 3 ((x.lz.map lifC).take q),.clo 146 [.ro (lifC y)]] (bD (ao5 x q y)):=by
    rw [← vR];exact bm1 (x.lz.take q) (fun s=>seq s.name y.name) (by simp;omega) (fun z _=>bu1 z y)
   refine CE.pk (APk.peek (.cons (Pk.same _) (.cons (Pk.clo (.cons (Pk.ptr (j:=0) rfl (PkL.refl _)) .nil)) .nil)) HR rfl) ?_;clear HR
   repeat' first|refine sk55 ?_|intro b;conv=>whnf|refine IxM.mk fun y hy=>?_
   refine pA6 (am7 _ (upTo q (ax4 x)) _ _ _ _ _ _ (by assumption) (by (try simp only [zI]);omega)) (bj7 _ _) (fun s'=>_::s') (aU3 _) ?_;rintro _ _ ⟨v',s',rfl,rfl,hr'⟩;rw [ar3,← hS] at hr'
   repeat' first|refine sk55 ?_|intro b;conv=>whnf|refine IxM.mk fun y hy=>?_
   exact⟨(q+1,v',s'),(aa2 cl2),cl3,⟨by simp only;omega,hr'⟩,by simp only;omega⟩
  ·obtain rfl:q=x.lz.length:=by omega
   have hlen1:=ad2 (aE8 x) x.lz.length;generalize hL:upTo x.lz.length (ax4 x)=L at *;refine ac2 mixed aa0 (γ:=Nat × Value × aa1) (fun g=>[(50,iD g.1)]) (fun g=>(b4,.cells 189 [.v g.2.1])::g.2.2) (fun g=>g.1<=x.kz.length/\RowIs 191 4 ((L++upTo g.1 (ae7 x)).map prbC) g.2.1 g.2.2) (fun g=>x.kz.length-g.1) (0,v,s) (aa2 cl2) cl3 ⟨zW _,by simpa [upTo] using hrow⟩ ?_;rintro⟨q,v,s⟩ ⟨hq,hrow⟩;simp only at hq hrow ⊢;have hlen2:=ad2 (fun i=>bf1 x i hnf) q
   repeat' first|refine sk55 ?_|intro b;conv=>whnf|refine IxM.mk fun y hy=>?_|with_reducible refine Br.d (fun hc=>?_) (fun hc=>?_)|with_reducible refine Br.b (fun hc=>?_) (fun hc=>?_)
   ·have hy:x.kz[q]?=some y:=hy;have hyf:=hnf y (zG hy);have hyl:y.fields.length<=1000000:=by omega
    have ho1:=at3 q (-1) (-1) (ag0 x q y);have hSK:=ad5 q (ae7 x);rw [show ae7 x q=one q (-1) (-1) (ag0 x q y)++upTo y.fields.length (ad1 x q y) by simp only [ae7,hy]] at hSK;refine pA6 (am7 _ (L++upTo q (ae7 x)) _ _ _ _ _ _ (by assumption) (by (try simp only [zI]);omega)) (bj7 _ _) (fun s'=>_::s') (aU3 _) ?_;rintro _ _ ⟨v',s',rfl,rfl,hr'⟩
    repeat' first|refine sk55 ?_|intro b;conv=>whnf|refine IxM.mk fun y hy=>?_
    refine ac2 mixed aa0 (γ:=Nat × Value × aa1) (fun g=>[(64,iD g.1)]) (fun g=>(b,.cells 85 (kndC y))::(b4,.cells 189 [.v g.2.1])::g.2.2) (fun g=>g.1<=y.fields.length/\RowIs 191 4 ((L++upTo q (ae7 x)++one q (-1) (-1) (ag0 x q y)++upTo g.1 (ad1 x q y)).map prbC) g.2.1 g.2.2) (fun g=>y.fields.length-g.1) (0,v',s') (aa2 cl2) cl3 ⟨zW _,by simpa [upTo] using hr'⟩ ?_;generalize b=b10;rintro⟨j,v,s⟩ ⟨hj,hrow2⟩;simp only at hj hrow2 ⊢;have hlen3:=ad2 (aw4 x q y) j;have hSF:=ad5 j (ad1 x q y);by_cases hjl:j<y.fields.length
    ·obtain⟨f,hf0⟩:∃ f,y.fields[j]?=some f:=⟨_,zD hjl⟩
     have hfa:fieldAt x q j=some f:=by rw [af8 (by omega) (by omega) hy];exact hf0
     rw [show ad1 x q y j=one q j (-1) (al8 x q y j f) by simp only [ad1,hf0]] at hSF;have hk8:=cr2 hV (zG hy) (zG hf0);have hg8:∀ k∈x.kz,∀ g∈k.fields,0<=g.kind/\g.kind<=8:=fun k hk g hg=>cr2 hV hk hg;have hyf0:y.fields[((j:Nat):Int).toNat]?=some f:=hf0;have hk9:f.kind=0\/f.kind=1\/f.kind=2\/f.kind=3\/f.kind=4\/f.kind=5\/f.kind=6\/f.kind=7\/f.kind=8:=by omega
     by_cases hfx:aa4 y f.name<(j:Int)
     ·have he:ao7 [(decide (aa4 y f.name<(j:Int)),7)]=7:=by rw [ar3,if_pos (yJ hfx)]
      have hFE:al8 x q y j f=7:=by unfold al8;rw [if_pos hfx]
      rw [hFE] at hSF;rcases hk9 with hk9|hk9|hk9|hk9|hk9|hk9|hk9|hk9|hk9
      ·have hcb:chkB 0=true:=by rfl
       repeat' first|refine sk55 ?_|intro b;conv=>whnf|refine IxM.mk fun y hy=>?_
       refine Ld.yd (af3 rfl rfl) ?_
       repeat' first|refine sk55 ?_|intro b;conv=>whnf|refine IxM.mk fun y hy=>?_
       refine OtE.yd rfl (ah4 (n:=0) rfl rfl rfl hk9 (by omega)) ?_
       repeat' first|refine sk55 ?_|intro b;conv=>whnf|refine IxM.mk fun y hy=>?_
       refine pA6 (am7 _ (L++upTo q (ae7 x)++one q (-1) (-1) (ag0 x q y)++upTo j (ad1 x q y)) _ _ _ _ _ _ (by assumption) (by (try simp only [zI]);omega)) (aw8 _ _ _ _) (fun s'=>_::_::_::s') (ap7 _ _ _) ?_;rintro _ _ ⟨v',s',rfl,rfl,hr'⟩
       repeat' first|refine sk55 ?_|intro b;conv=>whnf|refine IxM.mk fun y hy=>?_
       exact⟨(j+1,v',s'),(aa2 cl2),cl3,⟨by simp only;omega,by simp only;rw [hSF,← zV];first|exact hr' | (rw [he] at hr';exact hr')|(rw [hFL];exact hr')⟩,by simp only;omega⟩
      ·have hcb:chkB 1=true:=by rfl
       repeat' first|refine sk55 ?_|intro b;conv=>whnf|refine IxM.mk fun y hy=>?_
       refine Ld.yd (af3 rfl rfl) ?_
       repeat' first|refine sk55 ?_|intro b;conv=>whnf|refine IxM.mk fun y hy=>?_
       refine OtE.yd rfl (ah4 (n:=1) rfl rfl rfl hk9 (by omega)) ?_
       repeat' first|refine sk55 ?_|intro b;conv=>whnf|refine IxM.mk fun y hy=>?_
       refine pA6 (am7 _ (L++upTo q (ae7 x)++one q (-1) (-1) (ag0 x q y)++upTo j (ad1 x q y)) _ _ _ _ _ _ (by assumption) (by (try simp only [zI]);omega)) (aw8 _ _ _ _) (fun s'=>_::_::_::s') (ap7 _ _ _) ?_;rintro _ _ ⟨v',s',rfl,rfl,hr'⟩
       repeat' first|refine sk55 ?_|intro b;conv=>whnf|refine IxM.mk fun y hy=>?_
       exact⟨(j+1,v',s'),(aa2 cl2),cl3,⟨by simp only;omega,by simp only;rw [hSF,← zV];first|exact hr' | (rw [he] at hr';exact hr')|(rw [hFL];exact hr')⟩,by simp only;omega⟩
      ·have hcb:chkB 2=false:=by rfl
       repeat' first|refine sk55 ?_|intro b;conv=>whnf|refine IxM.mk fun y hy=>?_
       refine Ld.yd (af3 rfl rfl) ?_
       repeat' first|refine sk55 ?_|intro b;conv=>whnf|refine IxM.mk fun y hy=>?_
       refine OtE.yd rfl (ah4 (n:=2) rfl rfl rfl hk9 (by omega)) ?_
       repeat' first|refine sk55 ?_|intro b;conv=>whnf|refine IxM.mk fun y hy=>?_
       refine pA6 (am7 _ (L++upTo q (ae7 x)++one q (-1) (-1) (ag0 x q y)++upTo j (ad1 x q y)) _ _ _ _ _ _ (by assumption) (by (try simp only [zI]);omega)) (aw8 _ _ _ _) (fun s'=>_::_::_::s') (ap7 _ _ _) ?_;rintro _ _ ⟨v',s',rfl,rfl,hr'⟩
       repeat' first|refine sk55 ?_|intro b;conv=>whnf|refine IxM.mk fun y hy=>?_
       exact⟨(j+1,v',s'),(aa2 cl2),cl3,⟨by simp only;omega,by simp only;rw [hSF,← zV];first|exact hr' | (rw [he] at hr';exact hr')|(rw [hFL];exact hr')⟩,by simp only;omega⟩
      ·have hcb:chkB 3=false:=by rfl
       repeat' first|refine sk55 ?_|intro b;conv=>whnf|refine IxM.mk fun y hy=>?_
       refine Ld.yd (af3 rfl rfl) ?_
       repeat' first|refine sk55 ?_|intro b;conv=>whnf|refine IxM.mk fun y hy=>?_
       refine OtE.yd rfl (ah4 (n:=3) rfl rfl rfl hk9 (by omega)) ?_
       repeat' first|refine sk55 ?_|intro b;conv=>whnf|refine IxM.mk fun y hy=>?_
       refine pA6 (am7 _ (L++upTo q (ae7 x)++one q (-1) (-1) (ag0 x q y)++upTo j (ad1 x q y)) _ _ _ _ _ _ (by assumption) (by (try simp only [zI]);omega)) (aw8 _ _ _ _) (fun s'=>_::_::_::s') (ap7 _ _ _) ?_;rintro _ _ ⟨v',s',rfl,rfl,hr'⟩
       repeat' first|refine sk55 ?_|intro b;conv=>whnf|refine IxM.mk fun y hy=>?_
       exact⟨(j+1,v',s'),(aa2 cl2),cl3,⟨by simp only;omega,by simp only;rw [hSF,← zV];first|exact hr' | (rw [he] at hr';exact hr')|(rw [hFL];exact hr')⟩,by simp only;omega⟩
      ·have hcb:chkB 4=true:=by rfl
       repeat' first|refine sk55 ?_|intro b;conv=>whnf|refine IxM.mk fun y hy=>?_
       refine Ld.yd (af3 rfl rfl) ?_
       repeat' first|refine sk55 ?_|intro b;conv=>whnf|refine IxM.mk fun y hy=>?_
       refine OtE.yd rfl (ah4 (n:=4) rfl rfl rfl hk9 (by omega)) ?_
       repeat' first|refine sk55 ?_|intro b;conv=>whnf|refine IxM.mk fun y hy=>?_
       refine pA6 (am7 _ (L++upTo q (ae7 x)++one q (-1) (-1) (ag0 x q y)++upTo j (ad1 x q y)) _ _ _ _ _ _ (by assumption) (by (try simp only [zI]);omega)) (aw8 _ _ _ _) (fun s'=>_::_::_::s') (ap7 _ _ _) ?_;rintro _ _ ⟨v',s',rfl,rfl,hr'⟩
       repeat' first|refine sk55 ?_|intro b;conv=>whnf|refine IxM.mk fun y hy=>?_
       exact⟨(j+1,v',s'),(aa2 cl2),cl3,⟨by simp only;omega,by simp only;rw [hSF,← zV];first|exact hr' | (rw [he] at hr';exact hr')|(rw [hFL];exact hr')⟩,by simp only;omega⟩
      ·have hcb:chkB 5=true:=by rfl
       repeat' first|refine sk55 ?_|intro b;conv=>whnf|refine IxM.mk fun y hy=>?_
       refine Ld.yd (af3 rfl rfl) ?_
       repeat' first|refine sk55 ?_|intro b;conv=>whnf|refine IxM.mk fun y hy=>?_
       refine OtE.yd rfl (ah4 (n:=5) rfl rfl rfl hk9 (by omega)) ?_
       repeat' first|refine sk55 ?_|intro b;conv=>whnf|refine IxM.mk fun y hy=>?_
       refine pA6 (am7 _ (L++upTo q (ae7 x)++one q (-1) (-1) (ag0 x q y)++upTo j (ad1 x q y)) _ _ _ _ _ _ (by assumption) (by (try simp only [zI]);omega)) (aw8 _ _ _ _) (fun s'=>_::_::_::s') (ap7 _ _ _) ?_;rintro _ _ ⟨v',s',rfl,rfl,hr'⟩
       repeat' first|refine sk55 ?_|intro b;conv=>whnf|refine IxM.mk fun y hy=>?_
       exact⟨(j+1,v',s'),(aa2 cl2),cl3,⟨by simp only;omega,by simp only;rw [hSF,← zV];first|exact hr' | (rw [he] at hr';exact hr')|(rw [hFL];exact hr')⟩,by simp only;omega⟩
      ·have hcb:chkB 6=true:=by rfl
       repeat' first|refine sk55 ?_|intro b;conv=>whnf|refine IxM.mk fun y hy=>?_
       refine Ld.yd (af3 rfl rfl) ?_
       repeat' first|refine sk55 ?_|intro b;conv=>whnf|refine IxM.mk fun y hy=>?_
       refine OtE.yd rfl (ah4 (n:=6) rfl rfl rfl hk9 (by omega)) ?_
       repeat' first|refine sk55 ?_|intro b;conv=>whnf|refine IxM.mk fun y hy=>?_
       refine pA6 (am7 _ (L++upTo q (ae7 x)++one q (-1) (-1) (ag0 x q y)++upTo j (ad1 x q y)) _ _ _ _ _ _ (by assumption) (by (try simp only [zI]);omega)) (aw8 _ _ _ _) (fun s'=>_::_::_::s') (ap7 _ _ _) ?_;rintro _ _ ⟨v',s',rfl,rfl,hr'⟩
       repeat' first|refine sk55 ?_|intro b;conv=>whnf|refine IxM.mk fun y hy=>?_
       exact⟨(j+1,v',s'),(aa2 cl2),cl3,⟨by simp only;omega,by simp only;rw [hSF,← zV];first|exact hr' | (rw [he] at hr';exact hr')|(rw [hFL];exact hr')⟩,by simp only;omega⟩
      ·have hcb:chkB 7=true:=by rfl
       repeat' first|refine sk55 ?_|intro b;conv=>whnf|refine IxM.mk fun y hy=>?_
       refine Ld.yd (af3 rfl rfl) ?_
       repeat' first|refine sk55 ?_|intro b;conv=>whnf|refine IxM.mk fun y hy=>?_
       refine OtE.yd rfl (ah4 (n:=7) rfl rfl rfl hk9 (by omega)) ?_
       repeat' first|refine sk55 ?_|intro b;conv=>whnf|refine IxM.mk fun y hy=>?_
       refine pA6 (am7 _ (L++upTo q (ae7 x)++one q (-1) (-1) (ag0 x q y)++upTo j (ad1 x q y)) _ _ _ _ _ _ (by assumption) (by (try simp only [zI]);omega)) (aw8 _ _ _ _) (fun s'=>_::_::_::s') (ap7 _ _ _) ?_;rintro _ _ ⟨v',s',rfl,rfl,hr'⟩
       repeat' first|refine sk55 ?_|intro b;conv=>whnf|refine IxM.mk fun y hy=>?_
       exact⟨(j+1,v',s'),(aa2 cl2),cl3,⟨by simp only;omega,by simp only;rw [hSF,← zV];first|exact hr' | (rw [he] at hr';exact hr')|(rw [hFL];exact hr')⟩,by simp only;omega⟩
      ·have hcb:chkB 8=true:=by rfl
       repeat' first|refine sk55 ?_|intro b;conv=>whnf|refine IxM.mk fun y hy=>?_
       refine Ld.yd (af3 rfl rfl) ?_
       repeat' first|refine sk55 ?_|intro b;conv=>whnf|refine IxM.mk fun y hy=>?_
       refine OtE.yd rfl (ah4 (n:=8) rfl rfl rfl hk9 (by omega)) ?_
       repeat' first|refine sk55 ?_|intro b;conv=>whnf|refine IxM.mk fun y hy=>?_
       refine pA6 (am7 _ (L++upTo q (ae7 x)++one q (-1) (-1) (ag0 x q y)++upTo j (ad1 x q y)) _ _ _ _ _ _ (by assumption) (by (try simp only [zI]);omega)) (aw8 _ _ _ _) (fun s'=>_::_::_::s') (ap7 _ _ _) ?_;rintro _ _ ⟨v',s',rfl,rfl,hr'⟩
       repeat' first|refine sk55 ?_|intro b;conv=>whnf|refine IxM.mk fun y hy=>?_
       exact⟨(j+1,v',s'),(aa2 cl2),cl3,⟨by simp only;omega,by simp only;rw [hSF,← zV];first|exact hr' | (rw [he] at hr';exact hr')|(rw [hFL];exact hr')⟩,by simp only;omega⟩
     ·have he:ao7 [(decide (aa4 y f.name<(j:Int)),7)]=0:=by rw [ar3,if_neg (by simp;omega)]
      have hFL:al8 x q y j f=ac9 x q j f:=by unfold al8;rw [if_neg hfx]
      rcases hk9 with hk9|hk9|hk9|hk9|hk9|hk9|hk9|hk9|hk9
      ·have HC:=bA5 x q j f hk9;have hcb:chkB 0=true:=by rfl
       repeat' first|refine sk55 ?_|intro b;conv=>whnf|refine IxM.mk fun y hy=>?_
       refine Ld.yd (af3 rfl rfl) ?_
       repeat' first|refine sk55 ?_|intro b;conv=>whnf|refine IxM.mk fun y hy=>?_
       refine OtE.yd rfl (ah4 (n:=0) rfl rfl rfl hk9 (by omega)) ?_
       repeat' first|refine sk55 ?_|intro b;conv=>whnf|refine IxM.mk fun y hy=>?_
       refine pA6 (am7 _ (L++upTo q (ae7 x)++one q (-1) (-1) (ag0 x q y)++upTo j (ad1 x q y)) _ _ _ _ _ _ (by assumption) (by (try simp only [zI]);omega)) (aw8 _ _ _ _) (fun s'=>_::_::_::s') (ap7 _ _ _) ?_;rintro _ _ ⟨v',s',rfl,rfl,hr'⟩
       repeat' first|refine sk55 ?_|intro b;conv=>whnf|refine IxM.mk fun y hy=>?_
       exact⟨(j+1,v',s'),(aa2 cl2),cl3,⟨by simp only;omega,by simp only;rw [hSF,← zV];first|exact hr' | (rw [he] at hr';exact hr')|(rw [hFL];exact hr')⟩,by simp only;omega⟩
      ·have HC:=bA4 x q j f hl hf hk9;have hcb:chkB 1=true:=by rfl
       repeat' first|refine sk55 ?_|intro b;conv=>whnf|refine IxM.mk fun y hy=>?_
       refine Ld.yd (af3 rfl rfl) ?_
       repeat' first|refine sk55 ?_|intro b;conv=>whnf|refine IxM.mk fun y hy=>?_
       refine OtE.yd rfl (ah4 (n:=1) rfl rfl rfl hk9 (by omega)) ?_
       repeat' first|refine sk55 ?_|intro b;conv=>whnf|refine IxM.mk fun y hy=>?_
       refine pA6 (am7 _ (L++upTo q (ae7 x)++one q (-1) (-1) (ag0 x q y)++upTo j (ad1 x q y)) _ _ _ _ _ _ (by assumption) (by (try simp only [zI]);omega)) (aw8 _ _ _ _) (fun s'=>_::_::_::s') (ap7 _ _ _) ?_;rintro _ _ ⟨v',s',rfl,rfl,hr'⟩
       repeat' first|refine sk55 ?_|intro b;conv=>whnf|refine IxM.mk fun y hy=>?_
       exact⟨(j+1,v',s'),(aa2 cl2),cl3,⟨by simp only;omega,by simp only;rw [hSF,← zV];first|exact hr' | (rw [he] at hr';exact hr')|(rw [hFL];exact hr')⟩,by simp only;omega⟩
      ·have HC:ac9 x q j f=0:=by unfold ac9;simp [hk9]
       rw [hFL,HC] at hSF;clear hFL HC;have hcb:chkB 2=false:=by rfl
       repeat' first|refine sk55 ?_|intro b;conv=>whnf|refine IxM.mk fun y hy=>?_
       refine Ld.yd (af3 rfl rfl) ?_
       repeat' first|refine sk55 ?_|intro b;conv=>whnf|refine IxM.mk fun y hy=>?_
       refine OtE.yd rfl (ah4 (n:=2) rfl rfl rfl hk9 (by omega)) ?_
       repeat' first|refine sk55 ?_|intro b;conv=>whnf|refine IxM.mk fun y hy=>?_
       refine pA6 (am7 _ (L++upTo q (ae7 x)++one q (-1) (-1) (ag0 x q y)++upTo j (ad1 x q y)) _ _ _ _ _ _ (by assumption) (by (try simp only [zI]);omega)) (aw8 _ _ _ _) (fun s'=>_::_::_::s') (ap7 _ _ _) ?_;rintro _ _ ⟨v',s',rfl,rfl,hr'⟩
       repeat' first|refine sk55 ?_|intro b;conv=>whnf|refine IxM.mk fun y hy=>?_
       exact⟨(j+1,v',s'),(aa2 cl2),cl3,⟨by simp only;omega,by simp only;rw [hSF,← zV];first|exact hr' | (rw [he] at hr';exact hr')|(rw [hFL];exact hr')⟩,by simp only;omega⟩
      ·have HC:ac9 x q j f=0:=by unfold ac9;simp [hk9]
       rw [hFL,HC] at hSF;clear hFL HC;have hcb:chkB 3=false:=by rfl
       repeat' first|refine sk55 ?_|intro b;conv=>whnf|refine IxM.mk fun y hy=>?_
       refine Ld.yd (af3 rfl rfl) ?_
       repeat' first|refine sk55 ?_|intro b;conv=>whnf|refine IxM.mk fun y hy=>?_
       refine OtE.yd rfl (ah4 (n:=3) rfl rfl rfl hk9 (by omega)) ?_
       repeat' first|refine sk55 ?_|intro b;conv=>whnf|refine IxM.mk fun y hy=>?_
       refine pA6 (am7 _ (L++upTo q (ae7 x)++one q (-1) (-1) (ag0 x q y)++upTo j (ad1 x q y)) _ _ _ _ _ _ (by assumption) (by (try simp only [zI]);omega)) (aw8 _ _ _ _) (fun s'=>_::_::_::s') (ap7 _ _ _) ?_;rintro _ _ ⟨v',s',rfl,rfl,hr'⟩
       repeat' first|refine sk55 ?_|intro b;conv=>whnf|refine IxM.mk fun y hy=>?_
       exact⟨(j+1,v',s'),(aa2 cl2),cl3,⟨by simp only;omega,by simp only;rw [hSF,← zV];first|exact hr' | (rw [he] at hr';exact hr')|(rw [hFL];exact hr')⟩,by simp only;omega⟩
      ·have HC:=bA3 x q j f hl hf hfa hk9;have hcb:chkB 4=true:=by rfl
       repeat' first|refine sk55 ?_|intro b;conv=>whnf|refine IxM.mk fun y hy=>?_
       refine Ld.yd (af3 rfl rfl) ?_
       repeat' first|refine sk55 ?_|intro b;conv=>whnf|refine IxM.mk fun y hy=>?_
       refine OtE.yd rfl (ah4 (n:=4) rfl rfl rfl hk9 (by omega)) ?_
       repeat' first|refine sk55 ?_|intro b;conv=>whnf|refine IxM.mk fun y hy=>?_
       refine pA6 (am7 _ (L++upTo q (ae7 x)++one q (-1) (-1) (ag0 x q y)++upTo j (ad1 x q y)) _ _ _ _ _ _ (by assumption) (by (try simp only [zI]);omega)) (aw8 _ _ _ _) (fun s'=>_::_::_::s') (ap7 _ _ _) ?_;rintro _ _ ⟨v',s',rfl,rfl,hr'⟩
       repeat' first|refine sk55 ?_|intro b;conv=>whnf|refine IxM.mk fun y hy=>?_
       exact⟨(j+1,v',s'),(aa2 cl2),cl3,⟨by simp only;omega,by simp only;rw [hSF,← zV];first|exact hr' | (rw [he] at hr';exact hr')|(rw [hFL];exact hr')⟩,by simp only;omega⟩
      ·have HC:=bA2 x q j f hll hk9;have hcb:chkB 5=true:=by rfl
       repeat' first|refine sk55 ?_|intro b;conv=>whnf|refine IxM.mk fun y hy=>?_
       refine Ld.yd (af3 rfl rfl) ?_
       repeat' first|refine sk55 ?_|intro b;conv=>whnf|refine IxM.mk fun y hy=>?_
       refine OtE.yd rfl (ah4 (n:=5) rfl rfl rfl hk9 (by omega)) ?_
       repeat' first|refine sk55 ?_|intro b;conv=>whnf|refine IxM.mk fun y hy=>?_
       refine pA6 (am7 _ (L++upTo q (ae7 x)++one q (-1) (-1) (ag0 x q y)++upTo j (ad1 x q y)) _ _ _ _ _ _ (by assumption) (by (try simp only [zI]);omega)) (aw8 _ _ _ _) (fun s'=>_::_::_::s') (ap7 _ _ _) ?_;rintro _ _ ⟨v',s',rfl,rfl,hr'⟩
       repeat' first|refine sk55 ?_|intro b;conv=>whnf|refine IxM.mk fun y hy=>?_
       exact⟨(j+1,v',s'),(aa2 cl2),cl3,⟨by simp only;omega,by simp only;rw [hSF,← zV];first|exact hr' | (rw [he] at hr';exact hr')|(rw [hFL];exact hr')⟩,by simp only;omega⟩
      ·have HC:=bA1 x q j f (by omega) hl hf hk9;have hcb:chkB 6=true:=by rfl
       repeat' first|refine sk55 ?_|intro b;conv=>whnf|refine IxM.mk fun y hy=>?_
       refine Ld.yd (af3 rfl rfl) ?_
       repeat' first|refine sk55 ?_|intro b;conv=>whnf|refine IxM.mk fun y hy=>?_
       refine OtE.yd rfl (ah4 (n:=6) rfl rfl rfl hk9 (by omega)) ?_
       repeat' first|refine sk55 ?_|intro b;conv=>whnf|refine IxM.mk fun y hy=>?_
       refine pA6 (am7 _ (L++upTo q (ae7 x)++one q (-1) (-1) (ag0 x q y)++upTo j (ad1 x q y)) _ _ _ _ _ _ (by assumption) (by (try simp only [zI]);omega)) (aw8 _ _ _ _) (fun s'=>_::_::_::s') (ap7 _ _ _) ?_;rintro _ _ ⟨v',s',rfl,rfl,hr'⟩
       repeat' first|refine sk55 ?_|intro b;conv=>whnf|refine IxM.mk fun y hy=>?_
       exact⟨(j+1,v',s'),(aa2 cl2),cl3,⟨by simp only;omega,by simp only;rw [hSF,← zV];first|exact hr' | (rw [he] at hr';exact hr')|(rw [hFL];exact hr')⟩,by simp only;omega⟩
      ·have HC:=bA0 x q j f hl hf hk9;have hcb:chkB 7=true:=by rfl
       repeat' first|refine sk55 ?_|intro b;conv=>whnf|refine IxM.mk fun y hy=>?_
       refine Ld.yd (af3 rfl rfl) ?_
       repeat' first|refine sk55 ?_|intro b;conv=>whnf|refine IxM.mk fun y hy=>?_
       refine OtE.yd rfl (ah4 (n:=7) rfl rfl rfl hk9 (by omega)) ?_
       repeat' first|refine sk55 ?_|intro b;conv=>whnf|refine IxM.mk fun y hy=>?_
       refine pA6 (am7 _ (L++upTo q (ae7 x)++one q (-1) (-1) (ag0 x q y)++upTo j (ad1 x q y)) _ _ _ _ _ _ (by assumption) (by (try simp only [zI]);omega)) (aw8 _ _ _ _) (fun s'=>_::_::_::s') (ap7 _ _ _) ?_;rintro _ _ ⟨v',s',rfl,rfl,hr'⟩
       repeat' first|refine sk55 ?_|intro b;conv=>whnf|refine IxM.mk fun y hy=>?_
       exact⟨(j+1,v',s'),(aa2 cl2),cl3,⟨by simp only;omega,by simp only;rw [hSF,← zV];first|exact hr' | (rw [he] at hr';exact hr')|(rw [hFL];exact hr')⟩,by simp only;omega⟩
      ·have HC:=bz9 x q j f hl hf hg8 hk9;have hcb:chkB 8=true:=by rfl
       repeat' first|refine sk55 ?_|intro b;conv=>whnf|refine IxM.mk fun y hy=>?_
       refine Ld.yd (af3 rfl rfl) ?_
       repeat' first|refine sk55 ?_|intro b;conv=>whnf|refine IxM.mk fun y hy=>?_
       refine OtE.yd rfl (ah4 (n:=8) rfl rfl rfl hk9 (by omega)) ?_
       repeat' first|refine sk55 ?_|intro b;conv=>whnf|refine IxM.mk fun y hy=>?_
       refine pA6 (am7 _ (L++upTo q (ae7 x)++one q (-1) (-1) (ag0 x q y)++upTo j (ad1 x q y)) _ _ _ _ _ _ (by assumption) (by (try simp only [zI]);omega)) (aw8 _ _ _ _) (fun s'=>_::_::_::s') (ap7 _ _ _) ?_;rintro _ _ ⟨v',s',rfl,rfl,hr'⟩
       repeat' first|refine sk55 ?_|intro b;conv=>whnf|refine IxM.mk fun y hy=>?_
       exact⟨(j+1,v',s'),(aa2 cl2),cl3,⟨by simp only;omega,by simp only;rw [hSF,← zV];first|exact hr' | (rw [he] at hr';exact hr')|(rw [hFL];exact hr')⟩,by simp only;omega⟩
    ·obtain rfl:j=y.fields.length:=by omega
     repeat' first|refine sk55 ?_|intro b;conv=>whnf|refine IxM.mk fun y hy=>?_|with_reducible refine Br.d (fun hc=>?_) (fun hc=>?_)|with_reducible refine Br.b (fun hc=>?_) (fun hc=>?_)
     exact⟨(q+1,v,s),(aa2 cl2),cl3,⟨by simp only;omega,by simp only;rw [hSK];simp only [zV] at hrow2 ⊢;exact hrow2⟩,by simp only;omega⟩
   ·obtain rfl:q=x.kz.length:=by omega
    generalize hM:upTo x.kz.length (ae7 x)=M at *;refine ac2 mixed aa0 (γ:=Nat × Value × aa1) (fun g=>[(108,iD g.1)]) (fun g=>(b4,.cells 189 [.v g.2.1])::g.2.2) (fun g=>g.1<=x.rules.length/\RowIs 191 4 ((L++M++upTo g.1 (az1 x)).map prbC) g.2.1 g.2.2) (fun g=>x.rules.length-g.1) (0,v,s) (aa2 cl2) cl3 ⟨zW _,by simpa [upTo] using hrow⟩ ?_;rintro⟨q,v,s⟩ ⟨hq,hrow2⟩;simp only at hq hrow2 ⊢;have hlen3:=ad2 (bc4 x) q;have hS:=ad5 q (az1 x);by_cases hql:q<x.rules.length
    ·obtain⟨r,hr0⟩:∃ r,x.rules[q]?=some r:=⟨_,zD hql⟩
     rw [show az1 x q=one (-1) (-1) q (aw7 x q r) by simp only [az1,hr0]] at hS
     repeat' first|refine sk55 ?_|intro b;conv=>whnf|refine IxM.mk fun y hy=>?_
     refine pA6 (am7 _ (L++M++upTo q (az1 x)) _ _ _ _ _ _ (by assumption) (by (try simp only [zI]);omega)) (aw9 _) (fun s'=>s') at1 ?_;rintro _ _ ⟨v',s',rfl,rfl,hr'⟩
     repeat' first|refine sk55 ?_|intro b;conv=>whnf|refine IxM.mk fun y hy=>?_
     exact⟨(q+1,v',s'),(aa2 cl2),cl3,⟨by simp only;omega,by simp only;rw [hS,← zV];exact hr'⟩,by simp only;omega⟩
    ·obtain rfl:q=x.rules.length:=by omega
     rw [hP]
     repeat' first|refine sk55 ?_|intro b;conv=>whnf|refine IxM.mk fun y hy=>?_|with_reducible refine Br.d (fun hc=>?_) (fun hc=>?_)|with_reducible refine Br.b (fun hc=>?_) (fun hc=>?_)
     exact Rt.by (Vs.trans (Vs.drop (yG _ _)) (Vs.row hrow2 (aw9 _))) rfl
 ·have hP:aj9 x=[(-1,-1,-1,ad4 x)]:=by unfold aj9;rw [if_neg hv]
  rw [hP]
  repeat' first|refine sk55 ?_|intro b;conv=>whnf|refine IxM.mk fun y hy=>?_|with_reducible refine Br.d (fun hc=>?_) (fun hc=>?_)|with_reducible refine Br.b (fun hc=>?_) (fun hc=>?_)
  exact Rt.same rfl
end
section
open Go Go.Maps Go.MapKept
def idxs (rows:List (List Int)) (f j:Nat):List Int:=(rows.zipIdx.filter fun p=>decide (p.1.getD f 0=(j:Int))).map fun p=>(p.2:Int)
theorem bf6 (rows:List (List Int)) (r:List Int) (f j:Nat):idxs (rows++[r]) f j=if r.getD f 0=(j:Int) then idxs rows f j++[(rows.length:Int)] else idxs rows f j:=by
 unfold idxs;rw [List.zipIdx_append,vZ,yB,List.zipIdx_singleton,List.filter_cons,List.filter_nil,xD];by_cases h:r.getD f 0=(j:Int)
 ·rw [if_pos h,if_pos (by simpa using h)];rfl
 ·rw [if_neg h,if_neg (by simpa using h)];simp
theorem br6 (rows:List (List Int)) (f j:Nat):(idxs rows f j).length=rows.countP fun r=>decide (r.getD f 0=(j:Int)):=by
 generalize hr:rows.reverse=l
 induction l generalizing rows with
 | nil=>rw [List.reverse_eq_nil_iff] at hr;subst hr;rfl
 | cons r l ih=>
  have hl:rows=l.reverse++[r]:=by rw [← List.reverse_reverse rows,hr];simp
  subst hl;rw [bf6,List.countP_append,← ih l.reverse (by simp),List.countP_singleton];by_cases h:r.getD f 0=(j:Int)
  ·rw [if_pos h,if_pos (yJ h),zI];rfl
  ·rw [if_neg h,if_neg (by simpa using h)];rfl
def adjL (rows:List (List Int)) (f n:Nat):List (List Int):=(List.range n).map (idxs rows f)
theorem ay0 (rows:List (List Int)) (f n:Nat):(adjL rows f n).length=n:=by simp [adjL]
theorem aG1 {f n j:Nat} (rows:List (List Int)) (h:j<n):(adjL rows f n)[j]?=some (idxs rows f j):=by simp [adjL,h]
theorem bT3 (f n:Nat):adjL [] f n=List.replicate n []:=by
 refine xY fun i=>?_;by_cases h:i<n
 ·rw [aG1 _ h,wF,if_pos h];rfl
 ·rw [yY.2 (by rw [ay0];omega),yY.2 (by simp;omega)]
theorem bK2 {rows:List (List Int)} {r:List Int} {f n v:Nat} (h:r.getD f 0=(v:Int)):adjL (rows++[r]) f n=(adjL rows f n).set v (idxs rows f v++[(rows.length:Int)]):=by
 refine xY fun i=>?_;by_cases hi:i<n
 ·rw [aG1 _ hi,bf6,h];by_cases e:i=v
  ·subst e;rw [if_pos rfl,xI (by rw [ay0];exact hi)]
  ·rw [if_neg (by omega),wN (Ne.symm e),aG1 _ hi]
 ·rw [yY.2 (by rw [ay0];omega),yY.2 (by rw [yR,ay0];omega)]
theorem af7 {α:Type} {l:List α} {j:Nat} {x:α} (h:l[j]?=some x):l.take (j+1)=l.take j++[x]:=by rw [xC,h];rfl
theorem bu6 (x:Sch):(ab8 x).Pairwise fun a b=>a.kind≠b.kind\/a.field≠b.field:=by
 have hF:∀ k kd i a,a∈refF x k kd i->a.kind=k/\a.field=i:=by
  intro k kd i a h;unfold refF at h;split at h
  ·split at h
   ·rw [zN] at h;subst h;exact⟨rfl,rfl⟩
   ·cases h
  ·cases h
 have hK:∀ k a,a∈refK x k->a.kind=k:=by
  intro k a h;unfold refK at h;split at h
  ·obtain⟨i,_,h⟩:=aE6.1 h;exact (hF _ _ _ _ h).1
  ·cases h
 unfold ab8 upTo;rw [List.pairwise_flatMap];refine⟨fun k _=>?_,List.nodup_range.imp fun hab a ha b hb=>.inl (by rw [hK _ _ ha,hK _ _ hb];exact hab)⟩;unfold refK;split
 ·unfold upTo;rw [List.pairwise_flatMap];refine⟨fun i _=>?_,List.nodup_range.imp fun hab a ha b hb=>.inr (by rw [(hF _ _ _ _ ha).2,(hF _ _ _ _ hb).2];exact hab)⟩;unfold refF;split
  ·split<;>simp
  ·simp
 ·simp
theorem cb6 {x:Sch} {p q:Nat} {a b:Rf} (ha:(ab8 x)[p]?=some a) (hb:(ab8 x)[q]?=some b) (h:p≠q):a.kind≠b.kind\/a.field≠b.field:=by
 obtain⟨l1,e1⟩:=zE.1 ha;obtain⟨l2,e2⟩:=zE.1 hb;have hp:=wS.1 (bu6 x);rcases Nat.lt_or_gt_of_ne h with h|h
 ·have:=hp p q l1 l2 h;rwa [e1,e2] at this
 ·have:=hp q p l2 l1 h;rw [e1,e2] at this;exact this.imp Ne.symm Ne.symm
def adjR (w:Wd) (r:Rf):List (List Int):=adjL (w.getD r.kind []) r.field (w.getD r.up.toNat []).length
def lnC (r:Rf):List D:=[iD r.kind,iD r.field,iD r.up]
abbrev slLn (l:List Rf):D:=.sl 3 (l.map lnC)
abbrev lnV (r:Rf):Value:=lkV r.kind r.field r.up
def AdjS (w:Wd) (F:Value->Option Value) (L:List Rf) (σ:aa1):Prop:=∃ (vs:List Value) (ts:List aa1),All3 (fun r v t=>RW1 (adjR w r) v t/\F (lnV r)=some v) L vs ts/\σ.Perm ts.flatten
theorem AdjS.nil (w:Wd) (F:Value->Option Value):AdjS w F [] []:=⟨[],[],.nil,by simp⟩
theorem AdjS.perm {w:Wd} {F:Value->Option Value} {L:List Rf} {σ σ':aa1} (h:AdjS w F L σ) (hp:σ'.Perm σ):AdjS w F L σ':=by
 obtain⟨vs,ts,h1,h2⟩:=h;exact⟨vs,ts,h1,hp.trans h2⟩
theorem All3.imp {α:Type} {R R':ORep α} {xs:List α} {vs:List Value} {ts:List aa1} (h:All3 R xs vs ts) (hi:∀ x∈xs,∀ v t,R x v t->R' x v t):All3 R' xs vs ts:=by
 induction h with
 | nil=>exact .nil
 | cons h k ih=>exact .cons (hi _ (yN ..) _ _ h) (ih fun x hx=>hi x (yQ _ hx))
theorem AdjS.push {w:Wd} {F:Value->Option Value} {L:List Rf} {σ τ:aa1} {r:Rf} {v:Value} (h:AdjS w F L σ) (hr:RW1 (adjR w r) v τ) (hne:∀ r'∈L,r'.kind≠r.kind\/r'.field≠r.field):AdjS w (updF F (lnV r) v) (L++[r]) (σ++τ):=by
 obtain⟨vs,ts,h1,h2⟩:=h;refine⟨vs++[v],ts++[τ],All3.append (h1.imp fun r' hr' u t hh=>⟨hh.1,?_⟩) (.cons ⟨hr,?_⟩ .nil),?_⟩
 ·unfold updF;rw [if_neg]
  ·exact hh.2
  ·intro e;obtain⟨e1,e2,_⟩:=ce0 e;rcases hne r' hr' with h|h<;>omega
 ·unfold updF;rw [if_pos rfl]
 ·rw [vW]
  simpa using h2.append_right τ
theorem AdjS.at {w:Wd} {F:Value->Option Value} {L:List Rf} {σ:aa1} (h:AdjS w F L σ) {q:Nat} {r:Rf} (hr:L[q]?=some r):∃ v t τ,F (lnV r)=some v/\RW1 (adjR w r) v t/\σ.Perm (t++τ):=by
 obtain⟨vs,ts,h1,h2⟩:=h;obtain⟨u,t,τ,g1,g2,g3,_⟩:=h1.at hr;exact⟨u,t,τ,g2.2,g2.1,h2.trans g3⟩
end
section
open Go Go.RowKit Go.Shelf Go.Maps Go.MapKept
open Go.ChangeMaps (setBlock modify_eq_set heap_setBlock_same heap_setBlock_other)
noncomputable def updG (G:Value->Option D) (key:Value) (d:D):Value->Option D:=open Classical in fun x=>if x=key then some d else G x
section
variable {P:Program} {r:Option Nat} {n:Nat} {df:Nat} {N:Nat} {σ τ:aa1} {ρ:Operand->D} {f:Frm} {L:List Oper} {k t e:TypeId} {G:Value->Option D} {b:Nat} {kv z:Value} {kl:Lit} {zd:D}
theorem bW1 {w:World} {X:Nat->Prop} (hs:StOK w X σ) (hb:(b,Blk.mp P k G)∈σ):∃ es c n F,w.heap[b]?=some (.map es c)/\Ents P k es c n F/\∀ key,(F key=none/\G key=none)\/∃ v d,F key=some v/\G key=some d/\Rd w (Own σ X) d v:=by
 obtain⟨_,o,h1,es,c,n,F,rfl,h3,h4⟩:=hs.at_ b _ hb;exact⟨es,c,n,F,h1,h3,h4⟩
theorem OtE.makeMapM {o:Oper} {K:Frm->aa1->Prop} (ho:o.op = .makeMap t none) (kk:∀ b,W (putK N o.dst (.v (.map (some b))) f (fun f'=>K f' ((b,.mp P k fun _=>none)::σ)))):OtE P r n df L N o f σ K:=by
 refine⟨fun rest Q a hsp hw hk=>?_⟩;refine ah3 hw (by rw [ho];rfl) fun w X fr hst=>?_;have e0:(execOp fr.eval o).run P w = .ok (.value (.map (some w.heap.size))) (w.alloc (.map #[] 0)):=by
  simp only [execOp,ho]
  rfl
 rw [e0];have hz:∀ w O,(Blk.mp P k fun _=>none).ok w O (.map #[] 0):=fun w O=>⟨#[],0,0,fun _=>none,rfl,⟨by simp,stamped_empty 0,by simp,by simp,by simp⟩,fun _=>.inl ⟨rfl,rfl⟩⟩
 obtain⟨g1,g2,g3⟩:=hst.st.new (.map #[] 0) (.mp P k fun _=>none) (hz _ _);obtain⟨f',hs',h4⟩:=ae5 (kk w.heap.size).h hsp;exact⟨_,_,g2,(hst.mv g2 g1).put (.v _) o.dst,hk _ _ _ h4 hs'⟩
theorem OtE.mapUpdateM {o:Oper} {m key x:Operand} {d:D} {K:Frm->aa1->Prop} (ho:o.op = .mapUpdate t m key x) (hm:evF f m = .v (.map (some b))) (hd:KeyD (evF f key) kv) (hx:evF f x=d) (hb:σ.Perm ((b,Blk.mp P k G)::τ))
  (KK:Keyed P k) (ht:P.underlying t=some (.map k e)) (hkey:keyOf P k kv=some kl) (kk:W (putK N o.dst (.v undef) f (fun f'=>K f' ((b,.mp P k (updG G kv d))::τ)))):OtE P r n df L N o f σ K:=by
 refine⟨fun rest Q a hsp hw hk=>?_⟩;refine ah3 hw (by rw [ho];rfl) fun w X fr hst=>?_;have hst':=hst.perm hb;obtain⟨es,c,nn,F,q1,q2,q3⟩:=bW1 hst'.st (yN);have hη:∀ x,Rd w (Own ((b,Blk.mp P k G)::τ) X) (evF f x) (fr.eval x):=fun x=>hsp.le x _ _ _ (hst'.fr.eval x);obtain⟨w',h1,⟨es',c',h2,h3⟩,h4⟩:=pA1 (v:=fr.eval x) (n:=nn) ⟨es,c,q1,q2⟩ KK ht hkey;have p1:=(hη m).val hm;have p2:=hd _ _ _ (hη key);have p3:=hη x;rw [hx] at p3;have e0:(execOp fr.eval o).run P w = .ok .skip w':=by
  simp only [execOp,ho,p1,p2]
  show (do let _ ← Instr.mapUpdate t (.map (some b)) kv (fr.eval x);pure Next.skip).run P w=_;simp only [Sem.run_bind,h1,Result.andThen,Sem.run_pure]
 have h6:(Blk.mp P k (updG G kv d)).ok w (Own ((b,Blk.mp P k G)::τ) X) (.map es' c'):=by
  refine⟨es',c',_,_,rfl,h3,fun key=>?_⟩;unfold updF updG;by_cases hk:key=kv
  ·subst hk;exact .inr ⟨_,_,if_pos rfl,if_pos rfl,p3⟩
  ·rw [if_neg hk,if_neg hk];exact q3 key
 obtain⟨g1,g2,g3,g4⟩:=hst'.st.upd (i:=0) (k':=.mp P k (updG G kv d)) rfl h4 h2 h6;obtain⟨f',hs',h8⟩:=ae5 kk.h hsp;rw [e0];exact⟨_,bk1 hb g2,(hst'.mv g2 g1).put (.v undef) o.dst,hk _ _ _ h8 hs'⟩
theorem aI6 {o:Oper} {m key:Operand} (d:D) (ok:Bool) (ho:o.op = .lookup t m key true) (hm:ρ m = .v (.map (some b))) (hd:KeyD (ρ key) kv) (hb:(b,Blk.mp P k G)∈σ)
  (K:Keyed P k) (ht:P.underlying t=some (.map k e)) (hz:∀ w,(zeroValue e).run P w = .ok z w) (hzd:∀ w O,Rd w O zd z) (hkey:keyOf P k kv=some kl) (hv:(G kv).getD zd=d) (hok:(G kv).isSome=ok):Yd P o ρ σ (.tup [d,.v (.bool ok)]):=by
 subst hv hok;intro w X η hη hst;obtain⟨dst,op,ty,pos,aft,g⟩:=o;simp only at ho;subst ho;have h1:=(hη m (by simp [Op.operands])).val hm;have h2:=hd _ _ _ (hη key (by simp [Op.operands]));obtain⟨es,c,nn,F,q1,q2,q3⟩:=bW1 hst hb;refine ag4 (s:=Instr.lookup t (η m) (η key) true) (by rw [h1,h2];exact MapIs.look_ok (n:=nn) ⟨es,c,q1,q2⟩ K ht (hz w) hkey) (Ex.refl w) ?_;rcases q3 kv with ⟨r1,r2⟩|⟨v,d,r1,r2,r3⟩
 ·rw [r1,r2];have h5:=RdL.cons (w:=w) (O:=Own σ X) (hzd w (Own σ X)) (RdL.cons (Rd.v (.bool false)) RdL.nil);exact Rd.tup [zd,.v (.bool false)] _ h5.len h5.at_
 ·rw [r1,r2];have h5:=RdL.cons (w:=w) (O:=Own σ X) r3 (RdL.cons (Rd.v (.bool true)) RdL.nil);exact Rd.tup [d,.v (.bool true)] _ h5.len h5.at_
end
end
section
open Go Go.Maps Go.MapKept
theorem ACall.look {P:Program} {f:FuncId} {ds ds':List D} {σ τ ρ:aa1} {R:D->aa1->Prop} (hv:VsL σ ds τ ds') (hp:σ.Perm (τ++ρ)) (hc:ACall P f ds' τ R) (hfl:∀ d s,R d s->bQ3 d=true/\FlS s) :
  ACall P f ds σ (fun d σ'=>∃ s,σ'=s++ρ/\R d s):=by
 refine⟨hc.ent,fun w X vs hv0 hs=>?_⟩;obtain⟨hsτ,hvτ⟩:=hv.run w X vs hs hv0;have hsp:=hs.perm hp;refine (hc.run w X vs hvτ hsτ).mono ?_;rintro e w' ⟨u,d,s,g1,g2,g3,g4,g5⟩;obtain⟨f1,f2⟩:=hfl d s g2;have hnd:=hsp.nodup;rw [ab1,wR] at hnd;obtain⟨n1,n2,n3⟩:=hnd;have hz:=g5.keep.size;have hblk:∀ b,b<w.heap.size->¬ Own (τ++ρ) X b->w'.heap[b]?=w.heap[b]?:=fun b hb hn=>g5.keep.block b hb (fun hk=>hn (.inr (by rw [ab1];exact xK _ hk)));have hO:∀ b,b<w.heap.size->¬ Own (τ++ρ) X b->¬ Own (s++ρ) X b:=fun b hb hn ho=>by
  rcases ho with ho|ho
  ·exact hn (.inl ho)
  ·rw [ab1,zO] at ho;rcases ho with ho|ho
   ·rcases g5.new b ho with h|h
    ·exact hn (.inr (by rw [ab1];exact xK _ h))
    ·omega
   ·exact hn (.inr (by rw [ab1];exact yW _ ho))
 have hρ:∀ b,b∈aa6 ρ->b<w.heap.size:=fun b hb=>hsp.lt (by rw [ab1];exact yW _ hb);refine⟨u,d,s++ρ,g1,⟨s,rfl,g2⟩,bl3 g3 f1,⟨?_,fun b k hbk=>?_,fun b hb=>yI (hs.xlt b hb) hz,?_⟩,⟨⟨g5.keep.os,g5.keep.tape,g5.keep.output,hz,fun b hb hn=>g5.keep.block b hb (fun hk=>hn (ai9 hp b (by rw [ab1];exact xK _ hk)))⟩,fun b hb=>?_⟩⟩
 ·rw [ab1,wR];refine⟨g4.nodup,n2,fun b h1 c h2 e=>?_⟩;subst e;rcases g5.new b h1 with h|h
  ·exact n3 b h b h2 rfl
  ·have:=hρ b h2;omega
 ·rcases zO.1 hbk with h|h
  ·obtain⟨h1,o,h2,h3⟩:=g4.at_ b k h;refine⟨h1,o,h2,?_⟩;have hfk:=f2 _ h
   cases k with
   | cells t cs=>
    obtain⟨vs,q1,q2⟩:=h3;exact⟨vs,q1,q2.len,fun j d u r1 r2=>bX9 (q2.at_ j d u r1 r2) (hfk d (zG r1))⟩
   | obj ok=>exact h3
   | mp P k G=>exact hfk.elim
  ·obtain⟨h1,o,h2,h3⟩:=hsp.at_ b k (yW _ h);have hlt:=(zX.1 h2).1;have hnτ:b ∉ aa6 τ:=fun hb=>n3 b hb b (aA9 h) rfl;exact⟨h1,o,(g5.keep.block b hlt hnτ).trans h2,pA4 hz hO hblk h3⟩
 ·refine hsp.gok.keep hz hO hblk (fun b hb=>?_);rcases hb with hb|hb
  ·exact yI (hs.xlt b hb) hz
  ·rw [ab1,zO] at hb;rcases hb with hb|hb
   ·exact g4.lt hb
   ·exact yI (hρ b hb) hz
 ·rw [ab1,zO] at hb;rcases hb with hb|hb
  ·rcases g5.new b hb with h|h
   ·exact .inl (ai9 hp b (by rw [ab1];exact xK _ h))
   ·exact .inr h
  ·exact .inl (ai9 hp b (by rw [ab1];exact yW _ hb))
def lvG (l:List Lif):Value->Option D
 | .string n=>(l.find? fun x=>seq x.name n).map fun x=>lifD x
 | _=>none
theorem cd9:lvG []=fun _=>none:=by
 funext v
 cases v<;>rfl
theorem bO2 (lf:Lif) (l:List Lif):updG (lvG l) (.string lf.name) (lifD lf)=lvG (lf::l):=by
 funext v
 unfold updG;by_cases h:v = .string lf.name
 ·rw [if_pos h,h];simp [lvG,as3]
 ·rw [if_neg h]
  cases v<;>try rfl
  rename_i n;have:seq lf.name n=false:=by
   cases e:seq lf.name n with
   | false=>rfl
   | true=>exact absurd (by rw [(aC5 _ _).1 e]) h
  simp [lvG,List.find?,this]
end
section
open Go Go.Maps Go.MapKept
theorem aj4 (b:Bool) (e:Int):APure prog 67 [bD b,iD e] (iD (if b=true then e else 0)):=by
 refine eP7 func67 ntmps67 fun BB=>?_
 cases b
 ·repeat' first|refine sk2 ?_|intro b;conv=>whnf
  refine Rt.pure (zM iD ?_);rfl
 ·repeat' first|refine sk2 ?_|intro b;conv=>whnf
  refine Rt.pure (zM iD ?_);rfl
def ckC (x:Sch) (w:Wd) (L:List Rf) (rm lm:Nat) (v:Value):List D:=[iD x.vz,slK x.kz,slL x.lz,slR x.rules,slW w,slLn L,.v (.map (some rm)),.v (.map (some lm)),.v v]
theorem aQ8 (x:Sch) (w:Wd) (L:List Rf) (rm lm c:Nat) (l:List Prb) (v:Value) (s:aa1) (k i f e:Int) (hr:RowIs 135 4 (l.map prbC) v s) (hl:l.length<=100000000) :
  ACall prog 66 [.v (.pointer (some ⟨c,0,none⟩)),iD k,iD i,iD f,.sl 1 [[iD e]]] ((c,.cells 145 (ckC x w L rm lm v))::s)
   (fun d σ'=>∃ v' s',d = .v (.tuple #[])/\σ'=(c,.cells 145 (ckC x w L rm lm v'))::s'/\RowIs 135 4 ((l++one k i f e).map prbC) v' s'):=by
 obtain⟨a,cp,rfl⟩:=hr.slice;refine eC7 func66 ntmps66 fun BB=>?_
 repeat' first|refine sk2 ?_|intro b;conv=>whnf
 refine aa5 mixed aa0 (γ:=Nat × Value × aa1) (fun g=>[(14,iD g.1)]) (fun g=>(c,.cells 145 (ckC x w L rm lm g.2.1))::g.2.2) (fun g=>g.1<=1/\RowIs 135 4 ((l++(if g.1=0 then [] else one k i f e)).map prbC) g.2.1 g.2.2) (fun g=>1-g.1) (0,.slice a (l.map prbC).length cp,s) (aa2 cl2) (Sc.refl _) ⟨by simp,by simpa using hr⟩ ?_;rintro⟨q,v,s⟩ ⟨hq,hrow⟩;simp only at hq hrow ⊢;by_cases h0:q=0
 ·subst h0;simp only [if_true,zZ] at hrow
  repeat' first|refine sk2 ?_|intro b;conv=>whnf|with_reducible refine Br.d (fun hc=>?_) (fun hc=>?_)|with_reducible refine Br.b (fun hc=>?_) (fun hc=>?_)
  ·exact⟨(1,v,s),(aa2 cl2),Sc.refl _,⟨by simp,by
    simp only [show (1:Nat)≠0 by decide,uC];unfold one;rw [if_pos (by omega)];simpa using hrow⟩,by simp only;omega⟩
  ·refine Ap.go rfl rfl rfl rfl hrow (bj7 _ _) rfl (zs:=(l++one k i f e).map prbC) (by unfold one;rw [if_neg (by omega)];simp [prbC]) (by simp [one];split<;>simp<;>omega) (by simp [one];split<;>simp<;>omega) (fun s'=>_::s') (aU3 _) (fun a' c' s' hr'=>?_)
   repeat' first|refine sk2 ?_|intro b;conv=>whnf
   exact⟨(1,_,s'),(aa2 cl2),Sc.refl _,⟨by simp,by simpa using hr'⟩,by simp only;omega⟩
 ·obtain rfl:q=1:=by omega
  repeat' first|refine sk2 ?_|intro b;conv=>whnf
  exact Rt.same ⟨v,s,rfl,rfl,by simpa using hrow⟩
noncomputable def KF (ks:List Int):Value->Option Value
 | .int .i64 n=>if n∈ks then some (.bool true) else none
 | _=>none
theorem cv0:KF []=fun _=>none:=by
 funext v
 unfold KF;split<;>simp
theorem cj1 (ks:List Int) (n:Int):updF (KF ks) (.int .i64 n) (.bool true)=KF (n::ks):=by
 funext v
 unfold updF;split
 ·rename_i h;subst h;simp [KF]
 ·rename_i h;unfold KF;split
  ·rename_i m;have:m≠n:=fun e=>h (by rw [e]);simp [this]
  ·rfl
theorem cv1 (ks:List Int) (n:Int):((KF ks) (.int .i64 n)).getD (.bool false) = .bool (decide (n∈ks)):=by
 unfold KF;by_cases h:n∈ks<;>simp [h]
theorem by7 (w:World):(zeroValue 4).run prog w = .ok (.bool false) w:=by kernel_rfl
theorem sk56 {A B:Prop} (k:B) (h:Hd7 B->A:=by intro q7;(first|refine sb0 ?_|refine sb1 ?_|(refine' cp7x ?hc ?_;(case hc=>exact aj4 _ _)));exact q7.1):A:=h ⟨k⟩
theorem cu0 (n:Int) (d:Fld):APure prog 120 [iD n,.ro (fldC d)] (iD (outE n d.lo d.hi)):=by
 refine eP7 func120 ntmps120 fun BB=>?_;unfold outE;by_cases h1:n<d.lo
 ·rw [if_pos (.inl h1)]
  repeat' first|refine sk56 ?_|intro b;conv=>whnf
  refine Rt.pure (zM iD ?_);rfl
 ·by_cases h2:d.hi<n
  ·rw [if_pos (.inr h2)]
   repeat' first|refine sk56 ?_|intro b;conv=>whnf
   refine Rt.pure (zM iD ?_);simp [h2]
  ·rw [if_neg (by omega)]
   repeat' first|refine sk56 ?_|intro b;conv=>whnf
   refine Rt.pure (zM iD ?_);simp [h2]
theorem sb57 {A B:Prop} (k:B) (h:Hd7 B->A:=by intro q7;(first|refine u7x ?_|fail|refine u4x ?_);exact q7.1):A:=h ⟨k⟩
theorem sk58 {A B:Prop} (k:B) (h:Hd7 B->A:=by intro q7;(first|refine sb0 ?_|refine sb57 ?_|(refine' cp7x ?hc ?_;(case hc=>first|exact aj4 _ _|exact HC)));exact q7.1):A:=h ⟨k⟩
theorem sk59 {A B:Prop} (k:B) (h:Hd7 B->A:=by intro q7;(first|refine sb0 ?_|refine sb1 ?_|(refine' cp7x ?hc ?_;(case hc=>first|exact aj4 _ _|exact HC)));exact q7.1):A:=h ⟨k⟩
theorem bR3 {x:Sch} {w:Wd} {k i f:Nat} {kd:Knd} {d:Fld} {l:List (List Int)} {r:List Int} {n:Int} (L:List Rf) (bk rm lm:Nat) (v:Value) (ks:List Int) (hk:x.kz[k]?=some kd) (hf:kd.fields[f]?=some d) (hl:w[k]?=some l) (hr:l[i]?=some r) (hv:r[f]?=some n) (hn:InR n) (h3:d.kind=0\/d.kind=1\/d.kind=2)
  (b1:x.kz.length<=1000000) (b2:kd.fields.length<=1000000) (b3:w.length<=1000000) (b4:l.length<=1000000) (b5:r.length<=1000000) :
  ACall prog 68 [.ro (ckC x w L rm lm v),iD k,iD i,iD f,.v (.map (some bk))] [(bk,.obj (MapO prog 3 (KF ks)))]
   (fun dd σ'=>dd=iD (codeF x w k kd r i f d ks)/\σ'=[(bk,.obj (MapO prog 3 (KF (keyF r f d ks))))]):=by
 have hk':x.kz[((k:Nat):Int).toNat]?=some kd:=hk;have hf':kd.fields[((f:Nat):Int).toNat]?=some d:=hf;have hl':w[((k:Nat):Int).toNat]?=some l:=hl;have hr':l[((i:Nat):Int).toNat]?=some r:=hr;have hv':r[((f:Nat):Int).toNat]?=some n:=hv;have q1:=(zE.1 hk).1;have q2:=(zE.1 hf).1;have q3:=(zE.1 hl).1;have q4:=(zE.1 hr).1;have q5:=(zE.1 hv).1;have hn1:=hn.lo;have hn2:=hn.hi;refine eC7 func68 ntmps68 fun BB=>?_
 repeat' first|refine sk58 ?_|intro b;conv=>whnf
 refine Dr.r ?_
 repeat' first|refine sk58 ?_|intro b;conv=>whnf
 refine dr7 ?_;refine aj5 (i:=11) (d:=.v (.pointer (some ⟨b,0,none⟩))) (d':=.ro (kndC kd)) (τ:=[(bk,.obj (MapO prog 3 (KF ks)))]) rfl (fun h=>by cases h) (Vs.ptr (tb:=85) (zH _)) ?_;refine ar5 mixed aa0 ?_
 repeat' first|refine sk59 ?_|intro b;conv=>whnf
 unfold codeF keyF;rw [aa8 hv];rcases h3 with h|h|h
 ·rw [if_pos h];by_cases hlo:n<d.lo
  ·rw [if_pos hlo,if_neg (by omega)]
   repeat' first|refine sk59 ?_|intro b;conv=>whnf
   exact Rt.by (Vs.drop (yG _ _)) ⟨rfl,rfl⟩
  ·rw [if_neg hlo,if_pos (And.intro h hlo)]
   repeat' first|refine sk59 ?_|intro b;conv=>whnf
   (refine OtE.yd rfl (aG6 (kv:=.int .i64 n) (u:=.bool (decide (n∈ks))) rfl rfl (KeyD.v _) (yQ _ (yN)) (fun _ h=>h) as7 underlying138 by7 (aH8 (wf64 hn1 hn2)) (cv1 _ _)) ?_)
   repeat' first|refine sk59 ?_|intro b;conv=>whnf
   refine OtE.mapUpdate (b:=bk) (F:=KF ks) (k:=3) (e:=4) (kv:=.int .i64 n) (τ:=[(b,.cells 97 (fldC d))]) rfl rfl (KeyD.v _) rfl (List.Perm.swap _ _ _) as7 underlying138 (aH8 (wf64 hn1 hn2)) ?_;rw [cj1]
   repeat' first|refine sk59 ?_|intro b;conv=>whnf
   exact Rt.by (Vs.drop (List.Sublist.cons_cons _ (yV _))) ⟨by simp,rfl⟩
 ·rw [if_neg (by omega),if_neg (by omega),if_neg (by omega),if_neg (by omega),if_neg (by omega),if_neg (by omega),if_neg (by omega),if_neg (by omega)]
  repeat' first|refine sk59 ?_|intro b;conv=>whnf
  exact Rt.by (Vs.drop (yG _ _)) ⟨rfl,rfl⟩
 ·have HC:=cu0 n d;rw [if_neg (by omega),if_pos (by omega),if_neg (by omega)]
  repeat' first|refine sk59 ?_|intro b;conv=>whnf
  refine CE.pk (APk.peek (.cons (Pk.same _) (.cons (Pk.ptr (j:=0) rfl (PkL.refl _)) .nil)) HC rfl) ?_
  repeat' first|refine sk59 ?_|intro b;conv=>whnf
  exact Rt.by (Vs.drop (yG _ _)) ⟨rfl,rfl⟩
end
section
open Go Go.Maps Go.MapKept
theorem bW3 (n:Int):APure prog 102 [iD n] (bD (!numOk n)):=by
 refine eP7 func102 ntmps102 fun BB=>?_
 repeat' first|refine sk2 ?_|intro b;conv=>whnf|with_reducible refine Br.d (fun hc=>?_) (fun hc=>?_)|with_reducible refine Br.b (fun hc=>?_) (fun hc=>?_)
 ·refine Rt.pure (zM bD ?_);unfold numOk;simp;omega
 ·refine Rt.pure (zM bD ?_);unfold numOk;simp;omega
theorem bX2 {f:FuncId} (l:List Int) (p:Int->Bool) (hl:l.length<=1000000) (hp:∀ y∈l,APure prog f [iD y] (bD (p y))):APure prog 152 [slI l,.v (.func (.func f) #[] #[])] (iD (idx p l)):=by
 refine eP7 func152 ntmps152 fun BB=>?_
 repeat' first|refine sk22 ?_|intro b;conv=>whnf
 refine ac6 mixed aa0 (γ:=Nat) (fun k=>[(8,iD k)]) (fun _=>[]) (fun k=>k<=l.length/\∀ i y,i<k->l[i]?=some y->p y=false) (fun k=>l.length-k) 0 rfl rfl ⟨by omega,by omega⟩ ?_;rintro k ⟨hk,hno⟩;by_cases hlt:k<l.length
 ·obtain⟨y,hy⟩:∃ y,l[(k:Int).toNat]?=some y:=⟨_,zD hlt⟩
  repeat' first|refine sk22 ?_|intro b;conv=>whnf|with_reducible refine Br.d (fun hc=>?_) (fun hc=>?_)|with_reducible refine Br.b (fun hc=>?_) (fun hc=>?_)
  ·refine Rt.pure (zM iD ?_);exact (ad3 hy ‹_› hno).symm
  ·exact⟨k+1,rfl,rfl,⟨by omega,fun i z hi hz=>by
    by_cases e:i=k
    ·subst e;rw [show ((i:Int)).toNat=i from rfl,hz] at hy;cases hy;assumption
    ·exact hno i z (by omega) hz⟩,by omega⟩
 ·repeat' first|refine sk22 ?_|intro b;conv=>whnf
  refine Rt.pure (zM iD ?_);exact (ai8 fun i y hy=>hno i y (by have:=(zE.1 hy).1;omega) hy).symm
theorem sk60 {A B:Prop} (k:B) (h:Hd7 B->A:=by intro q7;(first|refine sb0 ?_|refine sb1 ?_|(refine' cp7x ?hc ?_;(case hc=>exact bX2 l p hl hp)));exact q7.1):A:=h ⟨k⟩
theorem bJ8 {f:FuncId} (l:List Int) (p:Int->Bool) (hl:l.length<=1000000) (hp:∀ y∈l,APure prog f [iD y] (bD (p y))):APure prog 101 [slI l,.v (.func (.func f) #[] #[])] (bD (l.any p)):=by
 refine eP7 func101 ntmps101 fun BB=>?_
 repeat' first|refine sk60 ?_|intro b;conv=>whnf
 refine Rt.pure (zM bD ?_);exact al6 p l
theorem sk61 {A B:Prop} (k:B) (h:Hd7 B->A:=by intro q7;(first|refine sb0 ?_|refine sb1 ?_|(refine' cp7x ?hc ?_;(case hc=>exact bJ8 _ _ (by assumption) (fun y _=>bW3 y))));exact q7.1):A:=h ⟨k⟩
theorem cp0 (x:Sch) (k:Nat) (kd:Knd) (r:List Int) (hk:x.kz[k]?=some kd) (h1:x.kz.length<=1000000) (h2:r.length<=1000000):APure prog 100 [slI r,.ro (schC x),.ro [iD k]] (bD (!recOk x k r)):=by
 have hk':x.kz[((k:Nat):Int).toNat]?=some kd:=hk;have q1:=(zE.1 hk).1;have hE:(r.any fun n=>!numOk n)=!r.all numOk:=by rw [vJ];simp
 have hR:recOk x k r=(decide (r.length=kd.fields.length)&&r.all numOk):=by unfold recOk bO6;rw [hk]
 refine eP7 func100 ntmps100 fun BB=>?_;by_cases hl:r.length=kd.fields.length
 ·repeat' first|refine sk61 ?_|intro b;conv=>whnf
  refine Rt.pure (zM bD ?_);rw [hR,hE];simp [hl]
 ·repeat' first|refine sk61 ?_|intro b;conv=>whnf
  refine Rt.pure (zM bD ?_);rw [hR];simp [hl]
theorem cr4 {f:FuncId} {c1 c2:List D} (l:List (List Int)) (p:List Int->Bool) (hl:l.length<=1000000) (hp:∀ y∈l,APure prog f [slI y,.ro c1,.ro c2] (bD (p y))):APure prog 151 [slW1 l,.clo f [.ro c1,.ro c2]] (iD (idx p l)):=by
 refine eP7 func151 ntmps151 fun BB=>?_
 repeat' first|refine sk22 ?_|intro b;conv=>whnf
 refine ac6 mixed aa0 (γ:=Nat) (fun k=>[(8,iD k)]) (fun _=>[]) (fun k=>k<=l.length/\∀ i y,i<k->l[i]?=some y->p y=false) (fun k=>l.length-k) 0 rfl rfl ⟨by omega,by omega⟩ ?_;rintro k ⟨hk,hno⟩;by_cases hlt:k<l.length
 ·obtain⟨y,hy⟩:∃ y,l[(k:Int).toNat]?=some y:=⟨_,zD hlt⟩
  repeat' first|refine sk22 ?_|intro b;conv=>whnf|with_reducible refine Br.d (fun hc=>?_) (fun hc=>?_)|with_reducible refine Br.b (fun hc=>?_) (fun hc=>?_)
  ·refine Rt.pure (zM iD ?_);exact (ad3 hy ‹_› hno).symm
  ·exact⟨k+1,rfl,rfl,⟨by omega,fun i z hi hz=>by
    by_cases e:i=k
    ·subst e;rw [show ((i:Int)).toNat=i from rfl,hz] at hy;cases hy;assumption
    ·exact hno i z (by omega) hz⟩,by omega⟩
 ·repeat' first|refine sk22 ?_|intro b;conv=>whnf
  refine Rt.pure (zM iD ?_);exact (ai8 fun i y hy=>hno i y (by have:=(zE.1 hy).1;omega) hy).symm
theorem sk62 {A B:Prop} (k:B) (h:Hd7 B->A:=by intro q7;(first|refine sb0 ?_|refine sb1 ?_|(refine' cp7x ?hc ?_;(case hc=>exact cr4 l p hl hp)));exact q7.1):A:=h ⟨k⟩
theorem cu6 {f:FuncId} {c1 c2:List D} (l:List (List Int)) (p:List Int->Bool) (hl:l.length<=1000000) (hp:∀ y∈l,APure prog f [slI y,.ro c1,.ro c2] (bD (p y))):APure prog 99 [slW1 l,.clo f [.ro c1,.ro c2]] (bD (l.any p)):=by
 refine eP7 func99 ntmps99 fun BB=>?_
 repeat' first|refine sk62 ?_|intro b;conv=>whnf
 refine Rt.pure (zM bD ?_);exact al6 p l
theorem cd6 (l:List Lif):APure prog 103 [slL l] (.clo 153 [.ro [slL l]]):=by
 refine eP7 func103 ntmps103 fun BB=>?_
 repeat' first|refine sk2 ?_|intro b;conv=>whnf
 exact Rt.pure rfl
end
section
open Go Go.RowKit Go.Shelf
attribute [local go_sem] Oper.semAt_some
def uA:=@Nat.eq_zero_or_pos
theorem ch2 (n:Nat) (hn:n<=1000) (l:Nat) (O:Nat->Prop) (J Jx:Nat->World->Prop) (W:World) (b0 o0:Nat) (ad:Option Addr) (cap:Nat) (va:Nat->Nat->Value)
  (h0b:¬ O b0/\b0<W.heap.size) (h0:W.cell? ⟨b0,o0,none⟩=some (.slice ad n cap))
  (h1:∀ (k:Nat),k<n->∃ b off,ad=some ⟨b,off,none⟩/\¬ O b/\b<W.heap.size/\∀ j,j<3->W.cell? ⟨b,off+k*3+j,none⟩=some (va k j))
  (hY:∀ (k j:Nat) W1,k+j+1=n->J k W1->YieldAt Fence.wide 7 prog l #[.int .i64 (j:Nat),.agg #[va j 0,va j 1,va j 2]] W1 fun e W'=>
    (e = .returned (.bool true)/\J (k+1) W'/\W1.heap.size<=W'.heap.size/\∀ b,b<W.heap.size->¬ O b->W'.heap[b]?=W1.heap[b]?)\/(e = .returned (.bool false)/\Jx (k+1) W'))
  (hJ:J 0 W):CallsIn Fence.wide 8 prog 153 #[.func (.yield l) #[] #[],.pointer (some ⟨b0,o0,none⟩)] W fun e W'=>∃ v,e = .returned v/\(J n W'\/∃ k,Jx k W'):=by
 refine callsIn_of_wp func153 rfl trivial ?_ rfl;simp only [ntmps153,List.size_toArray,List.length_cons,List.length_nil,Nat.reduceAdd,Nat.reduceSub,Array.replicate_succ,Array.replicate_zero,List.push_toArray,List.append_toArray,List.nil_append,List.cons_append];have cellK:∀ (wr:World),(∀ b,b<W.heap.size->¬ O b->wr.heap[b]?=W.heap[b]?)->∀ (b o:Nat) (v:Value),b<W.heap.size->¬ O b->W.cell? ⟨b,o,none⟩=some v->wr.cell? ⟨b,o,none⟩=some v:=
  fun wr h b o v hb hn hc=>(World.cell?_of_block (w:=W) (a:=⟨b,o,none⟩) (h b hb hn)).trans hc
 gi_wp2
 gi_loopw [3] (fun i wr=>∃ k:Nat,((∃ j:Nat,k+j+1=n/\i = .int .i64 j)\/(k=n/\i = .int .i64 (-1)))/\J k wr/\W.heap.size<=wr.heap.size/\∀ b,b<W.heap.size->¬ O b->wr.heap[b]?=W.heap[b]?) (fun i _=>(intOf i+1).toNat)
 case atStart=>
  refine⟨0,?_,hJ,zT _,fun _ _ _=>rfl⟩;rcases uA n with e|e
  ·exact .inr ⟨e.symm,by subst e;rfl⟩
  ·exact .inl ⟨n-1,by omega,by congr 1;omega⟩
 case round=>
  obtain⟨k,hi,hJs,hzs,hks⟩:=hrel;rcases hi with ⟨j,hj,rfl⟩|⟨rfl,rfl⟩
  ·obtain⟨b,off,rfl,hb1,hb2,hb3⟩:=h1 j (by omega);have hs0:=cellK wr hks b0 o0 _ h0b.2 h0b.1 h0;have hc0:wr.cell? ⟨b,off+j*3,none⟩=some (va j 0):=cellK wr hks b (off+j*3+0) _ hb2 hb1 (hb3 0 (by omega));have hc1:=cellK wr hks b (off+j*3+1) _ hb2 hb1 (hb3 1 (by omega));have hc2:=cellK wr hks b (off+j*3+2) _ hb2 hb1 (hb3 2 (by omega));obtain⟨fn,tmps,assign,body,hy,hR⟩:=hY k j wr hj hJs
   gi_wp2
   refine hR.mono ?_;rintro e W3 (⟨rfl,hJ3,hz3,hk3⟩|⟨rfl,hJx3⟩)
   ·gi_wp2
    go_roundw
    case rel=>
     refine⟨k+1,?_,hJ3,xH hzs hz3,fun b hb hn=>(hk3 b hb hn).trans (hks b hb hn)⟩;rcases uA j with e|e
     ·exact .inr ⟨by omega,by subst e;rfl⟩
     ·exact .inl ⟨j-1,by omega,by congr 1;omega⟩
    case measure=>simp [intOf]
   ·gi_wp2
    refine bodyPost_ret (results_none rfl _ _ _) rfl ?_;exact⟨_,rfl,.inr ⟨_,hJx3⟩⟩
  ·gi_wp2
   go_end0
   exact⟨_,rfl,.inl hJs⟩
def cu5 (l:List Lif) (j:Nat):List D:=match l[j]? with
 | some x=>[iD j,lifD x]
 | none=>[]
def bh1 (l:List Lif):List (List D):=((List.range l.length).reverse).map (cu5 l)
theorem aR3 (l:List Lif):(bh1 l).length=l.length:=by simp [bh1]
def vS:=@List.getElem?_reverse
def vU:=@List.length_range
theorem aR4 {l:List Lif} {k:Nat} {x:List D} (h:(bh1 l)[k]?=some x):∃ (j:Nat) (y:Lif),k+j+1=l.length/\l[j]?=some y/\x=[iD j,lifD y]:=by
 have hk:=(zE.1 h).1;rw [aR3] at hk;unfold bh1 at h;rw [zP,vS (by simpa using hk),vU,xV (by omega)] at h;simp only [Option.map_some,xB] at h;obtain⟨y,hy⟩:∃ y,l[l.length-1-k]?=some y:=⟨_,zD (by omega)⟩
 exact⟨l.length-1-k,y,by omega,hy,by rw [← h];unfold cu5;rw [hy]⟩
theorem bI5 (l:List Lif) (hl:l.length<=1000):cj2 prog 153 [.ro [slL l]] (bh1 l):=by
 refine⟨enters_of func153 (by kernel_rfl) rfl,fun O W lb hlb=>?_⟩
 cases lb with
 | nil=>have:=hlb.len;simp at this
 | cons u lb=>
  have:lb=[]:=by have:=hlb.len;simpa using this
  subst this;obtain⟨b0,o0,va0,rfl,g1,g2,g3,g4⟩:=(hlb.at_ 0 _ u rfl rfl).ro_inv;obtain⟨ad,cap,va,e1,hcap,hk1,hc1,hr1⟩:=(g4 0 _ rfl).sl_inv;have hcell:=g3 0 (by simp);rw [e1,zL] at hcell;refine⟨((List.range l.length).reverse).map fun j=>[.int .i64 (j:Nat),.agg #[va j 0,va j 1,va j 2]],by simp [bh1],fun k x vs hx hv=>?_,fun q J Jx hJs hJxs hY hJ=>?_⟩
  ·obtain⟨j,y,h1,h2,rfl⟩:=aR4 hx;have hkl:k<l.length:=by omega
   rw [zP,vS (by simpa using hkl),vU,xV (by omega)] at hv;simp only [Option.map_some,xB] at hv;have hj:l.length-1-k=j:=by omega
   rw [hj] at hv;subst hv;have hy:(l.map lifC)[j]?=some (lifC y):=by rw [zP,h2];rfl
   refine .cons (.v _) (.cons (Rd.agg (lifC y) [va j 0,va j 1,va j 2] rfl fun i d u q1 q2=>?_) .nil)
   match i,q1,q2 with
   | 0,q1,q2=>cases q2;exact hr1 j _ hy 0 d q1
   | 1,q1,q2=>cases q2;exact hr1 j _ hy 1 d q1
   | 2,q1,q2=>cases q2;exact hr1 j _ hy 2 d q1
   | i+3,q1,q2=>simp at q2
  ·refine CallsIn.mono (ch2 l.length hl q O J Jx W b0 o0 ad cap va ⟨g1,g2⟩ (by simpa using hcell) (fun k hk=>?_) (fun k j W1 hkj hJ1=>hY k _ W1 ?_ hJ1) hJ) (fun e W' h=>by rw [aR3];simpa using h)
   ·obtain⟨b,off,ha,q1,q2,q3⟩:=hc1 k (lifC l[k]) (by rw [zP,zD hk];rfl);exact⟨b,off,ha,q1,q2,q3⟩
   ·rw [zP,vS (by simp;omega),vU,xV (by omega)];simp only [Option.map_some,xB];rw [show l.length-1-k=j by omega]
end
end Go.Proofs.YtlcfiilejnnlnaaGreatDoor
