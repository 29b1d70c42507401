/- A part of the proof: Te Ml R10f Tf Ke Kf Kg Po. -/
import Derived.Test.YtjbbmjjildhfbaaGreatDoorP14
set_option maxRecDepth 100000
set_option maxHeartbeats 4000000
set_option linter.unusedVariables false
set_option linter.unusedSimpArgs false
namespace Go.Proofs.YtjbbmjjildhfbaaGreatDoor
section
open Go
theorem sk65 {A B:Prop} (k:B) (h:Hd7 B→A:=by intro hk7q;(first|refine sb0 ?_|refine sb1 ?_|((with_reducible refine' Cp.by ?hc ?_);(case hc=>first|exact ac9 _ _|exact ac8 _ _ _ _|exact ao2 _ _ _ _ _ _ _ _|exact am1 _ _ (by assumption)))|((with_reducible refine' CE.pure ?hc ?_);(case hc=>first|exact ac9 _ _|exact ac8 _ _ _ _|exact ao2 _ _ _ _ _ _ _ _|exact am1 _ _ (by assumption))));exact hk7q.run):A:=h ⟨k⟩
theorem ty_kindE (x:Sch) (i:Nat) (k:Knd) (hl:x.kinds.length≤1000000) (hk:x.kinds[i]?=some k):APure Tryz.prog 86 [schD x,iD i] (iD (am9 x i k)):=by
 have hk:x.kinds[((i:Nat):Int).toNat]?=some k:=hk
 have hil:=(List.getElem?_eq_some_iff.1 hk).1
 refine APure.of_call (aa4 mixed aa0 Tryz.func86 (by kernel_rfl) rfl Tryz.ntmps86 rfl ?_);intro BB
 rcases hfs:k.fields with _|⟨g,r⟩
 ·have h0:k.fields.length=0:=by rw [hfs];rfl
  repeat' (first|refine sk65 ?_|(intro b;conv=>whnf)|(with_reducible refine Br.d (fun hc=>?_) (fun hc=>?_))|(with_reducible refine Br.b (fun hc=>?_) (fun hc=>?_)))
  all_goals (refine Rt.pure (congrArg iD ?_);rw [ar1];unfold am9 bf1;rw [hfs];simp [*])
 ·have hg:k.fields[(0:Int).toNat]?=some g:=by rw [hfs];rfl
  have h0:0<k.fields.length:=by rw [hfs];simp
  repeat' (first|refine sk65 ?_|(intro b;conv=>whnf)|(with_reducible refine Br.d (fun hc=>?_) (fun hc=>?_))|(with_reducible refine Br.b (fun hc=>?_) (fun hc=>?_)))
  all_goals (refine Rt.pure (congrArg iD ?_);rw [ar1];unfold am9 bf1;rw [hfs];simp [*])
theorem ty_rule1 (y r:Rul):APure Tryz.prog 117 [rulD y,.ro (rulC r)] (bD (seq y.name r.name)):=by
 refine APure.of_call (aa4 mixed aa0 Tryz.func117 (by kernel_rfl) rfl Tryz.ntmps117 rfl ?_);intro BB
 repeat' (first|refine sk2 ?_|(intro b;conv=>whnf))
 refine Rt.pure (congrArg bD ?_);rfl
def ruI (x:Sch) (k:Knd) (o:Int) (r:Rul) (g:Nat × Bool × Bool):Prop:=(g.1=0∧g.2.1=false∧g.2.2=false)∨(g.1=1∧g.2.1=ae9 x k o r.a∧g.2.2=ac7 x k o r.a)∨(g.1=2∧g.2.1=(ae9 x k o r.a || ae9 x k o r.b)∧g.2.2=(ac7 x k o r.a || ac7 x k o r.b))
theorem sk66 {A B:Prop} (k:B) (h:Hd7 B→A:=by intro hk7q;(first|refine sb0 ?_|refine sb1 ?_|((with_reducible refine' Cp.by ?hc ?_);(case hc=>first|exact ac9 _ _|exact ac8 _ _ _ _|exact ao2 _ _ _ _ _ _ _ _|exact HR|exact HF|exact HAT|exact am1 _ _ (by assumption)))|((with_reducible refine' CE.pure ?hc ?_);(case hc=>first|exact ac9 _ _|exact ac8 _ _ _ _|exact ao2 _ _ _ _ _ _ _ _|exact HR|exact HF|exact HAT|exact am1 _ _ (by assumption))));exact hk7q.run):A:=h ⟨k⟩
theorem ty_rule_no (x:Sch) (i:Nat) (r:Rul) (hl:x.kinds.length≤1000000) (hrl:x.rules.length≤1000000) (hr:x.rules[i]?=some r) (hk:ab3 x r.kind<0):APure Tryz.prog 87 [schD x,iD i] (iD (aw6 x i r)):=by
 have hr:x.rules[((i:Nat):Int).toNat]?=some r:=hr
 have hil:=(List.getElem?_eq_some_iff.1 hr).1
 have HR:APure Tryz.prog 116 [.sl 5 ((x.rules.map rulC).take i),.clo 117 [.ro (rulC r)]] (bD (ae7 x i r)):=by
  rw [← List.map_take];exact any_rul (x.rules.take i) (fun s=>seq s.name r.name) (by simp;omega) (fun y _=>ty_rule1 y r)
 have hE:aw6 x i r=am5 [(ae7 x i r,7),(true,12),(false,13),(seq r.a r.b,1)]:=by
  have:ad9 x (ab3 x r.kind)=none:=by unfold ad9;rw [if_neg (by omega)]
  simp only [aw6,this]
 refine APure.of_call (aa4 mixed aa0 Tryz.func87 (by kernel_rfl) rfl Tryz.ntmps87 rfl ?_);intro BB
 repeat' (first|refine sk66 ?_|(intro b;conv=>whnf))
 refine CE.pk (APk.peek (.cons (Pk.same _) (.cons (Pk.clo (.cons (Pk.ptr (j:=0) rfl (PkL.refl _)) .nil)) .nil)) HR rfl) ?_
 repeat' (first|refine sk66 ?_|(intro b;conv=>whnf))
 refine aa9 mixed aa0 (γ:=Nat) (fun j=>[(37,iD j),(8,bD (decide (ab3 x r.kind<0))),(9,bD false)]) (fun _=>[(b,.cells 105 (rulC r))]) (fun j=>j≤2) (fun j=>2 - j) 0 (aa2 cl2) cl3 (by omega) ?_
 rintro j hj
 obtain rfl|rfl|rfl:j=0∨j=1∨j=2:=by omega
 ·repeat' (first|refine sk66 ?_|(intro b;conv=>whnf)|(with_reducible refine Br.d (fun hc=>?_) (fun hc=>?_))|(with_reducible refine Br.b (fun hc=>?_) (fun hc=>?_)))
  all_goals exact ⟨1,(aa2 cl2),cl3,by omega,by omega⟩
 ·repeat' (first|refine sk66 ?_|(intro b;conv=>whnf)|(with_reducible refine Br.d (fun hc=>?_) (fun hc=>?_))|(with_reducible refine Br.b (fun hc=>?_) (fun hc=>?_)))
  all_goals exact ⟨2,(aa2 cl2),cl3,by omega,by omega⟩
 ·repeat' (first|refine sk66 ?_|(intro b;conv=>whnf)|(with_reducible refine Br.d (fun hc=>?_) (fun hc=>?_))|(with_reducible refine Br.b (fun hc=>?_) (fun hc=>?_)))
  refine Rt.pure (congrArg iD ?_)
  rw [hE,decide_eq_true hk];rfl
theorem sk67 {A B:Prop} (k:B) (h:Hd7 B→A:=by intro hk7q;(first|refine sb0 ?_|refine sb1 ?_|((with_reducible refine' Cp.by ?hc ?_);(case hc=>first|exact ac9 _ _|exact ac8 _ _ _ _|exact ao2 _ _ _ _ _ _ _ _|exact HR|exact bb3 _ _ _|exact am1 _ _ (by assumption)|exact aj2 _ _ (by assumption)))|((with_reducible refine' CE.pure ?hc ?_);(case hc=>first|exact ac9 _ _|exact ac8 _ _ _ _|exact ao2 _ _ _ _ _ _ _ _|exact HR|exact bb3 _ _ _|exact am1 _ _ (by assumption)|exact aj2 _ _ (by assumption))));exact hk7q.run):A:=h ⟨k⟩
theorem ty_rule_yes (x:Sch) (i:Nat) (r:Rul) (k:Knd) (hl:x.kinds.length≤1000000) (hf:∀ k∈x.kinds,k.fields.length≤1000000) (hrl:x.rules.length≤1000000) (hr:x.rules[i]?=some r) (h0:0≤ab3 x r.kind) (hk:x.kinds[(ab3 x r.kind).toNat]?=some k):APure Tryz.prog 87 [schD x,iD i] (iD (aw6 x i r)):=by
 have hr:x.rules[((i:Nat):Int).toNat]?=some r:=hr
 have hil:=(List.getElem?_eq_some_iff.1 hr).1
 have hfk:=hf k (List.mem_of_getElem? hk)
 have HR:APure Tryz.prog 116 [.sl 5 ((x.rules.map rulC).take i),.clo 117 [.ro (rulC r)]] (bD (ae7 x i r)):=by
  rw [← List.map_take];exact any_rul (x.rules.take i) (fun s=>seq s.name r.name) (by simp;omega) (fun y _=>ty_rule1 y r)
 have hE:aw6 x i r=am5 [(ae7 x i r,7),(ae9 x k (ab3 x r.kind) r.a || ae9 x k (ab3 x r.kind) r.b,12),(ac7 x k (ab3 x r.kind) r.a || ac7 x k (ab3 x r.kind) r.b,13),(seq r.a r.b,1)]:=by
  have:ad9 x (ab3 x r.kind)=some k:=by unfold ad9;rw [if_pos h0];exact hk
  simp only [aw6,this]
 refine APure.of_call (aa4 mixed aa0 Tryz.func87 (by kernel_rfl) rfl Tryz.ntmps87 rfl ?_);intro BB
 repeat' (first|refine sk67 ?_|(intro b;conv=>whnf))
 refine CE.pk (APk.peek (.cons (Pk.same _) (.cons (Pk.clo (.cons (Pk.ptr (j:=0) rfl (PkL.refl _)) .nil)) .nil)) HR rfl) ?_
 clear HR
 repeat' (first|refine sk67 ?_|(intro b;conv=>whnf))
 refine aa9 mixed aa0 (γ:=Nat × Bool × Bool) (fun g=>[(37,iD g.1),(8,bD g.2.1),(9,bD g.2.2)]) (fun _=>[(b,.cells 105 (rulC r))]) (ruI x k (ab3 x r.kind) r) (fun g=>2 - g.1) (0,decide (ab3 x r.kind<0),false) (aa2 cl2) cl3 (.inl ⟨rfl,by simp;omega,rfl⟩) ?_
 rintro ⟨j,m,w⟩ (⟨rfl,rfl,rfl⟩|⟨rfl,rfl,rfl⟩|⟨rfl,rfl,rfl⟩)
 ·repeat' (first|refine sk67 ?_|(intro b;conv=>whnf)|(with_reducible refine Br.d (fun hc=>?_) (fun hc=>?_))|(with_reducible refine Br.b (fun hc=>?_) (fun hc=>?_)))
  all_goals (refine ⟨(1,ae9 x k (ab3 x r.kind) r.a,ac7 x k (ab3 x r.kind) r.a),aa2 (.cons rfl (.cons ?_ (.cons ?_ cl2))),cl3,.inr (.inl ⟨rfl,rfl,rfl⟩),by simp only;omega⟩ <;> (refine congrArg (fun b=>some (bD b)) ?_;clear hE;simp only [ae9,ac7,← eqE];generalize (r.a.toList == ({ data:=#[] }:ByteArray).toList)=ea at *;generalize (atR x (ab3 x r.kind) (ab6 k r.a)).1.kind=K at *;first|(simp [*];done)|(by_cases h4:K=4 <;> by_cases h2:K=2 <;> simp_all)))
 ·repeat' (first|refine sk67 ?_|(intro b;conv=>whnf)|(with_reducible refine Br.d (fun hc=>?_) (fun hc=>?_))|(with_reducible refine Br.b (fun hc=>?_) (fun hc=>?_)))
  all_goals (refine ⟨(2,ae9 x k (ab3 x r.kind) r.a || ae9 x k (ab3 x r.kind) r.b,ac7 x k (ab3 x r.kind) r.a || ac7 x k (ab3 x r.kind) r.b),aa2 (.cons rfl (.cons ?_ (.cons ?_ cl2))),cl3,.inr (.inr ⟨rfl,rfl,rfl⟩),by simp only;omega⟩ <;> (refine congrArg (fun b=>some (bD b)) ?_;clear hE;generalize ae9 x k (ab3 x r.kind) r.a=na at *;generalize ac7 x k (ab3 x r.kind) r.a=nb at *;simp only [ae9,ac7,← eqE];generalize (r.b.toList == ({ data:=#[] }:ByteArray).toList)=eb at *;generalize (atR x (ab3 x r.kind) (ab6 k r.b)).1.kind=K at *;first|(simp [*];done)|(by_cases h4:K=4 <;> by_cases h2:K=2 <;> simp_all)))
 ·repeat' (first|refine sk67 ?_|(intro b;conv=>whnf)|(with_reducible refine Br.d (fun hc=>?_) (fun hc=>?_))|(with_reducible refine Br.b (fun hc=>?_) (fun hc=>?_)))
  refine Rt.pure (congrArg iD ?_)
  rw [hE];rfl
theorem ty_ruleE (x:Sch) (i:Nat) (r:Rul) (hl:x.kinds.length≤1000000) (hf:∀ k∈x.kinds,k.fields.length≤1000000) (hrl:x.rules.length≤1000000) (hr:x.rules[i]?=some r):APure Tryz.prog 87 [schD x,iD i] (iD (aw6 x i r)):=by
 by_cases h0:ab3 x r.kind<0
 ·exact ty_rule_no x i r hl hrl hr h0
 ·have hlt:ab3 x r.kind<x.kinds.length:=aT3 _ _
  exact ty_rule_yes x i r _ hl hf hrl hr (by omega) (List.getElem?_eq_getElem (by omega))
end
section
open Go Go.Maps Go.MapKept
theorem ad5 {ρ:Operand→D} {σ:aa1} {o:Oper} (ho:o.op = .load 161 (.global 0)) (hρ:ρ (.global 0) = .v (.pointer (some ⟨0,0,none⟩))) :
  Yd Tryz.prog o ρ σ (.gl 0):=by
 intro w X η hη hst
 obtain ⟨dst,op,ty,pos,aft,g⟩:=o
 simp only at ho
 subst ho
 have hp:=(hη (.global 0) (by simp [Op.operands])).val hρ
 obtain ⟨r,h1,h2,h3⟩:=hst.gok.checks
 obtain ⟨g1,g2⟩:=aR1 (aa0 161 _ rfl) w
 refine af8 (s:=Instr.loadAt 161 (η (.global 0))) (u:=.map (some r)) ?_ (Ex.refl w) (.gl _ _ (hst.gok.no _ (by decide)) (Nat.lt_of_lt_of_le (by decide) hst.gok.sz) h1)
 rw [hp]
 exact as0 g1 h1
def chkB (n:Int):Bool:=(aggF chkM (.int .i64 n)).isSome
def chkD (n:Int):D:=.agg [.v (((chkM (.int .i64 n))).getD .nilFunc)]
theorem yd_look {ρ:Operand→D} {σ:aa1} {o:Oper} {x i:Operand} {n:Int} (ho:o.op = .lookup 161 x i true) (hx:ρ x = .gl 0) (hi:ρ i = .v (.int .i64 n)) (hn:0≤n∧n≤8) :
  Yd Tryz.prog o ρ σ (.tup [chkD n,.v (.bool (chkB n))]):=by
 intro w X η hη hst
 obtain ⟨dst,op,ty,pos,aft,g⟩:=o
 simp only at ho
 subst ho
 have h0:=hη x (by simp [Op.operands])
 rw [hx] at h0
 have hv:=(hη i (by simp [Op.operands])).val hi
 obtain ⟨r,h1,h2,h3⟩:=hst.gok.checks
 have hxv:η x = .map (some r):=by
  generalize hq:D.gl 0=q at h0
  generalize η x=u at h0
  cases h0 <;> cases hq
  rename_i q' _ _ hc
  rw [h1] at hc;cases hc;rfl
 have hwf:(Lit.int .i64 n).wf=true:=by
  have:n=0∨n=1∨n=2∨n=3∨n=4∨n=5∨n=6∨n=7∨n=8:=by omega
  rcases this with rfl|rfl|rfl|rfl|rfl|rfl|rfl|rfl|rfl <;> rfl
 have hz:(zeroValue 159).run Tryz.prog w = .ok (.agg #[.nilFunc]) w:=by
  have:(Tryz.prog.info? 159).map (fun i=>i.zero)=some (some (.agg #[.nilFunc])):=by kernel_rfl
  cases hi:Tryz.prog.info? 159 with
  | none=>rw [hi] at this;cases this
  | some inf=>
   rw [hi] at this
   simp only [Option.map_some,Option.some.injEq] at this
   simp [zeroValue,typeInfo,program,Sem.run,hi,this]
 have hrun:=h3.look_ok (int_keyed Tryz.underlying3) Tryz.underlying161 hz (keyOf_int_mk Tryz.underlying3 hwf)
 refine af8 (s:=Instr.lookup 161 (η x) (η i) true) (by rw [hxv,hv];exact hrun) (Ex.refl w) ?_
 have e:(aggF chkM (.int .i64 n)).getD (.agg #[.nilFunc]) = .agg #[(chkM (.int .i64 n)).getD .nilFunc]:=by
  unfold aggF;cases chkM (.int .i64 n) <;> rfl
 rw [e]
 have h5:=RdL.cons (w:=w) (O:=Own σ X) (Rd.agg [.v ((chkM (.int .i64 n)).getD .nilFunc)] [(chkM (.int .i64 n)).getD .nilFunc] rfl (RdL.vals [(chkM (.int .i64 n)).getD .nilFunc]).at_) (RdL.cons (Rd.v (.bool (chkB n))) RdL.nil)
 exact Rd.tup [chkD n,.v (.bool (chkB n))] _ h5.len h5.at_
end
section
open Go
theorem sk68 {A B:Prop} (k:B) (h:Hd7 B→A:=by intro hk7q;(first|refine sb0 ?_|refine sb1 ?_|((with_reducible refine' Cp.by ?hc ?_);(case hc=>first|exact HV|exact bc8 _|exact ak2 _ _ (by assumption)|exact ai1 _ _ (by assumption)|exact bc7 _ _ _ _ (by assumption) (by assumption) (by assumption) (by assumption)|exact bc6 _ _ _ (by assumption) (by assumption) (by assumption) (by assumption)))|((with_reducible refine' CE.pure ?hc ?_);(case hc=>first|exact HV|exact bc8 _|exact ak2 _ _ (by assumption)|exact ai1 _ _ (by assumption)|exact bc7 _ _ _ _ (by assumption) (by assumption) (by assumption) (by assumption)|exact bc6 _ _ _ (by assumption) (by assumption) (by assumption) (by assumption))));exact hk7q.run):A:=h ⟨k⟩
end
section
open Go
theorem aj9 (b:Nat) (l:List Prb) (v:Value) (s:aa1) (k f r e:Int) (hr:RowIs 150 4 (l.map prbC) v s) (hl:l.length≤1000000) :
  ACall Tryz.prog 82 [iD k,iD f,iD r,iD e,.v (.pointer (some ⟨b,0,none⟩))] ((b,.cells 128 [.v v]) :: s)
   (fun d σ'=>∃ v' s',d = .v (.tuple #[])∧σ'=(b,.cells 128 [.v v']) :: s'∧RowIs 150 4 ((l ++ one k f r e).map prbC) v' s'):=by
 obtain ⟨a,c,rfl⟩:=hr.slice
 refine aa4 mixed aa0 Tryz.func82 (by kernel_rfl) rfl Tryz.ntmps82 rfl ?_;intro BB
 repeat' (first|refine sk2 ?_|(intro b;conv=>whnf)|(with_reducible refine Br.d (fun hc=>?_) (fun hc=>?_))|(with_reducible refine Br.b (fun hc=>?_) (fun hc=>?_)))
 ·refine Rt.same ⟨_,s,rfl,rfl,?_⟩
  unfold one;rw [if_pos (by omega)];simpa using hr
 ·refine Ap.go rfl rfl rfl rfl hr (perm1 _ _) rfl (zs:=(l ++ one k f r e).map prbC) (by unfold one;rw [if_neg (by omega)];simp [prbC]) (by simp [one];split <;> simp <;> omega) (by simp [one];split <;> simp <;> omega) (fun s'=>_ :: s') (bd6 _) (fun a' c' s' hr'=>?_)
  repeat' (first|refine sk2 ?_|(intro b;conv=>whnf))
  exact Rt.same ⟨_,s',rfl,rfl,hr'⟩
theorem ty_check2' (y l:Lif):APure Tryz.prog 84 [lifD y,.ro (lifC l)] (bD (seq y.name l.name)):=by
 refine APure.of_call (aa4 mixed aa0 Tryz.func84 (by kernel_rfl) rfl Tryz.ntmps84 rfl ?_);intro BB
 repeat' (first|refine sk2 ?_|(intro b;conv=>whnf))
 refine Rt.pure (congrArg bD ?_);rfl
theorem ae8 {ρ:Operand→D} {σ:aa1} {o:Oper} {x i:Operand} {m n:Int} (ho:o.op = .lookup 161 x i true) (hx:ρ x = .gl 0) (hi:ρ i = .v (.int .i64 m)) (hm:m=n) (hn:0≤n∧n≤8) :
  Yd Tryz.prog o ρ σ (.tup [chkD n,.v (.bool (chkB n))]):=by subst hm;exact yd_look ho hx hi hn
theorem kind8 {x:Sch} (hV:Vld x) {k:Knd} {f:Fld} (hk:k∈x.kinds) (hf:f∈k.fields):0≤f.kind∧f.kind≤8:=by
 have h1:=hV.kinds k hk
 simp only [ak9,Bool.and_eq_true,List.all_eq_true] at h1
 have h2:=h1.2 f hf
 simp only [ab0,Bool.and_eq_true] at h2
 have h3:=h2.2
 unfold al9 at h3
 repeat (split at h3;omega)
 cases h3
theorem av4 (x y z:Nat × Blk) (s:aa1):(x :: y :: z :: s).Perm (s ++ [x,y,z]):=List.perm_append_comm (l₁:=[x,y,z]) (l₂:=s)
theorem an0 (x y z:Nat × Blk) (s:aa1):(s ++ [x,y,z]).Perm (x :: y :: z :: s):=(av4 x y z s).symm
theorem sk69 {A B:Prop} (k:B) (h:Hd7 B→A:=by intro hk7q;(first|refine sb0 ?_|refine sb1 ?_|((with_reducible refine' Cp.by ?hc ?_);(case hc=>first|exact ac9 _ _|exact ac8 _ _ _ _|exact ao2 _ _ _ _ _ _ _ _|exact HV|exact ty_kindE _ _ _ (by assumption) (by assumption)|exact aj2 _ _ (by assumption)|exact HC|exact ty_ruleE _ _ _ (by assumption) (by assumption) (by assumption) (by assumption)))|((with_reducible refine' CE.pure ?hc ?_);(case hc=>first|exact ac9 _ _|exact ac8 _ _ _ _|exact ao2 _ _ _ _ _ _ _ _|exact HV|exact ty_kindE _ _ _ (by assumption) (by assumption)|exact aj2 _ _ (by assumption)|exact HC|exact ty_ruleE _ _ _ (by assumption) (by assumption) (by assumption) (by assumption))));exact hk7q.run):A:=h ⟨k⟩
theorem ty_check (x:Sch) (HV:APure Tryz.prog 81 [schD x] (iD (af9 x))):APure Tryz.prog 64 [schD x] (.sl 4 ((au4 x).map prbC)):=by
 refine APure.of_call (aa4 mixed aa0 Tryz.func64 (by kernel_rfl) rfl Tryz.ntmps64 rfl ?_);intro BB
 repeat' (first|refine sk69 ?_|(intro b;conv=>whnf)|refine IxM.mk fun y hy=>?_)
 by_cases hv:af9 x=0
 ·have hV:=vld_of0 hv
  have hl:x.kinds.length≤1000000:=by have:=hV.nk;omega
  have hf:∀ k∈x.kinds,k.fields.length≤1000000:=fun k hk=>by have:=hV.nf k hk;omega
  have hll:x.lives.length≤1000000:=by have:=hV.nl;omega
  have hrl:x.rules.length≤1000000:=by have:=hV.nr;omega
  have hP:au4 x=upTo x.lives.length (aN7 x) ++ upTo x.kinds.length (ak8 x) ++ upTo x.rules.length (aQ3 x):=by unfold au4;rw [if_pos hv]
  have hnk:=hV.nk
  have hnl:=hV.nl
  have hnr:=hV.nr
  have hnf:=hV.nf
  clear HV
  repeat' (first|refine sk69 ?_|(intro b;conv=>whnf)|refine IxM.mk fun y hy=>?_)
  generalize b=b4
  refine aa9 mixed aa0 (γ:=Nat × Value × aa1) (fun g=>[(28,iD g.1)]) (fun g=>(b4,.cells 128 [.v g.2.1]) :: g.2.2) (fun g=>g.1≤x.lives.length∧RowIs 150 4 ((upTo g.1 (aN7 x)).map prbC) g.2.1 g.2.2) (fun g=>x.lives.length - g.1) (0,.slice none 0 0,[]) (aa2 cl2) cl3 ⟨Nat.zero_le _,RowIs.nil _ _⟩ ?_
  rintro ⟨q,v,s⟩ ⟨hq,hrow⟩
  simp only at hq hrow ⊢
  repeat' (first|refine sk69 ?_|(intro b;conv=>whnf)|refine IxM.mk fun y hy=>?_|(with_reducible refine Br.d (fun hc=>?_) (fun hc=>?_))|(with_reducible refine Br.b (fun hc=>?_) (fun hc=>?_)))
  ·have hy:x.lives[q]?=some y:=hy
   have hS:=ag8 q (aN7 x)
   have hlen:=aj1 (be4 x) q
   rw [show aN7 x q=one (-1) q (-1) (if aE2 x q y then 7 else 0) by simp only [aN7,hy]] at hS
   have HR:APure Tryz.prog 83 [.sl 3 ((x.lives.map lifC).take q),.clo 84 [.ro (lifC y)]] (bD (aE2 x q y)):=by
    rw [← List.map_take];exact any_lif (x.lives.take q) (fun s=>seq s.name y.name) (by simp;omega) (fun z _=>ty_check2' z y)
   refine CE.pk (APk.peek (.cons (Pk.same _) (.cons (Pk.clo (.cons (Pk.ptr (j:=0) rfl (PkL.refl _)) .nil)) .nil)) HR rfl) ?_
   clear HR
   repeat' (first|refine sk69 ?_|(intro b;conv=>whnf)|refine IxM.mk fun y hy=>?_)
   refine CE.own (aj9 _ (upTo q (aN7 x)) _ _ _ _ _ _ (by assumption) (by (try simp only [List.length_append]);omega)) (perm1 _ _) (fun s'=>_ :: s') (bd6 _) ?_;rintro _ _ ⟨v',s',rfl,rfl,hr'⟩
   rw [ap0,← hS] at hr'
   repeat' (first|refine sk69 ?_|(intro b;conv=>whnf)|refine IxM.mk fun y hy=>?_)
   exact ⟨(q+1,v',s'),(aa2 cl2),cl3,⟨by simp only;omega,hr'⟩,by simp only;omega⟩
  ·obtain rfl:q=x.lives.length:=by omega
   have hlen1:=aj1 (be4 x) x.lives.length
   generalize hL:upTo x.lives.length (aN7 x)=L at *
   refine aa9 mixed aa0 (γ:=Nat × Value × aa1) (fun g=>[(50,iD g.1)]) (fun g=>(b4,.cells 128 [.v g.2.1]) :: g.2.2) (fun g=>g.1≤x.kinds.length∧RowIs 150 4 ((L ++ upTo g.1 (ak8 x)).map prbC) g.2.1 g.2.2) (fun g=>x.kinds.length - g.1) (0,v,s) (aa2 cl2) cl3 ⟨Nat.zero_le _,by simpa [upTo] using hrow⟩ ?_
   rintro ⟨q,v,s⟩ ⟨hq,hrow⟩
   simp only at hq hrow ⊢
   have hlen2:=aj1 (fun i=>kindP_len x i hnf) q
   repeat' (first|refine sk69 ?_|(intro b;conv=>whnf)|refine IxM.mk fun y hy=>?_|(with_reducible refine Br.d (fun hc=>?_) (fun hc=>?_))|(with_reducible refine Br.b (fun hc=>?_) (fun hc=>?_)))
   ·have hy:x.kinds[q]?=some y:=hy
    have hyf:=hnf y (List.mem_of_getElem? hy)
    have hyl:y.fields.length≤1000000:=by omega
    have ho1:=aN1 q (-1) (-1) (am9 x q y)
    have hSK:=ag8 q (ak8 x)
    rw [show ak8 x q=one q (-1) (-1) (am9 x q y) ++ upTo y.fields.length (ag3 x q y) by simp only [ak8,hy]] at hSK
    refine CE.own (aj9 _ (L ++ upTo q (ak8 x)) _ _ _ _ _ _ (by assumption) (by (try simp only [List.length_append]);omega)) (perm1 _ _) (fun s'=>_ :: s') (bd6 _) ?_;rintro _ _ ⟨v',s',rfl,rfl,hr'⟩
    repeat' (first|refine sk69 ?_|(intro b;conv=>whnf)|refine IxM.mk fun y hy=>?_)
    refine aa9 mixed aa0 (γ:=Nat × Value × aa1) (fun g=>[(64,iD g.1)]) (fun g=>(b,.cells 97 (kndC y)) :: (b4,.cells 128 [.v g.2.1]) :: g.2.2) (fun g=>g.1≤y.fields.length∧RowIs 150 4 ((L ++ upTo q (ak8 x) ++ one q (-1) (-1) (am9 x q y) ++ upTo g.1 (ag3 x q y)).map prbC) g.2.1 g.2.2) (fun g=>y.fields.length - g.1) (0,v',s') (aa2 cl2) cl3 ⟨Nat.zero_le _,by simpa [upTo] using hr'⟩ ?_
    generalize b=b10
    rintro ⟨j,v,s⟩ ⟨hj,hrow2⟩
    simp only at hj hrow2 ⊢
    have hlen3:=aj1 (aT8 x q y) j
    have hSF:=ag8 j (ag3 x q y)
    by_cases hjl:j<y.fields.length
    ·obtain ⟨f,hf0⟩:∃ f,y.fields[j]?=some f:=⟨_,List.getElem?_eq_getElem hjl⟩
     have hfa:fieldAt x q j=some f:=by rw [ah9 (by omega) (by omega) hy];exact hf0
     rw [show ag3 x q y j=one q j (-1) (aI5 x q y j f) by simp only [ag3,hf0]] at hSF
     have hk8:=kind8 hV (List.mem_of_getElem? hy) (List.mem_of_getElem? hf0)
     have hg8:∀ k∈x.kinds,∀ g∈k.fields,0≤g.kind∧g.kind≤8:=fun k hk g hg=>kind8 hV hk hg
     have hyf0:y.fields[((j:Nat):Int).toNat]?=some f:=hf0
     have hk9:f.kind=0∨f.kind=1∨f.kind=2∨f.kind=3∨f.kind=4∨f.kind=5∨f.kind=6∨f.kind=7∨f.kind=8:=by omega
     by_cases hfx:ab6 y f.name<(j:Int)
     ·have he:am5 [(decide (ab6 y f.name<(j:Int)),7)]=7:=by rw [ap0,if_pos (decide_eq_true hfx)]
      have hFE:aI5 x q y j f=7:=by unfold aI5;rw [if_pos hfx]
      rw [hFE] at hSF
      rcases hk9 with hk9|hk9|hk9|hk9|hk9|hk9|hk9|hk9|hk9
      ·have hcb:chkB 0=true:=by rfl
       repeat' (first|refine sk69 ?_|(intro b;conv=>whnf)|refine IxM.mk fun y hy=>?_)
       refine Ld.yd (ad5 rfl rfl) ?_
       repeat' (first|refine sk69 ?_|(intro b;conv=>whnf)|refine IxM.mk fun y hy=>?_)
       refine OtE.yd rfl (ae8 (n:=0) rfl rfl rfl hk9 (by omega)) ?_
       repeat' (first|refine sk69 ?_|(intro b;conv=>whnf)|refine IxM.mk fun y hy=>?_)
       refine CE.own (aj9 _ (L ++ upTo q (ak8 x) ++ one q (-1) (-1) (am9 x q y) ++ upTo j (ag3 x q y)) _ _ _ _ _ _ (by assumption) (by (try simp only [List.length_append]);omega)) (av4 _ _ _ _) (fun s'=>_ :: _ :: _ :: s') (an0 _ _ _) ?_
       rintro _ _ ⟨v',s',rfl,rfl,hr'⟩
       repeat' (first|refine sk69 ?_|(intro b;conv=>whnf)|refine IxM.mk fun y hy=>?_)
       exact ⟨(j+1,v',s'),(aa2 cl2),cl3,⟨by simp only;omega,by simp only;rw [hSF,← List.append_assoc];first|exact hr' | (rw [he] at hr';exact hr')|(rw [hFL];exact hr')⟩,by simp only;omega⟩
      ·have hcb:chkB 1=true:=by rfl
       repeat' (first|refine sk69 ?_|(intro b;conv=>whnf)|refine IxM.mk fun y hy=>?_)
       refine Ld.yd (ad5 rfl rfl) ?_
       repeat' (first|refine sk69 ?_|(intro b;conv=>whnf)|refine IxM.mk fun y hy=>?_)
       refine OtE.yd rfl (ae8 (n:=1) rfl rfl rfl hk9 (by omega)) ?_
       repeat' (first|refine sk69 ?_|(intro b;conv=>whnf)|refine IxM.mk fun y hy=>?_)
       refine CE.own (aj9 _ (L ++ upTo q (ak8 x) ++ one q (-1) (-1) (am9 x q y) ++ upTo j (ag3 x q y)) _ _ _ _ _ _ (by assumption) (by (try simp only [List.length_append]);omega)) (av4 _ _ _ _) (fun s'=>_ :: _ :: _ :: s') (an0 _ _ _) ?_
       rintro _ _ ⟨v',s',rfl,rfl,hr'⟩
       repeat' (first|refine sk69 ?_|(intro b;conv=>whnf)|refine IxM.mk fun y hy=>?_)
       exact ⟨(j+1,v',s'),(aa2 cl2),cl3,⟨by simp only;omega,by simp only;rw [hSF,← List.append_assoc];first|exact hr' | (rw [he] at hr';exact hr')|(rw [hFL];exact hr')⟩,by simp only;omega⟩
      ·have hcb:chkB 2=false:=by rfl
       repeat' (first|refine sk69 ?_|(intro b;conv=>whnf)|refine IxM.mk fun y hy=>?_)
       refine Ld.yd (ad5 rfl rfl) ?_
       repeat' (first|refine sk69 ?_|(intro b;conv=>whnf)|refine IxM.mk fun y hy=>?_)
       refine OtE.yd rfl (ae8 (n:=2) rfl rfl rfl hk9 (by omega)) ?_
       repeat' (first|refine sk69 ?_|(intro b;conv=>whnf)|refine IxM.mk fun y hy=>?_)
       refine CE.own (aj9 _ (L ++ upTo q (ak8 x) ++ one q (-1) (-1) (am9 x q y) ++ upTo j (ag3 x q y)) _ _ _ _ _ _ (by assumption) (by (try simp only [List.length_append]);omega)) (av4 _ _ _ _) (fun s'=>_ :: _ :: _ :: s') (an0 _ _ _) ?_
       rintro _ _ ⟨v',s',rfl,rfl,hr'⟩
       repeat' (first|refine sk69 ?_|(intro b;conv=>whnf)|refine IxM.mk fun y hy=>?_)
       exact ⟨(j+1,v',s'),(aa2 cl2),cl3,⟨by simp only;omega,by simp only;rw [hSF,← List.append_assoc];first|exact hr' | (rw [he] at hr';exact hr')|(rw [hFL];exact hr')⟩,by simp only;omega⟩
      ·have hcb:chkB 3=false:=by rfl
       repeat' (first|refine sk69 ?_|(intro b;conv=>whnf)|refine IxM.mk fun y hy=>?_)
       refine Ld.yd (ad5 rfl rfl) ?_
       repeat' (first|refine sk69 ?_|(intro b;conv=>whnf)|refine IxM.mk fun y hy=>?_)
       refine OtE.yd rfl (ae8 (n:=3) rfl rfl rfl hk9 (by omega)) ?_
       repeat' (first|refine sk69 ?_|(intro b;conv=>whnf)|refine IxM.mk fun y hy=>?_)
       refine CE.own (aj9 _ (L ++ upTo q (ak8 x) ++ one q (-1) (-1) (am9 x q y) ++ upTo j (ag3 x q y)) _ _ _ _ _ _ (by assumption) (by (try simp only [List.length_append]);omega)) (av4 _ _ _ _) (fun s'=>_ :: _ :: _ :: s') (an0 _ _ _) ?_
       rintro _ _ ⟨v',s',rfl,rfl,hr'⟩
       repeat' (first|refine sk69 ?_|(intro b;conv=>whnf)|refine IxM.mk fun y hy=>?_)
       exact ⟨(j+1,v',s'),(aa2 cl2),cl3,⟨by simp only;omega,by simp only;rw [hSF,← List.append_assoc];first|exact hr' | (rw [he] at hr';exact hr')|(rw [hFL];exact hr')⟩,by simp only;omega⟩
      ·have hcb:chkB 4=true:=by rfl
       repeat' (first|refine sk69 ?_|(intro b;conv=>whnf)|refine IxM.mk fun y hy=>?_)
       refine Ld.yd (ad5 rfl rfl) ?_
       repeat' (first|refine sk69 ?_|(intro b;conv=>whnf)|refine IxM.mk fun y hy=>?_)
       refine OtE.yd rfl (ae8 (n:=4) rfl rfl rfl hk9 (by omega)) ?_
       repeat' (first|refine sk69 ?_|(intro b;conv=>whnf)|refine IxM.mk fun y hy=>?_)
       refine CE.own (aj9 _ (L ++ upTo q (ak8 x) ++ one q (-1) (-1) (am9 x q y) ++ upTo j (ag3 x q y)) _ _ _ _ _ _ (by assumption) (by (try simp only [List.length_append]);omega)) (av4 _ _ _ _) (fun s'=>_ :: _ :: _ :: s') (an0 _ _ _) ?_
       rintro _ _ ⟨v',s',rfl,rfl,hr'⟩
       repeat' (first|refine sk69 ?_|(intro b;conv=>whnf)|refine IxM.mk fun y hy=>?_)
       exact ⟨(j+1,v',s'),(aa2 cl2),cl3,⟨by simp only;omega,by simp only;rw [hSF,← List.append_assoc];first|exact hr' | (rw [he] at hr';exact hr')|(rw [hFL];exact hr')⟩,by simp only;omega⟩
      ·have hcb:chkB 5=true:=by rfl
       repeat' (first|refine sk69 ?_|(intro b;conv=>whnf)|refine IxM.mk fun y hy=>?_)
       refine Ld.yd (ad5 rfl rfl) ?_
       repeat' (first|refine sk69 ?_|(intro b;conv=>whnf)|refine IxM.mk fun y hy=>?_)
       refine OtE.yd rfl (ae8 (n:=5) rfl rfl rfl hk9 (by omega)) ?_
       repeat' (first|refine sk69 ?_|(intro b;conv=>whnf)|refine IxM.mk fun y hy=>?_)
       refine CE.own (aj9 _ (L ++ upTo q (ak8 x) ++ one q (-1) (-1) (am9 x q y) ++ upTo j (ag3 x q y)) _ _ _ _ _ _ (by assumption) (by (try simp only [List.length_append]);omega)) (av4 _ _ _ _) (fun s'=>_ :: _ :: _ :: s') (an0 _ _ _) ?_
       rintro _ _ ⟨v',s',rfl,rfl,hr'⟩
       repeat' (first|refine sk69 ?_|(intro b;conv=>whnf)|refine IxM.mk fun y hy=>?_)
       exact ⟨(j+1,v',s'),(aa2 cl2),cl3,⟨by simp only;omega,by simp only;rw [hSF,← List.append_assoc];first|exact hr' | (rw [he] at hr';exact hr')|(rw [hFL];exact hr')⟩,by simp only;omega⟩
      ·have hcb:chkB 6=true:=by rfl
       repeat' (first|refine sk69 ?_|(intro b;conv=>whnf)|refine IxM.mk fun y hy=>?_)
       refine Ld.yd (ad5 rfl rfl) ?_
       repeat' (first|refine sk69 ?_|(intro b;conv=>whnf)|refine IxM.mk fun y hy=>?_)
       refine OtE.yd rfl (ae8 (n:=6) rfl rfl rfl hk9 (by omega)) ?_
       repeat' (first|refine sk69 ?_|(intro b;conv=>whnf)|refine IxM.mk fun y hy=>?_)
       refine CE.own (aj9 _ (L ++ upTo q (ak8 x) ++ one q (-1) (-1) (am9 x q y) ++ upTo j (ag3 x q y)) _ _ _ _ _ _ (by assumption) (by (try simp only [List.length_append]);omega)) (av4 _ _ _ _) (fun s'=>_ :: _ :: _ :: s') (an0 _ _ _) ?_
       rintro _ _ ⟨v',s',rfl,rfl,hr'⟩
       repeat' (first|refine sk69 ?_|(intro b;conv=>whnf)|refine IxM.mk fun y hy=>?_)
       exact ⟨(j+1,v',s'),(aa2 cl2),cl3,⟨by simp only;omega,by simp only;rw [hSF,← List.append_assoc];first|exact hr' | (rw [he] at hr';exact hr')|(rw [hFL];exact hr')⟩,by simp only;omega⟩
      ·have hcb:chkB 7=true:=by rfl
       repeat' (first|refine sk69 ?_|(intro b;conv=>whnf)|refine IxM.mk fun y hy=>?_)
       refine Ld.yd (ad5 rfl rfl) ?_
       repeat' (first|refine sk69 ?_|(intro b;conv=>whnf)|refine IxM.mk fun y hy=>?_)
       refine OtE.yd rfl (ae8 (n:=7) rfl rfl rfl hk9 (by omega)) ?_
       repeat' (first|refine sk69 ?_|(intro b;conv=>whnf)|refine IxM.mk fun y hy=>?_)
       refine CE.own (aj9 _ (L ++ upTo q (ak8 x) ++ one q (-1) (-1) (am9 x q y) ++ upTo j (ag3 x q y)) _ _ _ _ _ _ (by assumption) (by (try simp only [List.length_append]);omega)) (av4 _ _ _ _) (fun s'=>_ :: _ :: _ :: s') (an0 _ _ _) ?_
       rintro _ _ ⟨v',s',rfl,rfl,hr'⟩
       repeat' (first|refine sk69 ?_|(intro b;conv=>whnf)|refine IxM.mk fun y hy=>?_)
       exact ⟨(j+1,v',s'),(aa2 cl2),cl3,⟨by simp only;omega,by simp only;rw [hSF,← List.append_assoc];first|exact hr' | (rw [he] at hr';exact hr')|(rw [hFL];exact hr')⟩,by simp only;omega⟩
      ·have hcb:chkB 8=true:=by rfl
       repeat' (first|refine sk69 ?_|(intro b;conv=>whnf)|refine IxM.mk fun y hy=>?_)
       refine Ld.yd (ad5 rfl rfl) ?_
       repeat' (first|refine sk69 ?_|(intro b;conv=>whnf)|refine IxM.mk fun y hy=>?_)
       refine OtE.yd rfl (ae8 (n:=8) rfl rfl rfl hk9 (by omega)) ?_
       repeat' (first|refine sk69 ?_|(intro b;conv=>whnf)|refine IxM.mk fun y hy=>?_)
       refine CE.own (aj9 _ (L ++ upTo q (ak8 x) ++ one q (-1) (-1) (am9 x q y) ++ upTo j (ag3 x q y)) _ _ _ _ _ _ (by assumption) (by (try simp only [List.length_append]);omega)) (av4 _ _ _ _) (fun s'=>_ :: _ :: _ :: s') (an0 _ _ _) ?_
       rintro _ _ ⟨v',s',rfl,rfl,hr'⟩
       repeat' (first|refine sk69 ?_|(intro b;conv=>whnf)|refine IxM.mk fun y hy=>?_)
       exact ⟨(j+1,v',s'),(aa2 cl2),cl3,⟨by simp only;omega,by simp only;rw [hSF,← List.append_assoc];first|exact hr' | (rw [he] at hr';exact hr')|(rw [hFL];exact hr')⟩,by simp only;omega⟩
     ·have he:am5 [(decide (ab6 y f.name<(j:Int)),7)]=0:=by rw [ap0,if_neg (by simp;omega)]
      have hFL:aI5 x q y j f=ac2 x q j f:=by unfold aI5;rw [if_neg hfx]
      rcases hk9 with hk9|hk9|hk9|hk9|hk9|hk9|hk9|hk9|hk9
      ·have HC:=ty_check1 x q j f hk9
       have hcb:chkB 0=true:=by rfl
       repeat' (first|refine sk69 ?_|(intro b;conv=>whnf)|refine IxM.mk fun y hy=>?_)
       refine Ld.yd (ad5 rfl rfl) ?_
       repeat' (first|refine sk69 ?_|(intro b;conv=>whnf)|refine IxM.mk fun y hy=>?_)
       refine OtE.yd rfl (ae8 (n:=0) rfl rfl rfl hk9 (by omega)) ?_
       repeat' (first|refine sk69 ?_|(intro b;conv=>whnf)|refine IxM.mk fun y hy=>?_)
       refine CE.own (aj9 _ (L ++ upTo q (ak8 x) ++ one q (-1) (-1) (am9 x q y) ++ upTo j (ag3 x q y)) _ _ _ _ _ _ (by assumption) (by (try simp only [List.length_append]);omega)) (av4 _ _ _ _) (fun s'=>_ :: _ :: _ :: s') (an0 _ _ _) ?_
       rintro _ _ ⟨v',s',rfl,rfl,hr'⟩
       repeat' (first|refine sk69 ?_|(intro b;conv=>whnf)|refine IxM.mk fun y hy=>?_)
       exact ⟨(j+1,v',s'),(aa2 cl2),cl3,⟨by simp only;omega,by simp only;rw [hSF,← List.append_assoc];first|exact hr' | (rw [he] at hr';exact hr')|(rw [hFL];exact hr')⟩,by simp only;omega⟩
      ·have HC:=ty_check2 x q j f hl hf hk9
       have hcb:chkB 1=true:=by rfl
       repeat' (first|refine sk69 ?_|(intro b;conv=>whnf)|refine IxM.mk fun y hy=>?_)
       refine Ld.yd (ad5 rfl rfl) ?_
       repeat' (first|refine sk69 ?_|(intro b;conv=>whnf)|refine IxM.mk fun y hy=>?_)
       refine OtE.yd rfl (ae8 (n:=1) rfl rfl rfl hk9 (by omega)) ?_
       repeat' (first|refine sk69 ?_|(intro b;conv=>whnf)|refine IxM.mk fun y hy=>?_)
       refine CE.own (aj9 _ (L ++ upTo q (ak8 x) ++ one q (-1) (-1) (am9 x q y) ++ upTo j (ag3 x q y)) _ _ _ _ _ _ (by assumption) (by (try simp only [List.length_append]);omega)) (av4 _ _ _ _) (fun s'=>_ :: _ :: _ :: s') (an0 _ _ _) ?_
       rintro _ _ ⟨v',s',rfl,rfl,hr'⟩
       repeat' (first|refine sk69 ?_|(intro b;conv=>whnf)|refine IxM.mk fun y hy=>?_)
       exact ⟨(j+1,v',s'),(aa2 cl2),cl3,⟨by simp only;omega,by simp only;rw [hSF,← List.append_assoc];first|exact hr' | (rw [he] at hr';exact hr')|(rw [hFL];exact hr')⟩,by simp only;omega⟩
      ·have HC:ac2 x q j f=0:=by unfold ac2;simp [hk9]
       rw [hFL,HC] at hSF
       clear hFL HC
       have hcb:chkB 2=false:=by rfl
       repeat' (first|refine sk69 ?_|(intro b;conv=>whnf)|refine IxM.mk fun y hy=>?_)
       refine Ld.yd (ad5 rfl rfl) ?_
       repeat' (first|refine sk69 ?_|(intro b;conv=>whnf)|refine IxM.mk fun y hy=>?_)
       refine OtE.yd rfl (ae8 (n:=2) rfl rfl rfl hk9 (by omega)) ?_
       repeat' (first|refine sk69 ?_|(intro b;conv=>whnf)|refine IxM.mk fun y hy=>?_)
       refine CE.own (aj9 _ (L ++ upTo q (ak8 x) ++ one q (-1) (-1) (am9 x q y) ++ upTo j (ag3 x q y)) _ _ _ _ _ _ (by assumption) (by (try simp only [List.length_append]);omega)) (av4 _ _ _ _) (fun s'=>_ :: _ :: _ :: s') (an0 _ _ _) ?_
       rintro _ _ ⟨v',s',rfl,rfl,hr'⟩
       repeat' (first|refine sk69 ?_|(intro b;conv=>whnf)|refine IxM.mk fun y hy=>?_)
       exact ⟨(j+1,v',s'),(aa2 cl2),cl3,⟨by simp only;omega,by simp only;rw [hSF,← List.append_assoc];first|exact hr' | (rw [he] at hr';exact hr')|(rw [hFL];exact hr')⟩,by simp only;omega⟩
      ·have HC:ac2 x q j f=0:=by unfold ac2;simp [hk9]
       rw [hFL,HC] at hSF
       clear hFL HC
       have hcb:chkB 3=false:=by rfl
       repeat' (first|refine sk69 ?_|(intro b;conv=>whnf)|refine IxM.mk fun y hy=>?_)
       refine Ld.yd (ad5 rfl rfl) ?_
       repeat' (first|refine sk69 ?_|(intro b;conv=>whnf)|refine IxM.mk fun y hy=>?_)
       refine OtE.yd rfl (ae8 (n:=3) rfl rfl rfl hk9 (by omega)) ?_
       repeat' (first|refine sk69 ?_|(intro b;conv=>whnf)|refine IxM.mk fun y hy=>?_)
       refine CE.own (aj9 _ (L ++ upTo q (ak8 x) ++ one q (-1) (-1) (am9 x q y) ++ upTo j (ag3 x q y)) _ _ _ _ _ _ (by assumption) (by (try simp only [List.length_append]);omega)) (av4 _ _ _ _) (fun s'=>_ :: _ :: _ :: s') (an0 _ _ _) ?_
       rintro _ _ ⟨v',s',rfl,rfl,hr'⟩
       repeat' (first|refine sk69 ?_|(intro b;conv=>whnf)|refine IxM.mk fun y hy=>?_)
       exact ⟨(j+1,v',s'),(aa2 cl2),cl3,⟨by simp only;omega,by simp only;rw [hSF,← List.append_assoc];first|exact hr' | (rw [he] at hr';exact hr')|(rw [hFL];exact hr')⟩,by simp only;omega⟩
      ·have HC:=ty_check3 x q j f hl hf hfa hk9
       have hcb:chkB 4=true:=by rfl
       repeat' (first|refine sk69 ?_|(intro b;conv=>whnf)|refine IxM.mk fun y hy=>?_)
       refine Ld.yd (ad5 rfl rfl) ?_
       repeat' (first|refine sk69 ?_|(intro b;conv=>whnf)|refine IxM.mk fun y hy=>?_)
       refine OtE.yd rfl (ae8 (n:=4) rfl rfl rfl hk9 (by omega)) ?_
       repeat' (first|refine sk69 ?_|(intro b;conv=>whnf)|refine IxM.mk fun y hy=>?_)
       refine CE.own (aj9 _ (L ++ upTo q (ak8 x) ++ one q (-1) (-1) (am9 x q y) ++ upTo j (ag3 x q y)) _ _ _ _ _ _ (by assumption) (by (try simp only [List.length_append]);omega)) (av4 _ _ _ _) (fun s'=>_ :: _ :: _ :: s') (an0 _ _ _) ?_
       rintro _ _ ⟨v',s',rfl,rfl,hr'⟩
       repeat' (first|refine sk69 ?_|(intro b;conv=>whnf)|refine IxM.mk fun y hy=>?_)
       exact ⟨(j+1,v',s'),(aa2 cl2),cl3,⟨by simp only;omega,by simp only;rw [hSF,← List.append_assoc];first|exact hr' | (rw [he] at hr';exact hr')|(rw [hFL];exact hr')⟩,by simp only;omega⟩
      ·have HC:=ty_check4 x q j f hll hk9
       have hcb:chkB 5=true:=by rfl
       repeat' (first|refine sk69 ?_|(intro b;conv=>whnf)|refine IxM.mk fun y hy=>?_)
       refine Ld.yd (ad5 rfl rfl) ?_
       repeat' (first|refine sk69 ?_|(intro b;conv=>whnf)|refine IxM.mk fun y hy=>?_)
       refine OtE.yd rfl (ae8 (n:=5) rfl rfl rfl hk9 (by omega)) ?_
       repeat' (first|refine sk69 ?_|(intro b;conv=>whnf)|refine IxM.mk fun y hy=>?_)
       refine CE.own (aj9 _ (L ++ upTo q (ak8 x) ++ one q (-1) (-1) (am9 x q y) ++ upTo j (ag3 x q y)) _ _ _ _ _ _ (by assumption) (by (try simp only [List.length_append]);omega)) (av4 _ _ _ _) (fun s'=>_ :: _ :: _ :: s') (an0 _ _ _) ?_
       rintro _ _ ⟨v',s',rfl,rfl,hr'⟩
       repeat' (first|refine sk69 ?_|(intro b;conv=>whnf)|refine IxM.mk fun y hy=>?_)
       exact ⟨(j+1,v',s'),(aa2 cl2),cl3,⟨by simp only;omega,by simp only;rw [hSF,← List.append_assoc];first|exact hr' | (rw [he] at hr';exact hr')|(rw [hFL];exact hr')⟩,by simp only;omega⟩
      ·have HC:=ty_check5 x q j f (by omega) hl hf hk9
       have hcb:chkB 6=true:=by rfl
       repeat' (first|refine sk69 ?_|(intro b;conv=>whnf)|refine IxM.mk fun y hy=>?_)
       refine Ld.yd (ad5 rfl rfl) ?_
       repeat' (first|refine sk69 ?_|(intro b;conv=>whnf)|refine IxM.mk fun y hy=>?_)
       refine OtE.yd rfl (ae8 (n:=6) rfl rfl rfl hk9 (by omega)) ?_
       repeat' (first|refine sk69 ?_|(intro b;conv=>whnf)|refine IxM.mk fun y hy=>?_)
       refine CE.own (aj9 _ (L ++ upTo q (ak8 x) ++ one q (-1) (-1) (am9 x q y) ++ upTo j (ag3 x q y)) _ _ _ _ _ _ (by assumption) (by (try simp only [List.length_append]);omega)) (av4 _ _ _ _) (fun s'=>_ :: _ :: _ :: s') (an0 _ _ _) ?_
       rintro _ _ ⟨v',s',rfl,rfl,hr'⟩
       repeat' (first|refine sk69 ?_|(intro b;conv=>whnf)|refine IxM.mk fun y hy=>?_)
       exact ⟨(j+1,v',s'),(aa2 cl2),cl3,⟨by simp only;omega,by simp only;rw [hSF,← List.append_assoc];first|exact hr' | (rw [he] at hr';exact hr')|(rw [hFL];exact hr')⟩,by simp only;omega⟩
      ·have HC:=ty_check6 x q j f hl hf hk9
       have hcb:chkB 7=true:=by rfl
       repeat' (first|refine sk69 ?_|(intro b;conv=>whnf)|refine IxM.mk fun y hy=>?_)
       refine Ld.yd (ad5 rfl rfl) ?_
       repeat' (first|refine sk69 ?_|(intro b;conv=>whnf)|refine IxM.mk fun y hy=>?_)
       refine OtE.yd rfl (ae8 (n:=7) rfl rfl rfl hk9 (by omega)) ?_
       repeat' (first|refine sk69 ?_|(intro b;conv=>whnf)|refine IxM.mk fun y hy=>?_)
       refine CE.own (aj9 _ (L ++ upTo q (ak8 x) ++ one q (-1) (-1) (am9 x q y) ++ upTo j (ag3 x q y)) _ _ _ _ _ _ (by assumption) (by (try simp only [List.length_append]);omega)) (av4 _ _ _ _) (fun s'=>_ :: _ :: _ :: s') (an0 _ _ _) ?_
       rintro _ _ ⟨v',s',rfl,rfl,hr'⟩
       repeat' (first|refine sk69 ?_|(intro b;conv=>whnf)|refine IxM.mk fun y hy=>?_)
       exact ⟨(j+1,v',s'),(aa2 cl2),cl3,⟨by simp only;omega,by simp only;rw [hSF,← List.append_assoc];first|exact hr' | (rw [he] at hr';exact hr')|(rw [hFL];exact hr')⟩,by simp only;omega⟩
      ·have HC:=ty_check7 x q j f hl hf hg8 hk9
       have hcb:chkB 8=true:=by rfl
       repeat' (first|refine sk69 ?_|(intro b;conv=>whnf)|refine IxM.mk fun y hy=>?_)
       refine Ld.yd (ad5 rfl rfl) ?_
       repeat' (first|refine sk69 ?_|(intro b;conv=>whnf)|refine IxM.mk fun y hy=>?_)
       refine OtE.yd rfl (ae8 (n:=8) rfl rfl rfl hk9 (by omega)) ?_
       repeat' (first|refine sk69 ?_|(intro b;conv=>whnf)|refine IxM.mk fun y hy=>?_)
       refine CE.own (aj9 _ (L ++ upTo q (ak8 x) ++ one q (-1) (-1) (am9 x q y) ++ upTo j (ag3 x q y)) _ _ _ _ _ _ (by assumption) (by (try simp only [List.length_append]);omega)) (av4 _ _ _ _) (fun s'=>_ :: _ :: _ :: s') (an0 _ _ _) ?_
       rintro _ _ ⟨v',s',rfl,rfl,hr'⟩
       repeat' (first|refine sk69 ?_|(intro b;conv=>whnf)|refine IxM.mk fun y hy=>?_)
       exact ⟨(j+1,v',s'),(aa2 cl2),cl3,⟨by simp only;omega,by simp only;rw [hSF,← List.append_assoc];first|exact hr' | (rw [he] at hr';exact hr')|(rw [hFL];exact hr')⟩,by simp only;omega⟩
    ·obtain rfl:j=y.fields.length:=by omega
     repeat' (first|refine sk69 ?_|(intro b;conv=>whnf)|refine IxM.mk fun y hy=>?_|(with_reducible refine Br.d (fun hc=>?_) (fun hc=>?_))|(with_reducible refine Br.b (fun hc=>?_) (fun hc=>?_)))
     exact ⟨(q+1,v,s),(aa2 cl2),cl3,⟨by simp only;omega,by simp only;rw [hSK];simp only [List.append_assoc] at hrow2 ⊢;exact hrow2⟩,by simp only;omega⟩
   ·obtain rfl:q=x.kinds.length:=by omega
    generalize hM:upTo x.kinds.length (ak8 x)=M at *
    refine aa9 mixed aa0 (γ:=Nat × Value × aa1) (fun g=>[(108,iD g.1)]) (fun g=>(b4,.cells 128 [.v g.2.1]) :: g.2.2) (fun g=>g.1≤x.rules.length∧RowIs 150 4 ((L ++ M ++ upTo g.1 (aQ3 x)).map prbC) g.2.1 g.2.2) (fun g=>x.rules.length - g.1) (0,v,s) (aa2 cl2) cl3 ⟨Nat.zero_le _,by simpa [upTo] using hrow⟩ ?_
    rintro ⟨q,v,s⟩ ⟨hq,hrow2⟩
    simp only at hq hrow2 ⊢
    have hlen3:=aj1 (ruleP_len x) q
    have hS:=ag8 q (aQ3 x)
    by_cases hql:q<x.rules.length
    ·obtain ⟨r,hr0⟩:∃ r,x.rules[q]?=some r:=⟨_,List.getElem?_eq_getElem hql⟩
     rw [show aQ3 x q=one (-1) (-1) q (aw6 x q r) by simp only [aQ3,hr0]] at hS
     repeat' (first|refine sk69 ?_|(intro b;conv=>whnf)|refine IxM.mk fun y hy=>?_)
     refine CE.own (aj9 _ (L ++ M ++ upTo q (aQ3 x)) _ _ _ _ _ _ (by assumption) (by (try simp only [List.length_append]);omega)) (aM8 _) (fun s'=>s') aS4 ?_;rintro _ _ ⟨v',s',rfl,rfl,hr'⟩
     repeat' (first|refine sk69 ?_|(intro b;conv=>whnf)|refine IxM.mk fun y hy=>?_)
     exact ⟨(q+1,v',s'),(aa2 cl2),cl3,⟨by simp only;omega,by simp only;rw [hS,← List.append_assoc];exact hr'⟩,by simp only;omega⟩
    ·obtain rfl:q=x.rules.length:=by omega
     rw [hP]
     repeat' (first|refine sk69 ?_|(intro b;conv=>whnf)|refine IxM.mk fun y hy=>?_|(with_reducible refine Br.d (fun hc=>?_) (fun hc=>?_))|(with_reducible refine Br.b (fun hc=>?_) (fun hc=>?_)))
     exact Rt.by (Vs.trans (Vs.drop (List.sublist_cons_self _ _)) (Vs.row hrow2 (aM8 _))) rfl
 ·have hP:au4 x=[(-1,-1,-1,af9 x)]:=by unfold au4;rw [if_neg hv]
  rw [hP]
  repeat' (first|refine sk69 ?_|(intro b;conv=>whnf)|refine IxM.mk fun y hy=>?_|(with_reducible refine Br.d (fun hc=>?_) (fun hc=>?_))|(with_reducible refine Br.b (fun hc=>?_) (fun hc=>?_)))
  exact Rt.same rfl
end
section
open Go
structure Ss (s:Sb):Prop where
 nk:s.length≤1000
 nr:∀ l∈s,l.length≤1000
theorem lens_no {α β:Type} {a:List (List α)} {b:List (List β)} (h:a.length≠b.length):decide (a.map List.length=b.map List.length)=false:=by
 rw [decide_eq_false_iff_not];intro e;have:=congrArg List.length e;simp at this;exact h this
theorem lens_at {α β:Type} {a:List (List α)} {b:List (List β)} {k:Nat} {l:List α} {m:List β} (h1:a[k]?=some l) (h2:b[k]?=some m) (h:l.length≠m.length):decide (a.map List.length=b.map List.length)=false:=by
 rw [decide_eq_false_iff_not];intro e
 have:=congrArg (fun z=>z[k]?) e
 simp [h1,h2] at this
 exact h this
theorem aY8 {α β:Type} {a:List (List α)} {b:List (List β)} (h:a.length=b.length) (hk:∀ (k:Nat) l m,a[k]?=some l→b[k]?=some m→l.length=m.length):decide (a.map List.length=b.map List.length)=true:=by
 rw [decide_eq_true_eq]
 apply List.ext_getElem?
 intro k
 rw [List.getElem?_map,List.getElem?_map]
 by_cases hl:k<a.length
 ·have hl2:k<b.length:=by omega
  have:=hk k a[k] b[k] (List.getElem?_eq_getElem hl) (List.getElem?_eq_getElem hl2)
  simp [hl,hl2,this]
 ·have hl2:¬ k<b.length:=by omega
  simp [hl,hl2]
theorem ah8 {α β:Type} {a:List (List α)} {b:List (List β)} (h:a.map List.length=b.map List.length) {k:Nat} {l:List α} (hl:a[k]?=some l):∃ m,b[k]?=some m∧m.length=l.length:=by
 have:=congrArg (fun z=>z[k]?) h
 simp [hl] at this
 cases hb:b[k]? with
 | none=>simp [hb] at this
 | some m=>simp [hb] at this;exact ⟨m,rfl,this.symm⟩
theorem aU2 (l:List (List Int)) (m:List Bool):APure Tryz.prog 92 [slW1 l,slB m] (bD (decide ((l.length:Int)=m.length))):=by
 refine APure.of_call (aa4 mixed aa0 Tryz.func92 (by kernel_rfl) rfl Tryz.ntmps92 rfl ?_);intro BB
 repeat' (first|refine sk2 ?_|(intro b;conv=>whnf))
 refine Rt.pure (congrArg bD ?_);simp
theorem sk70 {A B:Prop} (k:B) (h:Hd7 B→A:=by intro hk7q;(first|refine sb0 ?_|refine sb1 ?_|((with_reducible refine' Cp.by ?hc ?_);(case hc=>exact aU2 _ _))|((with_reducible refine' CE.pure ?hc ?_);(case hc=>exact aU2 _ _)));exact hk7q.run):A:=h ⟨k⟩
theorem eqf_ws (w:Wd) (s:Sb) (hw:w.length≤1000):APure Tryz.prog 91 [slW w,slS2 s,.v (.func (.func 92) #[] #[])] (bD (ap2 w s)):=by
 refine APure.of_call (aa4 mixed aa0 Tryz.func91 (by kernel_rfl) rfl Tryz.ntmps91 rfl ?_);intro BB
 repeat' (first|refine sk70 ?_|(intro b;conv=>whnf)|(with_reducible refine Br.d (fun hc=>?_) (fun hc=>?_))|(with_reducible refine Br.b (fun hc=>?_) (fun hc=>?_)))
 rotate_left
 ·refine Rt.pure (congrArg bD ?_);exact (lens_no (by omega)).symm
 have hlen:w.length=s.length:=by omega
 refine aa9 mixed aa0 (γ:=Nat) (fun j=>[(17,iD j)]) (fun _=>[]) (fun j=>j≤w.length∧∀ (k:Nat) l m,k<j→w[k]?=some l→s[k]?=some m→l.length=m.length) (fun j=>w.length - j) 0 (aa2 cl2) cl3 ⟨Nat.zero_le _,fun k l m h=>by omega⟩ ?_
 rintro j ⟨hj,hno⟩
 by_cases hjl:j<w.length
 ·obtain ⟨l,hl⟩:∃ l,w[j]?=some l:=⟨_,List.getElem?_eq_getElem hjl⟩
  have hl':w[((j:Nat):Int).toNat]?=some l:=hl
  obtain ⟨m,hm⟩:∃ m,s[j]?=some m:=⟨_,List.getElem?_eq_getElem (by omega)⟩
  have hm':s[((j:Nat):Int).toNat]?=some m:=hm
  repeat' (first|refine sk70 ?_|(intro b;conv=>whnf)|(with_reducible refine Br.d (fun hc=>?_) (fun hc=>?_))|(with_reducible refine Br.b (fun hc=>?_) (fun hc=>?_)))
  ·refine ⟨j+1,(aa2 cl2),cl3,⟨by omega,fun k l' m' hk hl2 hm2=>?_⟩,by omega⟩
   by_cases e:k=j
   ·subst e;cases hl.symm.trans hl2;cases hm.symm.trans hm2;omega
   ·exact hno k l' m' (by omega) hl2 hm2
  ·refine Rt.pure (congrArg bD ?_);exact (lens_at hl hm (by omega)).symm
 ·obtain rfl:j=w.length:=by omega
  repeat' (first|refine sk70 ?_|(intro b;conv=>whnf))
  refine Rt.pure (congrArg bD ?_)
  exact (aY8 hlen (fun k l m h1 h2=>hno k l m (List.getElem?_eq_some_iff.1 h1).1 h1 h2)).symm
theorem sk71 {A B:Prop} (k:B) (h:Hd7 B→A:=by intro hk7q;(first|refine sb0 ?_|refine sb1 ?_|((with_reducible refine' Cp.by ?hc ?_);(case hc=>exact eqf_ws _ _ (by assumption)))|((with_reducible refine' CE.pure ?hc ?_);(case hc=>exact eqf_ws _ _ (by assumption))));exact hk7q.run):A:=h ⟨k⟩
theorem bh1 (w:Wd) (s:Sb) (hw:w.length≤1000):APure Tryz.prog 66 [slW w,slS2 s] (bD (ap2 w s)):=by
 refine APure.of_call (aa4 mixed aa0 Tryz.func66 (by kernel_rfl) rfl Tryz.ntmps66 rfl ?_);intro BB
 repeat' (first|refine sk71 ?_|(intro b;conv=>whnf))
 refine Rt.pure (congrArg bD ?_);rfl
theorem az1 (w:Wd) (s:Sb) (hw:w.length≤1000):APure Tryz.prog 26 [slW w,slS2 s] (bD (ap2 w s)):=by
 refine APure.of_call (aa4 mixed aa0 Tryz.func26 (by kernel_rfl) rfl Tryz.ntmps26 rfl ?_);intro BB
 repeat' (first|refine sk2 ?_|(intro b;conv=>whnf)|(with_reducible refine Br.d (fun hc=>?_) (fun hc=>?_))|(with_reducible refine Br.b (fun hc=>?_) (fun hc=>?_)))
 rotate_left
 ·refine Rt.pure (congrArg bD ?_);exact (lens_no (by omega)).symm
 have hlen:w.length=s.length:=by omega
 refine aa9 mixed aa0 (γ:=Nat) (fun j=>[(5,iD j)]) (fun _=>[]) (fun j=>j≤w.length∧∀ (k:Nat) l m,k<j→w[k]?=some l→s[k]?=some m→l.length=m.length) (fun j=>w.length - j) 0 (aa2 cl2) cl3 ⟨Nat.zero_le _,fun k l m h=>by omega⟩ ?_
 rintro j ⟨hj,hno⟩
 by_cases hjl:j<w.length
 ·obtain ⟨l,hl⟩:∃ l,w[j]?=some l:=⟨_,List.getElem?_eq_getElem hjl⟩
  have hl':w[((j:Nat):Int).toNat]?=some l:=hl
  obtain ⟨m,hm⟩:∃ m,s[j]?=some m:=⟨_,List.getElem?_eq_getElem (by omega)⟩
  have hm':s[((j:Nat):Int).toNat]?=some m:=hm
  repeat' (first|refine sk2 ?_|(intro b;conv=>whnf)|(with_reducible refine Br.d (fun hc=>?_) (fun hc=>?_))|(with_reducible refine Br.b (fun hc=>?_) (fun hc=>?_)))
  ·refine ⟨j+1,(aa2 cl2),cl3,⟨by omega,fun k l' m' hk hl2 hm2=>?_⟩,by omega⟩
   by_cases e:k=j
   ·subst e;cases hl.symm.trans hl2;cases hm.symm.trans hm2;omega
   ·exact hno k l' m' (by omega) hl2 hm2
  ·refine Rt.pure (congrArg bD ?_);exact (lens_at hl hm (by omega)).symm
 ·obtain rfl:j=w.length:=by omega
  repeat' (first|refine sk2 ?_|(intro b;conv=>whnf))
  refine Rt.pure (congrArg bD ?_)
  exact (aY8 hlen (fun k l m h1 h2=>hno k l m (List.getElem?_eq_some_iff.1 h1).1 h1 h2)).symm
theorem probs_len {x:Sch}:((au4 x).length:Int)=0↔au4 x=[]:=by simp
theorem sk72 {A B:Prop} (k:B) (h:Hd7 B→A:=by intro hk7q;(first|refine sb0 ?_|refine sb1 ?_|((with_reducible refine' Cp.by ?hc ?_);(case hc=>first|exact HC|exact HF|exact bh1 _ _ (by assumption)))|((with_reducible refine' CE.pure ?hc ?_);(case hc=>first|exact HC|exact HF|exact bh1 _ _ (by assumption))));exact hk7q.run):A:=h ⟨k⟩
theorem aA1 (x:Sch) (w:Wd) (s:Sb) (hw:Ws w) (HV:APure Tryz.prog 81 [schD x] (iD (af9 x))):APure Tryz.prog 39 [schD x,slW w,slS2 s] (iD (ab8 x w s)):=by
 have HC:=ty_check x HV
 have hwl:=hw.nk
 by_cases hp:au4 x=[]
 ·have HF:=cl_fits x (snd_of hp) w hw
  have hp0:(au4 x).length=0:=by rw [hp];rfl
  refine APure.of_call (aa4 mixed aa0 Tryz.func39 (by kernel_rfl) rfl Tryz.ntmps39 rfl ?_);intro BB
  repeat' (first|refine sk72 ?_|(intro b;conv=>whnf)|(with_reducible refine Br.d (fun hc=>?_) (fun hc=>?_))|(with_reducible refine Br.b (fun hc=>?_) (fun hc=>?_)))
  all_goals (refine Rt.pure (congrArg iD ?_);unfold ab8;rw [if_neg (by omega)];simp [*])
 ·have hp0:((au4 x).length:Int)≠0:=fun h=>hp (probs_len.1 h)
  have HF:=True.intro
  refine APure.of_call (aa4 mixed aa0 Tryz.func39 (by kernel_rfl) rfl Tryz.ntmps39 rfl ?_);intro BB
  repeat' (first|refine sk72 ?_|(intro b;conv=>whnf)|(with_reducible refine Br.d (fun hc=>?_) (fun hc=>?_))|(with_reducible refine Br.b (fun hc=>?_) (fun hc=>?_)))
  refine Rt.pure (congrArg iD ?_);unfold ab8;rw [if_pos (by omega)]
theorem sk73 {A B:Prop} (k:B) (h:Hd7 B→A:=by intro hk7q;(first|refine sb0 ?_|refine sb1 ?_|((with_reducible refine' Cp.by ?hc ?_);(case hc=>first|exact HC|exact HF|exact az1 _ _ (by assumption)))|((with_reducible refine' CE.pure ?hc ?_);(case hc=>first|exact HC|exact HF|exact az1 _ _ (by assumption))));exact hk7q.run):A:=h ⟨k⟩
end
section
open Go
theorem av8 {s:Sb} {k i:Nat} {l:List Bool} {b:Bool} (h1:s[k]?=some l) (h2:l[i]?=some b):keptB s k i=b:=by
 unfold keptB;rw [aa3 h1,aa3 h2]
theorem aZ7 {s:Sb} {j:Nat} {l:List Bool} (h:s[j]?=some l):((s.take (j+1)).map fun l=>l.countP id).sum=((s.take j).map fun l=>l.countP id).sum+l.countP id:=by
 rw [List.take_add_one,h];simp
theorem aB9:∀ {s:Sb} (_:∀ l∈s,l.length≤1000) (j:Nat),((s.take j).map fun l=>l.countP id).sum≤j*1000
 | [],_,j=>by simp
 | l :: s,_,0=>by simp
 | l :: s,h,j+1=>by
  have h1:=h l (by simp)
  have h2:=aB9 (s:=s) (fun l hl=>h l (by simp [hl])) j
  have h3:l.countP id≤l.length:=List.countP_le_length
  simp only [List.take_succ_cons,List.map_cons,List.sum_cons]
  omega
theorem aJ1 {l:List Bool} {i:Nat} {b:Bool} (h:l[i]?=some b):(l.take (i+1)).countP id=(l.take i).countP id+(if b=true then 1 else 0):=by
 rw [List.take_add_one,h];cases b <;> simp
theorem r31_size (s:Sb) (hs:Ss s):APure Tryz.prog 31 [slS2 s] (iD (al8 s)):=by
 have hsl:=hs.nk
 refine APure.of_call (aa4 mixed aa0 Tryz.func31 (by kernel_rfl) rfl Tryz.ntmps31 rfl ?_);intro BB
 repeat' (first|refine sk2 ?_|(intro b;conv=>whnf))
 refine aa9 mixed aa0 (γ:=Nat) (fun j=>[(3,iD ((((s.take j).map fun l=>l.countP id).sum:Nat):Int)),(4,iD j)]) (fun _=>[]) (fun j=>j≤s.length) (fun j=>s.length - j) 0 (aa2 cl2) cl3 (Nat.zero_le _) ?_
 rintro j hj
 have hc1:=aB9 hs.nr j
 by_cases hjl:j<s.length
 ·obtain ⟨l,hl⟩:∃ l,s[j]?=some l:=⟨_,List.getElem?_eq_getElem hjl⟩
  have hl':s[((j:Nat):Int).toNat]?=some l:=hl
  have hc2:=aZ7 hl
  have hll:=hs.nr l (List.mem_of_getElem? hl)
  generalize hN:((s.take j).map fun l=>l.countP id).sum=N at *
  repeat' (first|refine sk2 ?_|(intro b;conv=>whnf))
  refine aa9 mixed aa0 (γ:=Nat) (fun i=>[(3,iD ((N+(l.take i).countP id:Nat):Int)),(5,iD i)]) (fun _=>[]) (fun i=>i≤l.length) (fun i=>l.length - i) 0 (aa2 cl7) cl3 (Nat.zero_le _) ?_
  rintro i hi
  have hc3:(l.take i).countP id≤(l.take i).length:=List.countP_le_length
  rw [List.length_take] at hc3
  by_cases hil:i<l.length
  ·obtain ⟨b,hb⟩:∃ b,l[i]?=some b:=⟨_,List.getElem?_eq_getElem hil⟩
   have hb':l[((i:Nat):Int).toNat]?=some b:=hb
   have hc4:=aJ1 hb
   cases b <;> simp only [Bool.false_eq_true,if_false,if_true,Nat.add_zero] at hc4
   ·repeat' (first|refine sk2 ?_|(intro b;conv=>whnf))
    exact ⟨i+1,(aa2 cl7),cl3,by omega,by omega⟩
   ·repeat' (first|refine sk2 ?_|(intro b;conv=>whnf))
    exact ⟨i+1,(aa2 cl7),cl3,by omega,by omega⟩
  ·obtain rfl:i=l.length:=by omega
   rw [List.take_of_length_le (Nat.le_refl _)] at hc3
   repeat' (first|refine sk2 ?_|(intro b;conv=>whnf))
   exact ⟨j+1,aa2 (.cons (congrArg (fun n=>some (iD n)) (by rw [hc2,List.take_of_length_le (Nat.le_refl _)])) cl2),cl3,by omega,by omega⟩
 ·obtain rfl:j=s.length:=by omega
  repeat' (first|refine sk2 ?_|(intro b;conv=>whnf))
  refine Rt.pure (congrArg iD ?_)
  unfold al8
  rw [List.take_of_length_le (Nat.le_refl _)]
end
section
open Go
theorem cl_less1 (l m:List Bool):APure Tryz.prog 57 [slB l,slB m] (bD (decide ((l.length:Int)=m.length))):=by
 refine APure.of_call (aa4 mixed aa0 Tryz.func57 (by kernel_rfl) rfl Tryz.ntmps57 rfl ?_);intro BB
 repeat' (first|refine sk2 ?_|(intro b;conv=>whnf))
 refine Rt.pure (congrArg bD ?_);simp
theorem sk74 {A B:Prop} (k:B) (h:Hd7 B→A:=by intro hk7q;(first|refine sb0 ?_|refine sb1 ?_|((with_reducible refine' Cp.by ?hc ?_);(case hc=>exact cl_less1 _ _))|((with_reducible refine' CE.pure ?hc ?_);(case hc=>exact cl_less1 _ _)));exact hk7q.run):A:=h ⟨k⟩
theorem eqf_ss (w s:Sb) (hw:w.length≤1000):APure Tryz.prog 56 [slS2 w,slS2 s,.v (.func (.func 57) #[] #[])] (bD (sameLens w s)):=by
 refine APure.of_call (aa4 mixed aa0 Tryz.func56 (by kernel_rfl) rfl Tryz.ntmps56 rfl ?_);intro BB
 repeat' (first|refine sk74 ?_|(intro b;conv=>whnf)|(with_reducible refine Br.d (fun hc=>?_) (fun hc=>?_))|(with_reducible refine Br.b (fun hc=>?_) (fun hc=>?_)))
 rotate_left
 ·refine Rt.pure (congrArg bD ?_);exact (lens_no (by omega)).symm
 have hlen:w.length=s.length:=by omega
 refine aa9 mixed aa0 (γ:=Nat) (fun j=>[(17,iD j)]) (fun _=>[]) (fun j=>j≤w.length∧∀ (k:Nat) l m,k<j→w[k]?=some l→s[k]?=some m→l.length=m.length) (fun j=>w.length - j) 0 (aa2 cl2) cl3 ⟨Nat.zero_le _,fun k l m h=>by omega⟩ ?_
 rintro j ⟨hj,hno⟩
 by_cases hjl:j<w.length
 ·obtain ⟨l,hl⟩:∃ l,w[j]?=some l:=⟨_,List.getElem?_eq_getElem hjl⟩
  have hl':w[((j:Nat):Int).toNat]?=some l:=hl
  obtain ⟨m,hm⟩:∃ m,s[j]?=some m:=⟨_,List.getElem?_eq_getElem (by omega)⟩
  have hm':s[((j:Nat):Int).toNat]?=some m:=hm
  repeat' (first|refine sk74 ?_|(intro b;conv=>whnf)|(with_reducible refine Br.d (fun hc=>?_) (fun hc=>?_))|(with_reducible refine Br.b (fun hc=>?_) (fun hc=>?_)))
  ·refine ⟨j+1,(aa2 cl2),cl3,⟨by omega,fun k l' m' hk hl2 hm2=>?_⟩,by omega⟩
   by_cases e:k=j
   ·subst e;cases hl.symm.trans hl2;cases hm.symm.trans hm2;omega
   ·exact hno k l' m' (by omega) hl2 hm2
  ·refine Rt.pure (congrArg bD ?_);exact (lens_at hl hm (by omega)).symm
 ·obtain rfl:j=w.length:=by omega
  repeat' (first|refine sk74 ?_|(intro b;conv=>whnf))
  refine Rt.pure (congrArg bD ?_)
  exact (aY8 hlen (fun k l m h1 h2=>hno k l m (List.getElem?_eq_some_iff.1 h1).1 h1 h2)).symm
end
section
open Go
def aD3 (s:Sb) (k i:Nat):List (Nat × Nat):=upTo k (fun k=>(List.range (s.getD k []).length).map fun i=>(k,i)) ++ (List.range i).map fun i=>(k,i)
def ak1 (s:Sb) (k i:Nat):List (Nat × Nat):=(aD3 s k i).filter fun p=>keptB s p.1 p.2
theorem aS3 (s:Sb) (k i:Nat):aD3 s k (i+1)=aD3 s k i ++ [(k,i)]:=by simp [aD3,List.range_succ]
theorem posTo_row {s:Sb} {k:Nat} {l:List Bool} (h:s[k]?=some l):aD3 s (k+1) 0=aD3 s k l.length:=by
 simp [aD3,ag8,List.getD_eq_getElem?_getD,h]
theorem posTo_all (s:Sb):aD3 s s.length 0=aw7 s:=by simp [aD3,aw7]
theorem upTo_pre {α:Type} (g:Nat→List α) {q n:Nat} (h:q≤n):upTo q g <+: upTo n g:=by
 induction n with
 | zero=>rw [show q=0 by omega];exact List.prefix_refl _
 | succ n ih=>
  by_cases e:q=n+1
  ·rw [e];exact List.prefix_refl _
  ·rw [ag8];exact (ih (by omega)).trans (List.prefix_append _ _)
theorem range_pre {i n:Nat} (h:i≤n):List.range i <+: List.range n:=by
 obtain ⟨d,rfl⟩:∃ d,n=i+d:=⟨n - i,by omega⟩
 rw [List.range_add];exact List.prefix_append _ _
theorem posTo_pre {s:Sb} {k i:Nat} {l:List Bool} (h:s[k]?=some l) (hi:i≤l.length):aD3 s k i <+: aw7 s:=by
 have hk:=(List.getElem?_eq_some_iff.1 h).1
 have h1:aD3 s k i <+: upTo (k+1) (fun k=>(List.range (s.getD k []).length).map fun i=>(k,i)):=by
  rw [ag8]
  unfold aD3
  refine (List.prefix_append_right_inj _).2 ?_
  rw [aa3 h]
  exact (range_pre hi).map _
 exact h1.trans (upTo_pre _ (by omega))
theorem aS9 {s:Sb} {k i:Nat} (h:keptB s k i=true):ak1 s k (i+1)=ak1 s k i ++ [(k,i)]:=by
 unfold ak1;rw [aS3,List.filter_append];simp [h]
theorem keptTo_no {s:Sb} {k i:Nat} (h:keptB s k i=false):ak1 s k (i+1)=ak1 s k i:=by
 unfold ak1;rw [aS3,List.filter_append];simp [h]
theorem keptTo_row {s:Sb} {k:Nat} {l:List Bool} (h:s[k]?=some l):ak1 s (k+1) 0=ak1 s k l.length:=by
 unfold ak1;rw [posTo_row h]
theorem aT1 (s:Sb):ak1 s s.length 0=ae5 s:=by unfold ak1 ae5;rw [posTo_all]
theorem aT0 {s:Sb} {k i:Nat} {l:List Bool} (h:s[k]?=some l) (hi:i≤l.length):ak1 s k i <+: ae5 s:=(posTo_pre h hi).filter _
theorem aT2 {s:Sb} {k i:Nat} {l:List Bool} (h:s[k]?=some l) (hi:i<l.length) (hb:keptB s k i=true):(ae5 s)[(ak1 s k i).length]?=some (k,i):=by
 obtain ⟨r,hr⟩:=aT0 h (Nat.succ_le_of_lt hi)
 rw [← hr,aS9 hb,List.append_assoc,List.getElem?_append_right (Nat.le_refl _)]
 simp
theorem aq6 {s:Sb} {p:Nat × Nat}:p∈ae5 s↔keptB s p.1 p.2=true:=by
 unfold ae5
 rw [List.mem_filter]
 exact ⟨fun h=>h.2,fun h=>⟨ax9 h,h⟩⟩
theorem aO1 (s:Sb):(ae5 s).Nodup:=(aB1 s).filter _
end
end Go.Proofs.YtjbbmjjildhfbaaGreatDoor
