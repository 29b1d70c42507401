/- A part of the proof: Td Te Ml Tf Xd Xe Xf. -/
import Derived.Test.YtilnpcolgcmofaaGreatDoorA21
import Derived.OwnWalkIn
import Derived.LoopNIn
import Derived.LoopIn
set_option maxRecDepth 100000
set_option maxHeartbeats 20000000
set_option linter.all false
namespace Go.Proofs.YtilnpcolgcmofaaGreatDoor
open Tryz
section
open Go
theorem PS(b:Bool)(c:Int):js [(b,c)]=if b=true then c else 0:=by cases b<;>rfl
theorem at5(b a:Bool)(c c':Int):js [(b,c),(a,c')]=if b=true then c else if a=true then c' else 0:=by cases b<;>cases a<;>rfl
theorem OO{x:ak}{i j:Int}{f:am}(k:f.kind=0):cM x i j f=if 0<j then 13 else 0:=by
 unfold cM;by_cases h:0<j<;>simp[k,h]
theorem ON{x:ak}{i j:Int}{f:am}(h:f.kind=1):cM x i j f=if aI x i j<0 then 12 else 0:=by simp[cM,h]
theorem OM{x:ak}{i j:Int}{f:am}(h:f.kind=4):cM x i j f=qI x i j f:=by simp[cM,h]
theorem OL{x:ak}{i j:Int}{f:am}(h:f.kind=5):cM x i j f=if x.lz.any (λl=>seq l.name f.of)then 0 else 12:=by simp only[cM,h];simp
theorem OK{x:ak}{i j:Int}{f:am}(h:f.kind=6):cM x i j f=if(gg x i f).1<0 then 12 else if(gg x i f).2.length=1 then 0 else 11:=by simp[cM,h]
theorem OJ{x:ak}{i j:Int}{f:am}(h:f.kind=7):cM x i j f=if aI x i j<0 then 12 else if(cq x i j f).1=6/\bf x (cq x i j f).2.of=i then 0 else 13:=by simp[cM,FG,h]
theorem OI{x:ak}{i j:Int}{f:am}(h:f.kind=8):cM x i j f=if aI x i j<0 then 12 else if(cq x i j f).1<0\/(cq x i j f).1=0\/(cq x i j f).1=1\/(cq x i j f).1=6\/(cq x i j f).1=7 then 13 else 0:=by simp[cM,FG,h]
theorem S7{A B:Prop}(k:B)(h:ar B->A:=by intro q7;(first|refine bC ?_|refine aA ?_|(refine' ah ?hc ?_;(case hc=>first|exact Fx _ _|exact Fz _ _ _ _)));exact q7.1):A:=h ⟨k⟩
theorem uq(x:ak)(i j:Int)(f:am)(k:f.kind=0):APure prog 310 [Kh x i j f] (iD (cM x i j f)):=by
 refine ap func310 ntmps310 λa=>?_
 repeat refine S7 ?_
 refine Rt.pure (zM iD ?_);rw[PS,OO k];simp
theorem S6{A B:Prop}(k:B)(h:ar B->A:=by intro q7;(first|refine bC ?_|refine aA ?_|(refine' ah ?hc ?_;(case hc=>first|exact Fx _ _|exact Fz _ _ _ _|exact aW0 x i j f hl hf)));exact q7.1):A:=h ⟨k⟩
theorem uo(x:ak)(i j:Int)(f:am)(hl:x.kz.length<=1000000)(hf:∀k∈x.kz,k.fields.length<=1000000)(a:f.kind=1):APure prog 311 [Kh x i j f] (iD (cM x i j f)):=by
 refine ap func311 ntmps311 λb=>?_
 repeat refine S6 ?_
 refine Rt.pure (zM iD ?_);rw[PS,ON a];simp
theorem S5{A B:Prop}(k:B)(h:ar B->A:=by intro q7;(first|refine bC ?_|refine aA ?_|(refine' ah ?hc ?_;(case hc=>first|exact Fx _ _|exact Fz _ _ _ _|exact HA|exact EW _ _ (by assumption))));exact q7.1):A:=h ⟨k⟩
theorem YA{p:Prop}(h:p:=by
 refine ap func312 ntmps312 λBB=>?_
 repeat' first|refine S5 ?_|intro b;conv=>whnf|(refine aV ?_;constructor<;>intro hc)
 all_goals(refine Rt.pure (zM iD ?_);rw[PS,←oW];generalize(f.of.toList==({ data:=#[] }:ByteArray).toList)=e at *;simp[*])):p:=h
theorem un(x:ak)(i j:Int)(f:am)(hl:x.kz.length<=1000000)(u:∀k∈x.kz,k.fields.length<=1000000)(n:fieldAt x i j=some f)(r:f.kind=4):APure prog 312 [Kh x i j f] (iD (cM x i j f)):=by
 obtain⟨h0,h1,k,a,q⟩:=Fv n;have t:=u k (zG a);have l:dw x i=some k:=by simp[dw,h0,a]
 have s:=ME k f.of;rw[OM r];simp only[qI,l];have HA:=PH x i (a7 k f.of);by_cases hn:a7 k f.of<0
 .rw[ol hn]at HA;exact YA
 .obtain⟨g,o⟩:∃g,k.fields[(a7 k f.of).toNat]?=some g:=⟨_,zD (by omega)⟩
  rw[bc3 h0 a (by omega) o]at HA;rw[o];exact YA
theorem aS3(x:ak)(i j:Int)(f:am)(y:bX):APure prog 314 [dl y,.ro (KU x i j f)] (bD (seq y.name f.of)):=by
 refine ap func314 ntmps314 λa=>?_
 repeat refine ao ?_
 refine Rt.pure (zM bD ?_);rfl
theorem S4{A B:Prop}(k:B)(h:ar B->A:=by intro q7;(first|refine bC ?_|refine aA ?_|(refine' ah ?hc ?_;(case hc=>first|exact Fx _ _|exact Fz _ _ _ _|exact bc4 x.lz (λy=>seq y.name f.of) hll (λy _=>aS3 x i j f y))));exact q7.1):A:=h ⟨k⟩
theorem um(x:ak)(i j:Int)(f:am)(hll:x.lz.length<=1000000)(k:f.kind=5):APure prog 313 [Kh x i j f] (iD (cM x i j f)):=by
 refine ap func313 ntmps313 λa=>?_
 repeat refine S4 ?_
 refine Rt.pure (zM iD ?_);rw[PS,OL k]
 cases x.lz.any (λl=>seq l.name f.of)<;>rfl
theorem S3{A B:Prop}(k:B)(h:ar B->A:=by intro q7;(first|refine bC ?_|refine aA ?_|(refine' ah ?hc ?_;(case hc=>first|exact Fx _ _|exact Fz _ _ _ _|exact aG7 x i f h0 hl hf)));exact q7.1):A:=h ⟨k⟩
theorem ul(x:ak)(i j:Int)(f:am)(h0:0<=i)(hl:x.kz.length<=1000000)(hf:∀k∈x.kz,k.fields.length<=1000000)(a:f.kind=6):APure prog 315 [Kh x i j f] (iD (cM x i j f)):=by
 refine ap func315 ntmps315 λb=>?_
 repeat refine S3 ?_
 refine Rt.pure (zM iD ?_);rw[at5,OK a];simp only[zL];by_cases h1:(gg x i f).1<0<;>by_cases h2:(gg x i f).2.length=1<;>simp[h1,h2]<;>omega
theorem lO{x:ak}{i j:Int}{f:am}:(cq x i j f).1=(if(ff x i j f).2=true then(ff x i j f).1.kind else -1)/\(cq x i j f).2=(ff x i j f).1:=by
 unfold cq ff;cases gU x i j f<;>simp
theorem I5{k u:Int}(B:Bool)(p:Bool)(h:0<=k/\k<=8)(a:B=true↔(k=0\/k=1\/k=6\/k=7)){_hp:p=decide (u<0)} :
  (if p=true then(12:Int)else if B=true then 13 else 0)=if u<0 then 12 else if(if true=true then k else -1)<0\/(if true=true then k else -1)=0\/(if true=true then k else -1)=1\/(if true=true then k else -1)=6\/(if true=true then k else -1)=7 then 13 else 0:=by
 subst _hp;simp only[if_true,zQ];by_cases hu:u<0
 .rw[if_pos hu,if_pos hu]
 .rw[if_neg hu,if_neg hu];by_cases hb:B=true
  .rw[if_pos hb,if_pos (by have:=a.1 hb;omega)]
  .rw[if_neg hb,if_neg (by intro b;exact hb (a.2 (by omega)))]
theorem K0{A B:Prop}(k:B)(h:ar B->A:=by intro q7;(first|refine bC ?_|refine aA ?_|(refine' ah ?hc ?_;(case hc=>first|exact Fx _ _|exact Fz _ _ _ _|exact aW0 x i j f hl hf|exact HT|exact MH _ _ (by assumption))));exact q7.1):A:=h ⟨k⟩
theorem Pa{p:Prop}(h:p:=by
 repeat' first|refine K0 ?_|intro b;conv=>whnf|(refine aV ?_;constructor<;>intro hc)
 all_goals(refine Rt.pure (zM iD ?_);rw[at5];simp[*])):p:=h
theorem uk(x:ak)(i j:Int)(f:am)(hl:x.kz.length<=1000000)(hf:∀k∈x.kz,k.fields.length<=1000000)(a:f.kind=7):APure prog 316 [Kh x i j f] (iD (cM x i j f)):=by
 rw[OJ a,lO.1,lO.2];have HT:=z8 x i j f hl hf;rcases ht:ff x i j f with⟨g,b⟩
 rw[ht]at HT;simp only at HT⊢;refine ap func316 ntmps316 λe=>?_
 cases b
 .exact Pa
 .exact Pa
theorem uj(x:ak)(i j:Int)(f:am)(hl:x.kz.length<=1000000)(hf:∀k∈x.kz,k.fields.length<=1000000)(q:∀k∈x.kz,∀g∈k.fields,0<=g.kind/\g.kind<=8)(o:f.kind=8):APure prog 318 [Kh x i j f] (iD (cM x i j f)):=by
 rw[OI o,lO.1];have HT:=z8 x i j f hl hf;have a:(ff x i j f).2=true->0<=(ff x i j f).1.kind/\(ff x i j f).1.kind<=8:=by
  unfold ff
  cases ht:gU x i j f with
  |none=>intro h;cases h
  |some g=>
   intro _;unfold gU at ht;split at ht
   .cases ht
   .split at ht
    .obtain⟨_,_,n,l,e⟩:=Fv ht;exact q n (zG l) g (zG e)
    .cases ht
 rcases ht:ff x i j f with⟨g,b⟩
 rw[ht]at HT a;simp only at HT a⊢;refine ap func318 ntmps318 λr=>?_
 cases b
 .exact Pa
 .have a:=a rfl
  repeat' first|refine K0 ?_|intro b;conv=>whnf|(refine aV ?_;constructor<;>intro hc)
  all_goals(clear HT;refine Rt.pure (zM iD ?_);rw[at5];refine I5 _ _ a ?_ (_hp:=rfl);first|(simp;omega)|(simp only[wG,false_iff];omega)|(simp only[true_iff];omega))
end
section
open Go
theorem S2{A B:Prop}(k:B)(h:ar B->A:=by intro q7;(first|refine bC ?_|refine aA ?_|(refine' ah ?hc ?_;(case hc=>first|exact Fx _ _|exact Fz _ _ _ _|exact aq6 _ _ _ _ _ _ _ _|exact MH _ _ (by assumption))));exact q7.1):A:=h ⟨k⟩
theorem X4{p:Prop}(h:p:=by
 repeat' first|refine S2 ?_|intro b;conv=>whnf|(refine aV ?_;constructor<;>intro hc)
 all_goals(refine Rt.pure (zM iD ?_);rw[at5];unfold eX bg8;rw[hfs];simp[*])):p:=h
theorem Ab(x:ak)(i:Nat)(k:au)(hl:x.kz.length<=1000000)(a:x.kz[i]?=some k):APure prog 113 [ax x,iD i] (iD (eX x i k)):=by
 have a:x.kz[((i:Nat):Int).toNat]?=some k:=a;have l:=(zE.1 a).1;refine ap func113 ntmps113 λf=>?_;rcases hfs:k.fields with _|⟨g,r⟩
 .have h0:k.fields.length=0:=by rw[hfs];rfl
  exact X4
 .have e:k.fields[(0:Int).toNat]?=some g:=by rw[hfs];rfl
  have h0:0<k.fields.length:=by rw[hfs];simp
  exact X4
theorem Aa(y r:cI):APure prog 168 [eM y,.ro (dI r)] (bD (seq y.name r.name)):=by
 refine ap func168 ntmps168 λa=>?_
 repeat refine ao ?_
 refine Rt.pure (zM bD ?_);rfl
def ruI(x:ak)(k:au)(o:Int)(r:cI)(g:Nat×Bool×Bool):Prop:=(g.1=0/\g.2.1=false/\g.2.2=false)\/(g.1=1/\g.2.1=eZ x k o r.a/\g.2.2=fJ x k o r.a)\/(g.1=2/\g.2.1=(eZ x k o r.a||eZ x k o r.b)/\g.2.2=(fJ x k o r.a||fJ x k o r.b))
theorem mG{A B:Prop}(k:B)(h:ar B->A:=by intro q7;(first|refine bC ?_|refine aA ?_|(refine' ah ?hc ?_;(case hc=>first|exact Fx _ _|exact Fz _ _ _ _|exact aq6 _ _ _ _ _ _ _ _|exact HR|exact HF|exact HAT|exact MH _ _ (by assumption))));exact q7.1):A:=h ⟨k⟩
theorem L5{p:Prop}(h:p:=by
 rw[←vR];exact tD (x.rules.take i) (λs=>seq s.name r.name) (by simp;omega) (λy _=>Aa y r)):p:=h
theorem pf(x:ak)(i:Nat)(r:cI)(hl:x.kz.length<=1000000)(l:x.rules.length<=1000000)(a:x.rules[i]?=some r)(k:bf x r.kind<0):APure prog 114 [ax x,iD i] (iD (jq x i r)):=by
 have a:x.rules[((i:Nat):Int).toNat]?=some r:=a;have e:=(zE.1 a).1;have HR:APure prog 167 [.sl 5 ((x.rules.map dI).take i),.clo 168 [.ro (dI r)]] (bD (oG x i r)):=L5;have E:jq x i r=js [(oG x i r,7),(true,12),(false,13),(seq r.a r.b,1)]:=by
  have:dw x (bf x r.kind)=none:=by unfold dw;rw[if_neg (by omega)]
  simp only[jq,this]
 refine ap func114 ntmps114 λf=>?_
 repeat' first|refine mG ?_|intro b;conv=>whnf
 refine CE.pk (gT.peek (.cons (Pk.same _) (.cons (Pk.clo (.cons (Pk.ptr (j:=0) rfl (jz.refl _)) .nil)) .nil)) HR rfl) ?_
 repeat' first|refine mG ?_|intro b;conv=>whnf
 refine ma mixed ai (γ:=Nat) (λj=>[(37,iD j),(8,bD (decide (bf x r.kind<0))),(9,bD false)]) (λ_=>[(b,.cells 96 (dI r))]) (λj=>j<=2) (λj=>2-j) 0 (aj aQ) dY (by omega) ?_;rintro j hj;obtain rfl|rfl|rfl:j=0\/j=1\/j=2:=by omega
 .repeat' first|refine mG ?_|intro b;conv=>whnf|(refine aV ?_;constructor<;>intro hc)
  all_goals exact⟨1,(aj aQ),dY,by omega,by omega⟩
 .repeat' first|refine mG ?_|intro b;conv=>whnf|(refine aV ?_;constructor<;>intro hc)
  all_goals exact⟨2,(aj aQ),dY,by omega,by omega⟩
 .repeat' first|refine mG ?_|intro b;conv=>whnf|(refine aV ?_;constructor<;>intro hc)
  refine Rt.pure (zM iD ?_);rw[E,yJ k];rfl
theorem mF{A B:Prop}(k:B)(h:ar B->A:=by intro q7;(first|refine bC ?_|refine aA ?_|(refine' ah ?hc ?_;(case hc=>first|exact Fx _ _|exact Fz _ _ _ _|exact aq6 _ _ _ _ _ _ _ _|exact HR|exact PH _ _ _|exact MH _ _ (by assumption)|exact EW _ _ (by assumption))));exact q7.1):A:=h ⟨k⟩
theorem mh(x:ak)(i:Nat)(r:cI)(k:au)(hl:x.kz.length<=1000000)(o:∀k∈x.kz,k.fields.length<=1000000)(l:x.rules.length<=1000000)(a:x.rules[i]?=some r)(h0:0<=bf x r.kind)(e:x.kz[(bf x r.kind).toNat]?=some k):APure prog 114 [ax x,iD i] (iD (jq x i r)):=by
 have a:x.rules[((i:Nat):Int).toNat]?=some r:=a;have f:=(zE.1 a).1;have n:=o k (zG e);have HR:APure prog 167 [.sl 5 ((x.rules.map dI).take i),.clo 168 [.ro (dI r)]] (bD (oG x i r)):=L5;have E:jq x i r=js [(oG x i r,7),(eZ x k (bf x r.kind) r.a||eZ x k (bf x r.kind) r.b,12),(fJ x k (bf x r.kind) r.a||fJ x k (bf x r.kind) r.b,13),(seq r.a r.b,1)]:=by
  have:dw x (bf x r.kind)=some k:=by unfold dw;rw[if_pos h0];exact e
  simp only[jq,this]
 refine ap func114 ntmps114 λv=>?_
 repeat' first|refine mF ?_|intro b;conv=>whnf
 refine CE.pk (gT.peek (.cons (Pk.same _) (.cons (Pk.clo (.cons (Pk.ptr (j:=0) rfl (jz.refl _)) .nil)) .nil)) HR rfl) ?_;clear HR
 repeat' first|refine mF ?_|intro b;conv=>whnf
 refine ma mixed ai (γ:=Nat×Bool×Bool) (λg=>[(37,iD g.1),(8,bD g.2.1),(9,bD g.2.2)]) (λ_=>[(b,.cells 96 (dI r))]) (ruI x k (bf x r.kind) r) (λg=>2-g.1) (0,decide (bf x r.kind<0),false) (aj aQ) dY (.inl ⟨rfl,by simp;omega,rfl⟩) ?_;rintro⟨j,m,w⟩ (⟨rfl,rfl,rfl⟩|⟨rfl,rfl,rfl⟩|⟨rfl,rfl,rfl⟩)
 .repeat' first|refine mF ?_|intro b;conv=>whnf|(refine aV ?_;constructor<;>intro hc)
  all_goals(refine⟨(1,eZ x k (bf x r.kind) r.a,fJ x k (bf x r.kind) r.a),aj (.cons rfl (.cons ?_ (.cons ?_ aQ))),dY,.inr (.inl ⟨rfl,rfl,rfl⟩),by simp only;omega⟩<;>(refine zM (λb=>some (bD b)) ?_;clear E;simp only[eZ,fJ,←oW];generalize(r.a.toList==({ data:=#[] }:ByteArray).toList)=u at *;generalize(hK x (bf x r.kind) (a7 k r.a)).1.kind=K at *;first|(simp[*];done)|(by_cases h4:K=4<;>by_cases h2:K=2<;>simp_all)))
 .repeat' first|refine mF ?_|intro b;conv=>whnf|(refine aV ?_;constructor<;>intro hc)
  all_goals(refine⟨(2,eZ x k (bf x r.kind) r.a||eZ x k (bf x r.kind) r.b,fJ x k (bf x r.kind) r.a||fJ x k (bf x r.kind) r.b),aj (.cons rfl (.cons ?_ (.cons ?_ aQ))),dY,.inr (.inr ⟨rfl,rfl,rfl⟩),by simp only;omega⟩<;>(refine zM (λb=>some (bD b)) ?_;clear E;generalize eZ x k (bf x r.kind) r.a=q at *;generalize fJ x k (bf x r.kind) r.a=nb at *;simp only[eZ,fJ,←oW];generalize(r.b.toList==({ data:=#[] }:ByteArray).toList)=t at *;generalize(hK x (bf x r.kind) (a7 k r.b)).1.kind=K at *;first|(simp[*];done)|(by_cases h4:K=4<;>by_cases h2:K=2<;>simp_all)))
 .repeat' first|refine mF ?_|intro b;conv=>whnf|(refine aV ?_;constructor<;>intro hc)
  refine Rt.pure (zM iD ?_);rw[E];rfl
theorem z'(x:ak)(i:Nat)(r:cI)(l:x.kz.length<=1000000)(f:∀k∈x.kz,k.fields.length<=1000000)(h:x.rules.length<=1000000)(a:x.rules[i]?=some r):APure prog 114 [ax x,iD i] (iD (jq x i r)):=by
 by_cases h0:bf x r.kind<0
 .exact pf x i r l h a h0
 .have t:bf x r.kind<x.kz.length:=FK _ _;exact mh x i r _ l f h a (by omega) (zD (by omega))
end
section
open Go Go.Maps Go.MapKept
theorem Kc{ρ:Operand->D}{σ:af}{o:Oper}(c:o.op= .load 215 (.global 0))(a:ρ (.global 0)= .v (.pointer (some ⟨0,0,none⟩))) :
  Yd prog o ρ σ (.gl 0):=by
 intro w X η b h;obtain⟨dst,f,y,pos,t,g⟩:=o;simp only at c;subst c;have p:=(b (.global 0) (by simp[Op.operands])).val a;obtain⟨r,d,j,i⟩:=h.gok.checks;obtain⟨e,k⟩:=MQ (ai 215 _ rfl) w;refine dE (s:=Instr.loadAt 215 (η (.global 0))) (u:=.map (some r)) ?_ (Ex.refl w) (.gl _ _ (h.gok.no _ (by decide)) (yI (by decide) h.gok.sz) d);rw[p];exact QZ e d
def gu(n:Int):Bool:=(rr hJ (.int .i64 n)).isSome
def Px(n:Int):D:=.agg [.v (((hJ (.int .i64 n))).getD .nilFunc)]
theorem FU{ρ:Operand->D}{σ:af}{o:Oper}{x i:Operand}{n:Int}(j:o.op= .lookup 215 x i true)(hx:ρ x= .gl 0)(b:ρ i= .v (.int .i64 n))(H:0<=n/\n<=8) :
  Yd prog o ρ σ (.tup [Px n,.v (.bool (gu n))]):=by
 intro w X η h t;obtain⟨dst,G,E,pos,C,g⟩:=o;simp only at j;subst j;have c:=h x (by simp[Op.operands]);rw[hx]at c;have p:=(h i (by simp[Op.operands])).val b;obtain⟨r,B,I,A⟩:=t.gok.checks;have d:η x= .map (some r):=by
  generalize y:D.gl 0=q at c;generalize η x=u at c
  cases c<;>cases y
  rename_i F _ _ k;rw[B]at k;cases k;rfl
 have f:(Lit.int .i64 n).wf=true:=by
  have:n=0\/n=1\/n=2\/n=3\/n=4\/n=5\/n=6\/n=7\/n=8:=by omega
  rcases this with rfl|rfl|rfl|rfl|rfl|rfl|rfl|rfl|rfl<;>rfl
 have z:(zeroValue 213).run prog w= .ok (.agg #[.nilFunc]) w:=by
  have:(prog.info? 213).map (λi=>i.zero)=some (some (.agg #[.nilFunc])):=by kernel_rfl
  cases b:prog.info? 213 with
  |none=>rw[b]at this;cases this
  |some m=>
   rw[b]at this;simp only[Option.map_some,xB]at this;simp[zeroValue,typeInfo,program,Sem.run,b,this]
 have a:=A.look_ok (int_keyed underlying3) underlying215 z (keyOf_int_mk underlying3 f);refine dE (s:=Instr.lookup 215 (η x) (η i) true) (by rw[d,p];exact a) (Ex.refl w) ?_;have e:(rr hJ (.int .i64 n)).getD (.agg #[.nilFunc])= .agg #[(hJ (.int .i64 n)).getD .nilFunc]:=by
  unfold rr;cases hJ (.int .i64 n)<;>rfl
 rw[e];have l:=be.cons (w:=w) (O:=ay σ X) (Rd.agg [.v ((hJ (.int .i64 n)).getD .nilFunc)] [(hJ (.int .i64 n)).getD .nilFunc] rfl (Lb [(hJ (.int .i64 n)).getD .nilFunc]).at_) (be.cons (Rd.v (.bool (gu n))) be.nil);exact Rd.tup [Px n,.v (.bool (gu n))] _ l.len l.at_
end
section
open Go
theorem y6(b:Nat)(l:List fp)(v:Value)(s:af)(k f r e:Int)(j:ae 156 4 (l.map bt) v s)(hl:l.length<=1000000) :
  az prog 109 [iD k,iD f,iD r,iD e,.v (.pointer (some ⟨b,0,none⟩))] ((b,.cells 154 [.v v])::s)
   (λd σ'=>∃n g,d= .v (.tuple #[])/\σ'=(b,.cells 154 [.v n])::g/\ae 156 4 ((l++one k f r e).map bt) n g):=by
 obtain⟨a,c,rfl⟩:=j.slice;refine cP func109 ntmps109 λq=>?_
 repeat' first|refine ao ?_|(refine aV ?_;constructor<;>intro hc)
 .refine Rt.same ⟨_,s,rfl,rfl,?_⟩;unfold one;rw[if_pos (by omega)];simpa using j
 .refine Ap.go rfl rfl rfl rfl j (Kf _ _) rfl (zs:=(l++one k f r e).map bt) (by unfold one;rw[if_neg (by omega)];simp[bt]) (by simp[one];split<;>simp<;>omega) (by simp[one];split<;>simp<;>omega) (λg=>_::g) (Qa _) (λp o g i=>?_)
  repeat refine ao ?_
  exact Rt.same ⟨_,g,rfl,rfl,i⟩
theorem pg(y l:bX):APure prog 111 [dl y,.ro (dV l)] (bD (seq y.name l.name)):=by
 refine ap func111 ntmps111 λa=>?_
 repeat refine ao ?_
 refine Rt.pure (zM bD ?_);rfl
theorem J8{ρ:Operand->D}{σ:af}{o:Oper}{x i:Operand}{m n:Int}(h:o.op= .lookup 215 x i true)(hx:ρ x= .gl 0)(c:ρ i= .v (.int .i64 m))(b:m=n)(a:0<=n/\n<=8) :
  Yd prog o ρ σ (.tup [Px n,.v (.bool (gu n))]):=by subst b;exact FU h hx c a
theorem Lz{x:ak}(V:MR x){k:au}{f:am}(c:k∈x.kz)(d:f∈k.fields):0<=f.kind/\f.kind<=8:=by
 have b:=V.kz k c;simp only[jv,zJ,yA]at b;have a:=b.2 f d;simp only[dF,zJ]at a;have h:=a.2;unfold fP at h
 repeat(split at h;omega)
 cases h
theorem at8(x y z:Nat×aB)(s:af):(x::y::z::s).Perm (s++[x,y,z]):=yT (l₁:=[x,y,z]) (l₂:=s)
theorem an9(x y z:Nat×aB)(s:af):(s++[x,y,z]).Perm (x::y::z::s):=(at8 x y z s).symm
theorem aJ{A B:Prop}(k:B)(h:ar B->A:=by intro q7;(first|refine bC ?_|refine aA ?_|(refine' ah ?hc ?_;(case hc=>first|exact Fx _ _|exact Fz _ _ _ _|exact aq6 _ _ _ _ _ _ _ _|exact HV|exact Ab _ _ _ (by assumption) (by assumption)|exact EW _ _ (by assumption)|exact HC|exact z' _ _ _ (by assumption) (by assumption) (by assumption) (by assumption))));exact q7.1):A:=h ⟨k⟩
theorem Y4{p:Prop}(h:p:=by
 have hcb:gu 3=false:=by rfl
 repeat' first|refine aJ ?_|intro b;conv=>whnf|refine ba.mk λy hy=>?_
 refine Ld.yd (Kc rfl rfl) ?_
 repeat' first|refine aJ ?_|intro b;conv=>whnf|refine ba.mk λy hy=>?_
 refine cm.yd rfl (J8 (n:=3) rfl rfl rfl hk9 (by omega)) ?_
 repeat' first|refine aJ ?_|intro b;conv=>whnf|refine ba.mk λy hy=>?_
 refine bc (y6 _ (L++aq q (dQ x)++one q (-1) (-1) (eX x q y)++aq j (fo x q y)) _ _ _ _ _ _ (by assumption) (by(try simp only[zI]);omega)) (at8 _ _ _ _) (λs'=>_::_::_::s') (an9 _ _ _) ?_;rintro _ _ ⟨v',s',rfl,rfl,hr'⟩
 repeat' first|refine aJ ?_|intro b;conv=>whnf|refine ba.mk λy hy=>?_
 exact⟨(j+1,v',s'),(aj aQ),dY,⟨by simp only;omega,by simp only;rw[hSF,←zV];first|exact hr'|(rw[he]at hr';exact hr')|(rw[hFL];exact hr')⟩,by simp only;omega⟩):p:=h
theorem Y3{p:Prop}(h:p:=by
 have hcb:gu 2=false:=by rfl
 repeat' first|refine aJ ?_|intro b;conv=>whnf|refine ba.mk λy hy=>?_
 refine Ld.yd (Kc rfl rfl) ?_
 repeat' first|refine aJ ?_|intro b;conv=>whnf|refine ba.mk λy hy=>?_
 refine cm.yd rfl (J8 (n:=2) rfl rfl rfl hk9 (by omega)) ?_
 repeat' first|refine aJ ?_|intro b;conv=>whnf|refine ba.mk λy hy=>?_
 refine bc (y6 _ (L++aq q (dQ x)++one q (-1) (-1) (eX x q y)++aq j (fo x q y)) _ _ _ _ _ _ (by assumption) (by(try simp only[zI]);omega)) (at8 _ _ _ _) (λs'=>_::_::_::s') (an9 _ _ _) ?_;rintro _ _ ⟨v',s',rfl,rfl,hr'⟩
 repeat' first|refine aJ ?_|intro b;conv=>whnf|refine ba.mk λy hy=>?_
 exact⟨(j+1,v',s'),(aj aQ),dY,⟨by simp only;omega,by simp only;rw[hSF,←zV];first|exact hr'|(rw[he]at hr';exact hr')|(rw[hFL];exact hr')⟩,by simp only;omega⟩):p:=h
theorem Y2{p:Prop}(h:p:=by
 have hcb:gu 8=true:=by rfl
 repeat' first|refine aJ ?_|intro b;conv=>whnf|refine ba.mk λy hy=>?_
 refine Ld.yd (Kc rfl rfl) ?_
 repeat' first|refine aJ ?_|intro b;conv=>whnf|refine ba.mk λy hy=>?_
 refine cm.yd rfl (J8 (n:=8) rfl rfl rfl hk9 (by omega)) ?_
 repeat' first|refine aJ ?_|intro b;conv=>whnf|refine ba.mk λy hy=>?_
 refine bc (y6 _ (L++aq q (dQ x)++one q (-1) (-1) (eX x q y)++aq j (fo x q y)) _ _ _ _ _ _ (by assumption) (by(try simp only[zI]);omega)) (at8 _ _ _ _) (λs'=>_::_::_::s') (an9 _ _ _) ?_;rintro _ _ ⟨v',s',rfl,rfl,hr'⟩
 repeat' first|refine aJ ?_|intro b;conv=>whnf|refine ba.mk λy hy=>?_
 exact⟨(j+1,v',s'),(aj aQ),dY,⟨by simp only;omega,by simp only;rw[hSF,←zV];first|exact hr'|(rw[he]at hr';exact hr')|(rw[hFL];exact hr')⟩,by simp only;omega⟩):p:=h
theorem Y1{p:Prop}(h:p:=by
 have hcb:gu 7=true:=by rfl
 repeat' first|refine aJ ?_|intro b;conv=>whnf|refine ba.mk λy hy=>?_
 refine Ld.yd (Kc rfl rfl) ?_
 repeat' first|refine aJ ?_|intro b;conv=>whnf|refine ba.mk λy hy=>?_
 refine cm.yd rfl (J8 (n:=7) rfl rfl rfl hk9 (by omega)) ?_
 repeat' first|refine aJ ?_|intro b;conv=>whnf|refine ba.mk λy hy=>?_
 refine bc (y6 _ (L++aq q (dQ x)++one q (-1) (-1) (eX x q y)++aq j (fo x q y)) _ _ _ _ _ _ (by assumption) (by(try simp only[zI]);omega)) (at8 _ _ _ _) (λs'=>_::_::_::s') (an9 _ _ _) ?_;rintro _ _ ⟨v',s',rfl,rfl,hr'⟩
 repeat' first|refine aJ ?_|intro b;conv=>whnf|refine ba.mk λy hy=>?_
 exact⟨(j+1,v',s'),(aj aQ),dY,⟨by simp only;omega,by simp only;rw[hSF,←zV];first|exact hr'|(rw[he]at hr';exact hr')|(rw[hFL];exact hr')⟩,by simp only;omega⟩):p:=h
theorem Y0{p:Prop}(h:p:=by
 have hcb:gu 6=true:=by rfl
 repeat' first|refine aJ ?_|intro b;conv=>whnf|refine ba.mk λy hy=>?_
 refine Ld.yd (Kc rfl rfl) ?_
 repeat' first|refine aJ ?_|intro b;conv=>whnf|refine ba.mk λy hy=>?_
 refine cm.yd rfl (J8 (n:=6) rfl rfl rfl hk9 (by omega)) ?_
 repeat' first|refine aJ ?_|intro b;conv=>whnf|refine ba.mk λy hy=>?_
 refine bc (y6 _ (L++aq q (dQ x)++one q (-1) (-1) (eX x q y)++aq j (fo x q y)) _ _ _ _ _ _ (by assumption) (by(try simp only[zI]);omega)) (at8 _ _ _ _) (λs'=>_::_::_::s') (an9 _ _ _) ?_;rintro _ _ ⟨v',s',rfl,rfl,hr'⟩
 repeat' first|refine aJ ?_|intro b;conv=>whnf|refine ba.mk λy hy=>?_
 exact⟨(j+1,v',s'),(aj aQ),dY,⟨by simp only;omega,by simp only;rw[hSF,←zV];first|exact hr'|(rw[he]at hr';exact hr')|(rw[hFL];exact hr')⟩,by simp only;omega⟩):p:=h
theorem YZ{p:Prop}(h:p:=by
 have hcb:gu 5=true:=by rfl
 repeat' first|refine aJ ?_|intro b;conv=>whnf|refine ba.mk λy hy=>?_
 refine Ld.yd (Kc rfl rfl) ?_
 repeat' first|refine aJ ?_|intro b;conv=>whnf|refine ba.mk λy hy=>?_
 refine cm.yd rfl (J8 (n:=5) rfl rfl rfl hk9 (by omega)) ?_
 repeat' first|refine aJ ?_|intro b;conv=>whnf|refine ba.mk λy hy=>?_
 refine bc (y6 _ (L++aq q (dQ x)++one q (-1) (-1) (eX x q y)++aq j (fo x q y)) _ _ _ _ _ _ (by assumption) (by(try simp only[zI]);omega)) (at8 _ _ _ _) (λs'=>_::_::_::s') (an9 _ _ _) ?_;rintro _ _ ⟨v',s',rfl,rfl,hr'⟩
 repeat' first|refine aJ ?_|intro b;conv=>whnf|refine ba.mk λy hy=>?_
 exact⟨(j+1,v',s'),(aj aQ),dY,⟨by simp only;omega,by simp only;rw[hSF,←zV];first|exact hr'|(rw[he]at hr';exact hr')|(rw[hFL];exact hr')⟩,by simp only;omega⟩):p:=h
theorem YY{p:Prop}(h:p:=by
 have hcb:gu 4=true:=by rfl
 repeat' first|refine aJ ?_|intro b;conv=>whnf|refine ba.mk λy hy=>?_
 refine Ld.yd (Kc rfl rfl) ?_
 repeat' first|refine aJ ?_|intro b;conv=>whnf|refine ba.mk λy hy=>?_
 refine cm.yd rfl (J8 (n:=4) rfl rfl rfl hk9 (by omega)) ?_
 repeat' first|refine aJ ?_|intro b;conv=>whnf|refine ba.mk λy hy=>?_
 refine bc (y6 _ (L++aq q (dQ x)++one q (-1) (-1) (eX x q y)++aq j (fo x q y)) _ _ _ _ _ _ (by assumption) (by(try simp only[zI]);omega)) (at8 _ _ _ _) (λs'=>_::_::_::s') (an9 _ _ _) ?_;rintro _ _ ⟨v',s',rfl,rfl,hr'⟩
 repeat' first|refine aJ ?_|intro b;conv=>whnf|refine ba.mk λy hy=>?_
 exact⟨(j+1,v',s'),(aj aQ),dY,⟨by simp only;omega,by simp only;rw[hSF,←zV];first|exact hr'|(rw[he]at hr';exact hr')|(rw[hFL];exact hr')⟩,by simp only;omega⟩):p:=h
theorem YX{p:Prop}(h:p:=by
 have hcb:gu 1=true:=by rfl
 repeat' first|refine aJ ?_|intro b;conv=>whnf|refine ba.mk λy hy=>?_
 refine Ld.yd (Kc rfl rfl) ?_
 repeat' first|refine aJ ?_|intro b;conv=>whnf|refine ba.mk λy hy=>?_
 refine cm.yd rfl (J8 (n:=1) rfl rfl rfl hk9 (by omega)) ?_
 repeat' first|refine aJ ?_|intro b;conv=>whnf|refine ba.mk λy hy=>?_
 refine bc (y6 _ (L++aq q (dQ x)++one q (-1) (-1) (eX x q y)++aq j (fo x q y)) _ _ _ _ _ _ (by assumption) (by(try simp only[zI]);omega)) (at8 _ _ _ _) (λs'=>_::_::_::s') (an9 _ _ _) ?_;rintro _ _ ⟨v',s',rfl,rfl,hr'⟩
 repeat' first|refine aJ ?_|intro b;conv=>whnf|refine ba.mk λy hy=>?_
 exact⟨(j+1,v',s'),(aj aQ),dY,⟨by simp only;omega,by simp only;rw[hSF,←zV];first|exact hr'|(rw[he]at hr';exact hr')|(rw[hFL];exact hr')⟩,by simp only;omega⟩):p:=h
theorem YW{p:Prop}(h:p:=by
 have hcb:gu 0=true:=by rfl
 repeat' first|refine aJ ?_|intro b;conv=>whnf|refine ba.mk λy hy=>?_
 refine Ld.yd (Kc rfl rfl) ?_
 repeat' first|refine aJ ?_|intro b;conv=>whnf|refine ba.mk λy hy=>?_
 refine cm.yd rfl (J8 (n:=0) rfl rfl rfl hk9 (by omega)) ?_
 repeat' first|refine aJ ?_|intro b;conv=>whnf|refine ba.mk λy hy=>?_
 refine bc (y6 _ (L++aq q (dQ x)++one q (-1) (-1) (eX x q y)++aq j (fo x q y)) _ _ _ _ _ _ (by assumption) (by(try simp only[zI]);omega)) (at8 _ _ _ _) (λs'=>_::_::_::s') (an9 _ _ _) ?_;rintro _ _ ⟨v',s',rfl,rfl,hr'⟩
 repeat' first|refine aJ ?_|intro b;conv=>whnf|refine ba.mk λy hy=>?_
 exact⟨(j+1,v',s'),(aj aQ),dY,⟨by simp only;omega,by simp only;rw[hSF,←zV];first|exact hr'|(rw[he]at hr';exact hr')|(rw[hFL];exact hr')⟩,by simp only;omega⟩):p:=h
theorem mi(x:ak)(HV:APure prog 108 [ax x] (iD (fI x))):APure prog 66 [ax x] (.sl 4 ((eH x).map bt)):=by
 refine ap func66 ntmps66 λBB=>?_
 repeat' first|refine aJ ?_|intro b;conv=>whnf|refine ba.mk λy hy=>?_
 by_cases hv:fI x=0
 .have V:=kq hv;have hl:x.kz.length<=1000000:=by have:=V.nk;omega
  have u:∀k∈x.kz,k.fields.length<=1000000:=λk I=>by have:=V.nf k I;omega
  have E:x.lz.length<=1000000:=by have:=V.nl;omega
  have Z:x.rules.length<=1000000:=by have:=V.nr;omega
  have P:eH x=aq x.lz.length (lA x)++aq x.kz.length (dQ x)++aq x.rules.length (lZ x):=by unfold eH;rw[if_pos hv]
  have hnk:=V.nk;have hnl:=V.nl;have hnr:=V.nr;have t:=V.nf;clear HV
  repeat' first|refine aJ ?_|intro b;conv=>whnf|refine ba.mk λy hy=>?_
  generalize b=C;refine ma mixed ai (γ:=Nat×Value×af) (λg=>[(28,iD g.1)]) (λg=>(C,.cells 154 [.v g.2.1])::g.2.2) (λg=>g.1<=x.lz.length/\ae 156 4 ((aq g.1 (lA x)).map bt) g.2.1 g.2.2) (λg=>x.lz.length-g.1) (0,.slice none 0 0,[]) (aj aQ) dY ⟨zW _,ae.nil _ _⟩ ?_;rintro⟨q,v,s⟩ ⟨o,w⟩;simp only at o w⊢
  repeat' first|refine aJ ?_|intro b;conv=>whnf|refine ba.mk λy hy=>?_|(refine aV ?_;constructor<;>intro hc)
  .have hy:x.lz[q]?=some y:=hy;have S:=j9 q (lA x);have T:=fL (aE6 x) q;rw[show lA x q=one (-1) q (-1) (if JP x q y then 7 else 0) by simp only[lA,hy]]at S;have U:APure prog 110 [.sl 3 ((x.lz.map dV).take q),.clo 111 [.ro (dV y)]] (bD (JP x q y)):=by
    rw[←vR];exact bc4 (x.lz.take q) (λs=>seq s.name y.name) (by simp;omega) (λz _=>pg z y)
   refine CE.pk (gT.peek (.cons (Pk.same _) (.cons (Pk.clo (.cons (Pk.ptr (j:=0) rfl (jz.refl _)) .nil)) .nil)) U rfl) ?_;clear U
   repeat' first|refine aJ ?_|intro b;conv=>whnf|refine ba.mk λy hy=>?_
   refine bc (y6 _ (aq q (lA x)) _ _ _ _ _ _ (by assumption) (by(try simp only[zI]);omega)) (Kf _ _) (λs'=>_::s') (Qa _) ?_;rintro _ _ ⟨v',s',rfl,rfl,hr'⟩;rw[PS,←S]at hr'
   repeat' first|refine aJ ?_|intro b;conv=>whnf|refine ba.mk λy hy=>?_
   exact⟨(q+1,v',s'),(aj aQ),dY,⟨by simp only;omega,hr'⟩,by simp only;omega⟩
  .obtain rfl:q=x.lz.length:=by omega
   have G:=fL (aE6 x) x.lz.length;generalize hL:aq x.lz.length (lA x)=L at *;refine ma mixed ai (γ:=Nat×Value×af) (λg=>[(50,iD g.1)]) (λg=>(C,.cells 154 [.v g.2.1])::g.2.2) (λg=>g.1<=x.kz.length/\ae 156 4 ((L++aq g.1 (dQ x)).map bt) g.2.1 g.2.2) (λg=>x.kz.length-g.1) (0,v,s) (aj aQ) dY ⟨zW _,by simpa [aq]using w⟩ ?_;rintro⟨q,v,s⟩ ⟨o,w⟩;simp only at o w⊢;have F:=fL (λi=>bg7 x i t) q
   repeat' first|refine aJ ?_|intro b;conv=>whnf|refine ba.mk λy hy=>?_|(refine aV ?_;constructor<;>intro hc)
   .have hy:x.kz[q]?=some y:=hy;have Y:=t y (zG hy);have X:y.fields.length<=1000000:=by omega
    have ho1:=EL q (-1) (-1) (eX x q y);have K:=j9 q (dQ x);rw[show dQ x q=one q (-1) (-1) (eX x q y)++aq y.fields.length (fo x q y) by simp only[dQ,hy]]at K;refine bc (y6 _ (L++aq q (dQ x)) _ _ _ _ _ _ (by assumption) (by(try simp only[zI]);omega)) (Kf _ _) (λs'=>_::s') (Qa _) ?_;rintro _ _ ⟨v',s',rfl,rfl,hr'⟩
    repeat' first|refine aJ ?_|intro b;conv=>whnf|refine ba.mk λy hy=>?_
    refine ma mixed ai (γ:=Nat×Value×af) (λg=>[(64,iD g.1)]) (λg=>(b,.cells 78 (bA y))::(C,.cells 154 [.v g.2.1])::g.2.2) (λg=>g.1<=y.fields.length/\ae 156 4 ((L++aq q (dQ x)++one q (-1) (-1) (eX x q y)++aq g.1 (fo x q y)).map bt) g.2.1 g.2.2) (λg=>y.fields.length-g.1) (0,v',s') (aj aQ) dY ⟨zW _,by simpa [aq]using hr'⟩ ?_;generalize b=b10;rintro⟨j,v,s⟩ ⟨hj,a⟩;simp only at hj a⊢;have l:=fL (aw4 x q y) j;have hSF:=j9 j (fo x q y);by_cases hjl:j<y.fields.length
    .obtain⟨f,e⟩:∃f,y.fields[j]?=some f:=⟨_,zD hjl⟩
     have O:fieldAt x q j=some f:=by rw[Ka (by omega) (by omega) hy];exact e
     rw[show fo x q y j=one q j (-1) (l8 x q y j f) by simp only[fo,e]]at hSF;have hk8:=Lz V (zG hy) (zG e);have J:∀k∈x.kz,∀g∈k.fields,0<=g.kind/\g.kind<=8:=λk I g hg=>Lz V I hg;have R:y.fields[((j:Nat):Int).toNat]?=some f:=e;have hk9:f.kind=0\/f.kind=1\/f.kind=2\/f.kind=3\/f.kind=4\/f.kind=5\/f.kind=6\/f.kind=7\/f.kind=8:=by omega
     by_cases hfx:a7 y f.name<(j:Int)
     .have he:js [(decide (a7 y f.name<(j:Int)),7)]=7:=by rw[PS,if_pos (yJ hfx)]
      have Q:l8 x q y j f=7:=by unfold l8;rw[if_pos hfx]
      rw[Q]at hSF;rcases hk9 with hk9|hk9|hk9|hk9|hk9|hk9|hk9|hk9|hk9
      .exact YW
      .exact YX
      .exact Y3
      .exact Y4
      .exact YY
      .exact YZ
      .exact Y0
      .exact Y1
      .exact Y2
     .have he:js [(decide (a7 y f.name<(j:Int)),7)]=0:=by rw[PS,if_neg (by simp;omega)]
      have hFL:l8 x q y j f=cM x q j f:=by unfold l8;rw[if_neg hfx]
      rcases hk9 with hk9|hk9|hk9|hk9|hk9|hk9|hk9|hk9|hk9
      .have HC:=uq x q j f hk9;exact YW
      .have HC:=uo x q j f hl u hk9;exact YX
      .have HC:cM x q j f=0:=by unfold cM;simp[hk9]
       rw[hFL,HC]at hSF;clear hFL HC;exact Y3
      .have HC:cM x q j f=0:=by unfold cM;simp[hk9]
       rw[hFL,HC]at hSF;clear hFL HC;exact Y4
      .have HC:=un x q j f hl u O hk9;exact YY
      .have HC:=um x q j f E hk9;exact YZ
      .have HC:=ul x q j f (by omega) hl u hk9;exact Y0
      .have HC:=uk x q j f hl u hk9;exact Y1
      .have HC:=uj x q j f hl u J hk9;exact Y2
    .obtain rfl:j=y.fields.length:=by omega
     repeat' first|refine aJ ?_|intro b;conv=>whnf|refine ba.mk λy hy=>?_|(refine aV ?_;constructor<;>intro hc)
     exact⟨(q+1,v,s),(aj aQ),dY,⟨by simp only;omega,by simp only;rw[K];simp only[zV]at a⊢;exact a⟩,by simp only;omega⟩
   .obtain rfl:q=x.kz.length:=by omega
    generalize hM:aq x.kz.length (dQ x)=M at *;refine ma mixed ai (γ:=Nat×Value×af) (λg=>[(108,iD g.1)]) (λg=>(C,.cells 154 [.v g.2.1])::g.2.2) (λg=>g.1<=x.rules.length/\ae 156 4 ((L++M++aq g.1 (lZ x)).map bt) g.2.1 g.2.2) (λg=>x.rules.length-g.1) (0,v,s) (aj aQ) dY ⟨zW _,by simpa [aq]using w⟩ ?_;rintro⟨q,v,s⟩ ⟨o,a⟩;simp only at o a⊢;have l:=fL (be2 x) q;have S:=j9 q (lZ x);by_cases hql:q<x.rules.length
    .obtain⟨r,D⟩:∃r,x.rules[q]?=some r:=⟨_,zD hql⟩
     rw[show lZ x q=one (-1) (-1) q (jq x q r) by simp only[lZ,D]]at S
     repeat' first|refine aJ ?_|intro b;conv=>whnf|refine ba.mk λy hy=>?_
     refine bc (y6 _ (L++M++aq q (lZ x)) _ _ _ _ _ _ (by assumption) (by(try simp only[zI]);omega)) (bS _) (λs'=>s') da ?_;rintro _ _ ⟨v',s',rfl,rfl,hr'⟩
     repeat' first|refine aJ ?_|intro b;conv=>whnf|refine ba.mk λy hy=>?_
     exact⟨(q+1,v',s'),(aj aQ),dY,⟨by simp only;omega,by simp only;rw[S,←zV];exact hr'⟩,by simp only;omega⟩
    .obtain rfl:q=x.rules.length:=by omega
     rw[P]
     repeat' first|refine aJ ?_|intro b;conv=>whnf|refine ba.mk λy hy=>?_|(refine aV ?_;constructor<;>intro hc)
     exact Rt.by (Vs.trans (Vs.drop (yG _ _)) (Vs.row a (bS _))) rfl
 .have P:eH x=[(-1,-1,-1,fI x)]:=by unfold eH;rw[if_neg hv]
  rw[P]
  repeat' first|refine aJ ?_|intro b;conv=>whnf|refine ba.mk λy hy=>?_|(refine aV ?_;constructor<;>intro hc)
  exact Rt.same rfl
end
section
open Go Go.Maps Go.MapKept
theorem Fu(b:Bool)(e:Int):APure prog 40 [bD b,iD e] (iD (if b=true then e else 0)):=by
 refine ap func40 ntmps40 λa=>?_
 cases b
 .repeat refine ao ?_
  refine Rt.pure (zM iD ?_);rfl
 .repeat refine ao ?_
  refine Rt.pure (zM iD ?_);rfl
def fH(x:ak)(w:Wd)(L:List Rf)(r l:Nat)(v:Value):List D:=[iD x.vz,NC x.kz,Fj x.lz,NA x.rules,jD w,gj L,.v (.map (some r)),.v (.map (some l)),.v v]
theorem Rp(x:ak)(w:Wd)(L:List Rf)(r n c:Nat)(l:List fp)(v:Value)(s:af)(k i f e:Int)(u:ae 108 4 (l.map bt) v s)(hl:l.length<=100000000) :
  az prog 39 [.v (.pointer (some ⟨c,0,none⟩)),iD k,iD i,iD f,.sl 1 [[iD e]]] ((c,.cells 122 (fH x w L r n v))::s)
   (λd σ'=>∃t j,d= .v (.tuple #[])/\σ'=(c,.cells 122 (fH x w L r n t))::j/\ae 108 4 ((l++one k i f e).map bt) t j):=by
 obtain⟨a,z,rfl⟩:=u.slice;refine cP func39 ntmps39 λE=>?_
 repeat refine ao ?_
 refine aR mixed ai (γ:=Nat×Value×af) (λg=>[(14,iD g.1)]) (λg=>(c,.cells 122 (fH x w L r n g.2.1))::g.2.2) (λg=>g.1<=1/\ae 108 4 ((l++(if g.1=0 then[]else one k i f e)).map bt) g.2.1 g.2.2) (λg=>1-g.1) (0,.slice a (l.map bt).length z,s) (aj aQ) (Sc.refl _) ⟨by simp,by simpa using u⟩ ?_;rintro⟨q,v,s⟩ ⟨y,b⟩;simp only at y b⊢;by_cases h0:q=0
 .subst h0;simp only[if_true,zZ]at b
  repeat' first|refine ao ?_|(refine aV ?_;constructor<;>intro hc)
  .exact⟨(1,v,s),(aj aQ),Sc.refl _,⟨by simp,by
    simp only[show(1:Nat)≠0 by decide,uC];unfold one;rw[if_pos (by omega)];simpa using b⟩,by simp only;omega⟩
  .refine Ap.go rfl rfl rfl rfl b (Kf _ _) rfl (zs:=(l++one k i f e).map bt) (by unfold one;rw[if_neg (by omega)];simp[bt]) (by simp[one];split<;>simp<;>omega) (by simp[one];split<;>simp<;>omega) (λj=>_::j) (Qa _) (λD C j o=>?_)
   repeat refine ao ?_
   exact⟨(1,_,j),(aj aQ),Sc.refl _,⟨by simp,by simpa using o⟩,by simp only;omega⟩
 .obtain rfl:q=1:=by omega
  repeat refine ao ?_
  exact Rt.same ⟨v,s,rfl,rfl,by simpa using b⟩
noncomputable def KF (k:List Int):Value->Option Value
 |.int .i64 n=>if n∈k then some (.bool true)else none
 |_=>none
theorem Qu:KF []=λ_=>none:=by
 funext v
 unfold KF;split<;>simp
theorem KD(k:List Int)(n:Int):dh (KF k) (.int .i64 n) (.bool true)=KF (n::k):=by
 funext v
 unfold dh;split
 .rename_i h;subst h;simp[KF]
 .rename_i h;unfold KF;split
  .rename_i m;have:m≠n:=λe=>h (by rw[e]);simp[this]
  .rfl
theorem Qv(k:List Int)(n:Int):((KF k) (.int .i64 n)).getD (.bool false)= .bool (decide (n∈k)):=by
 unfold KF;by_cases h:n∈k<;>simp[h]
theorem tZ(w:World):(zeroValue 4).run prog w= .ok (.bool false) w:=by kernel_rfl
theorem AW{A B:Prop}(k:B)(h:ar B->A:=by intro q7;(first|refine bC ?_|refine aA ?_|(refine' ah ?hc ?_;(case hc=>exact Fu _ _)));exact q7.1):A:=h ⟨k⟩
theorem qO(n:Int)(d:am):APure prog 73 [iD n,.ro (aH d)] (iD (H0 n d.lo d.hi)):=by
 refine ap func73 ntmps73 λa=>?_;unfold H0;by_cases h1:n<d.lo
 .rw[if_pos (.inl h1)]
  repeat refine AW ?_
  refine Rt.pure (zM iD ?_);rfl
 .by_cases h2:d.hi<n
  .rw[if_pos (.inr h2)]
   repeat refine AW ?_
   refine Rt.pure (zM iD ?_);simp[h2]
  .rw[if_neg (by omega)]
   repeat refine AW ?_
   refine Rt.pure (zM iD ?_);simp[h2]
theorem bq0{A B:Prop}(k:B)(h:ar B->A:=by intro q7;(first|refine bC ?_|refine gX ?_|(refine' ah ?hc ?_;(case hc=>first|exact Fu _ _|exact HC)));exact q7.1):A:=h ⟨k⟩
theorem bp9{A B:Prop}(k:B)(h:ar B->A:=by intro q7;(first|refine bC ?_|refine aA ?_|(refine' ah ?hc ?_;(case hc=>first|exact Fu _ _|exact HC)));exact q7.1):A:=h ⟨k⟩
end
section
open Go Go.Maps Go.MapKept
theorem Oy(n:Int):APure prog 71 [iD n] (bD (!en n)):=by
 refine ap func71 ntmps71 λa=>?_
 repeat' first|refine ao ?_|(refine aV ?_;constructor<;>intro hc)
 .refine Rt.pure (zM bD ?_);unfold en;simp;omega
 .refine Rt.pure (zM bD ?_);unfold en;simp;omega
theorem OV{f:FuncId}(l:List Int)(p:Int->Bool)(hl:l.length<=1000000)(hp:∀y∈l,APure prog f [iD y] (bD (p y))):APure prog 117 [bj l,.v (.func (.func f) #[] #[])] (iD (idx p l)):=by
 refine ap func117 ntmps117 λa=>?_;exact n9
theorem S1{A B:Prop}(k:B)(h:ar B->A:=by intro q7;(first|refine bC ?_|refine aA ?_|(refine' ah ?hc ?_;(case hc=>exact OV l p hl hp)));exact q7.1):A:=h ⟨k⟩
theorem JU{f:FuncId}(l:List Int)(p:Int->Bool)(hl:l.length<=1000000)(hp:∀y∈l,APure prog f [iD y] (bD (p y))):APure prog 70 [bj l,.v (.func (.func f) #[] #[])] (bD (l.any p)):=by
 refine ap func70 ntmps70 λa=>?_
 repeat refine S1 ?_
 refine Rt.pure (zM bD ?_);exact rh p l
theorem KZ{A B:Prop}(k:B)(h:ar B->A:=by intro q7;(first|refine bC ?_|refine aA ?_|(refine' ah ?hc ?_;(case hc=>exact JU _ _ (by assumption) (λy _=>Oy y))));exact q7.1):A:=h ⟨k⟩
def vJ:=@List.all_eq_not_any_not
theorem Ox(x:ak)(k:Nat)(kd:au)(r:List Int)(a:x.kz[k]?=some kd)(h1:x.kz.length<=1000000)(h2:r.length<=1000000):APure prog 69 [bj r,.ro (uH x),.ro [iD k]] (bD (!dB x k r)):=by
 have b:x.kz[((k:Nat):Int).toNat]?=some kd:=a;have q:=(zE.1 a).1;have E:(r.any λn=>!en n)=!r.all en:=by rw[vJ];simp
 have R:dB x k r=(decide (r.length=kd.fields.length)&&r.all en):=by unfold dB sT;rw[a]
 refine ap func69 ntmps69 λe=>?_;by_cases hl:r.length=kd.fields.length
 .repeat refine KZ ?_
  refine Rt.pure (zM bD ?_);rw[R,E];simp[hl]
 .repeat refine KZ ?_
  refine Rt.pure (zM bD ?_);rw[R];simp[hl]
theorem XD{f:FuncId}{c1 a:List D}(l:List (List Int))(p:List Int->Bool)(hl:l.length<=1000000)(hp:∀y∈l,APure prog f [bj y,.ro c1,.ro a] (bD (p y))):APure prog 116 [fV l,.clo f [.ro c1,.ro a]] (iD (idx p l)):=by
 refine ap func116 ntmps116 λb=>?_;exact n9
theorem S0{A B:Prop}(k:B)(h:ar B->A:=by intro q7;(first|refine bC ?_|refine aA ?_|(refine' ah ?hc ?_;(case hc=>exact XD l p hl hp)));exact q7.1):A:=h ⟨k⟩
theorem PV{f:FuncId}{c1 a:List D}(l:List (List Int))(p:List Int->Bool)(hl:l.length<=1000000)(hp:∀y∈l,APure prog f [bj y,.ro c1,.ro a] (bD (p y))):APure prog 68 [fV l,.clo f [.ro c1,.ro a]] (bD (l.any p)):=by
 refine ap func68 ntmps68 λb=>?_
 repeat refine S0 ?_
 refine Rt.pure (zM bD ?_);exact rh p l
theorem Ig(l:List bX):APure prog 72 [Fj l] (.clo 118 [.ro [Fj l]]):=by
 refine ap func72 ntmps72 λa=>?_
 repeat refine ao ?_
 exact Rt.pure rfl
end
section
open Go Go.RowKit Go.Shelf
attribute [local go_sem] Oper.semAt_some
def uA:=@Nat.eq_zero_or_pos
theorem JE(n:Nat)(hn:n<=1000)(l:Nat)(O:Nat->Prop)(J Jx:Nat->World->Prop)(W:World)(b0 o0:Nat)(ad:Option Addr)(cap:Nat)(va:Nat->Nat->Value)
  (h0b:¬O b0/\b0<W.heap.size) (h0:W.cell? ⟨b0,o0,none⟩=some (.slice ad n cap))
  (h1:∀(k:Nat),k<n->∃b off,ad=some ⟨b,off,none⟩/\¬O b/\b<W.heap.size/\∀j,j<3->W.cell? ⟨b,off+k*3+j,none⟩=some (va k j))
  (hY:∀(k j:Nat)W1,k+j+1=n->J k W1->YieldAt Fence.wide 7 prog l #[.int .i64 (j:Nat),.agg #[va j 0,va j 1,va j 2]] W1 λe W'=>
    (e= .returned (.bool true)/\J (k+1) W'/\W1.heap.size<=W'.heap.size/\∀b,b<W.heap.size->¬O b->W'.heap[b]?=W1.heap[b]?)\/(e= .returned (.bool false)/\Jx (k+1) W'))
  (hJ:J 0 W):CallsIn Fence.wide 8 prog 118 #[.func (.yield l) #[] #[],.pointer (some ⟨b0,o0,none⟩)] W λe W'=>∃v,e= .returned v/\(J n W'\/∃k,Jx k W'):=by
 refine callsIn_of_wp func118 rfl trivial ?_ rfl;simp only[ntmps118,List.size_toArray,List.length_cons,List.length_nil,Nat.reduceAdd,Nat.reduceSub,Array.replicate_succ,Array.replicate_zero,List.push_toArray,List.append_toArray,List.nil_append,List.cons_append];have cellK:∀(wr:World),(∀b,b<W.heap.size->¬O b->wr.heap[b]?=W.heap[b]?)->∀(b o:Nat)(v:Value),b<W.heap.size->¬O b->W.cell? ⟨b,o,none⟩=some v->wr.cell? ⟨b,o,none⟩=some v:=
  λwr h b o v hb hn hc=>(World.cell?_of_block (w:=W) (a:=⟨b,o,none⟩) (h b hb hn)).trans hc
 gi_wp2
 gi_loopw [3] (λi wr=>∃k:Nat,((∃j:Nat,k+j+1=n/\i= .int .i64 j)\/(k=n/\i= .int .i64 (-1)))/\J k wr/\W.heap.size<=wr.heap.size/\∀b,b<W.heap.size->¬O b->wr.heap[b]?=W.heap[b]?) (λi _=>(intOf i+1).toNat)
 case atStart=>
  refine⟨0,?_,hJ,zT _,λ_ _ _=>rfl⟩;rcases uA n with e|e
  .exact .inr ⟨e.symm,by subst e;rfl⟩
  .exact .inl ⟨n-1,by omega,by congr 1;omega⟩
 case round=>
  obtain⟨k,hi,hJs,hzs,hks⟩:=hrel;rcases hi with⟨j,hj,rfl⟩|⟨rfl,rfl⟩
  .obtain⟨b,off,rfl,hb1,hb2,hb3⟩:=h1 j (by omega);have hs0:=cellK wr hks b0 o0 _ h0b.2 h0b.1 h0;have hc0:wr.cell? ⟨b,off+j*3,none⟩=some (va j 0):=cellK wr hks b (off+j*3+0) _ hb2 hb1 (hb3 0 (by omega));have hc1:=cellK wr hks b (off+j*3+1) _ hb2 hb1 (hb3 1 (by omega));have hc2:=cellK wr hks b (off+j*3+2) _ hb2 hb1 (hb3 2 (by omega));obtain⟨fn,tmps,assign,body,hy,hR⟩:=hY k j wr hj hJs
   gi_wp2
   refine hR.mono ?_;rintro e W3 (⟨rfl,hJ3,hz3,hk3⟩|⟨rfl,hJx3⟩)
   .gi_wp2
    go_roundw
    case rel=>
     refine⟨k+1,?_,hJ3,xH hzs hz3,λb hb hn=>(hk3 b hb hn).trans (hks b hb hn)⟩;rcases uA j with e|e
     .exact .inr ⟨by omega,by subst e;rfl⟩
     .exact .inl ⟨j-1,by omega,by congr 1;omega⟩
    case measure=>simp[intOf]
   .gi_wp2
    refine bodyPost_ret (results_none rfl _ _ _) rfl ?_;exact⟨_,rfl,.inr ⟨_,hJx3⟩⟩
  .gi_wp2
   go_end0
   exact⟨_,rfl,.inl hJs⟩
def Ms(l:List bX)(j:Nat):List D:=match l[j]? with
 |some x=>[iD j,dl x]
 |none=>[]
def gK(l:List bX):List (List D):=((List.range l.length).reverse).map (Ms l)
theorem aR1(l:List bX):(gK l).length=l.length:=by simp[gK]
theorem aR2{l:List bX}{k:Nat}{x:List D}(h:(gK l)[k]?=some x):∃(j:Nat)(y:bX),k+j+1=l.length/\l[j]?=some y/\x=[iD j,dl y]:=by
 have b:=(zE.1 h).1;rw[aR1]at b;unfold gK at h;rw[qA,vS (by simpa using b),vU,xV (by omega)]at h;simp only[Option.map_some,xB]at h;obtain⟨y,a⟩:∃y,l[l.length-1-k]?=some y:=⟨_,zD (by omega)⟩
 exact⟨l.length-1-k,y,by omega,a,by rw[←h];unfold Ms;rw[a]⟩
theorem w8(l:List bX)(G:l.length<=1000):Fg prog 118 [.ro [Fj l]] (gK l):=by
 refine⟨enters_of func118 (by kernel_rfl) rfl,λO W r n=>?_⟩
 cases r with
 |nil=>have:=n.len;simp at this
 |cons u r=>
  have:r=[]:=by have:=n.len;simpa using this
  subst this;obtain⟨X,F,D,rfl,U,T,S,R⟩:=(n.at_ 0 _ u rfl rfl).ro_inv;obtain⟨Z,A,g,V,B,I,w,m⟩:=(R 0 _ rfl).sl_inv;have c:=S 0 (by simp);rw[V,zL]at c;refine⟨((List.range l.length).reverse).map λj=>[.int .i64 (j:Nat),.agg #[g j 0,g j 1,g j 2]],by simp[gK],λk x vs hx o=>?_,λq J Jx N C Y P=>?_⟩
  .obtain⟨j,y,h1,Q,rfl⟩:=aR2 hx;have t:k<l.length:=by omega
   rw[qA,vS (by simpa using t),vU,xV (by omega)]at o;simp only[Option.map_some,xB]at o;have L:l.length-1-k=j:=by omega
   rw[L]at o;subst o;have s:(l.map dV)[j]?=some (dV y):=by rw[qA,Q];rfl
   refine .cons (.v _) (.cons (Rd.agg (dV y) [g j 0,g j 1,g j 2] rfl λi d u f a=>?_) .nil)
   match i,f,a with
   |0,f,a=>cases a;exact m j _ s 0 d f
   |1,f,a=>cases a;exact m j _ s 1 d f
   |2,f,a=>cases a;exact m j _ s 2 d f
   |i+3,f,a=>simp at a
  .refine CallsIn.mono (JE l.length G q O J Jx W X F Z A g ⟨U,T⟩ (by simpa using c) (λk K=>?_) (λk j W1 H z=>Y k _ W1 ?_ z) P) (λe W' h=>by rw[aR1];simpa using h)
   .obtain⟨b,p,M,f,a,E⟩:=w k (dV l[k]) (by rw[qA,zD K];rfl);exact⟨b,p,M,f,a,E⟩
   .rw[qA,vS (by simp;omega),vU,xV (by omega)];simp only[Option.map_some,xB];rw[show l.length-1-k=j by omega]
end
end Go.Proofs.YtilnpcolgcmofaaGreatDoor
