/- A part of the proof: Td Te Ml Tf Xd Xe Xf. -/
import Derived.Test.YtilnpcolgcmofaaGreatDoorS21
import Derived.OwnWalkIn
import Derived.LoopNIn
import Derived.LoopIn
set_option maxRecDepth 100000
set_option maxHeartbeats 20000000
set_option linter.all false
namespace Go.Proofs.YtilnpcolgcmofaaGreatDoor
open Tryz
section
open Go
theorem Ps(b:Bool)(c:Int):jg [(b,c)]=if b=true then c else 0:=by cases b<;>rfl
theorem Z'(b a:Bool)(c c':Int):jg [(b,c),(a,c')]=if b=true then c else if a=true then c' else 0:=by cases b<;>cases a<;>rfl
theorem Ol{x:ak}{i j:Int}{f:am}(k:f.kind=0):cJ x i j f=if 0<j then 13 else 0:=by
 unfold cJ;by_cases h:0<j<;>simp[k,h]
theorem Ok{x:ak}{i j:Int}{f:am}(h:f.kind=1):cJ x i j f=if aI x i j<0 then 12 else 0:=by simp[cJ,h]
theorem Oj{x:ak}{i j:Int}{f:am}(h:f.kind=4):cJ x i j f=qq x i j f:=by simp[cJ,h]
theorem Oi{x:ak}{i j:Int}{f:am}(h:f.kind=5):cJ x i j f=if x.lz.any (λl=>seq l.name f.of)then 0 else 12:=by simp only[cJ,h];simp
theorem Oh{x:ak}{i j:Int}{f:am}(h:f.kind=6):cJ x i j f=if(ga x i f).1<0 then 12 else if(ga x i f).2.length=1 then 0 else 11:=by simp[cJ,h]
theorem Og{x:ak}{i j:Int}{f:am}(h:f.kind=7):cJ x i j f=if aI x i j<0 then 12 else if(cp x i j f).1=6/\bc x (cp x i j f).2.of=i then 0 else 13:=by simp[cJ,Fg,h]
theorem Of{x:ak}{i j:Int}{f:am}(h:f.kind=8):cJ x i j f=if aI x i j<0 then 12 else if(cp x i j f).1<0\/(cp x i j f).1=0\/(cp x i j f).1=1\/(cp x i j f).1=6\/(cp x i j f).1=7 then 13 else 0:=by simp[cJ,Fg,h]
theorem SC{A B:Prop}(k:B)(h:ar B->A:=by intro q7;(first|refine bA ?_|refine aA ?_|(refine' ah ?hc ?_;(case hc=>first|exact E9 _ _|exact E' _ _ _ _)));exact q7.1):A:=h ⟨k⟩
theorem tU(x:ak)(i j:Int)(f:am)(k:f.kind=0):APure prog 310 [JW x i j f] (iD (cJ x i j f)):=by
 refine ao func310 ntmps310 λa=>?_
 repeat refine SC ?_
 refine Rt.pure (zM iD ?_);rw[Ps,Ol k];simp
theorem SB{A B:Prop}(k:B)(h:ar B->A:=by intro q7;(first|refine bA ?_|refine aA ?_|(refine' ah ?hc ?_;(case hc=>first|exact E9 _ _|exact E' _ _ _ _|exact aV6 x i j f hl hf)));exact q7.1):A:=h ⟨k⟩
theorem tT(x:ak)(i j:Int)(f:am)(hl:x.kz.length<=1000000)(hf:∀k∈x.kz,k.fields.length<=1000000)(a:f.kind=1):APure prog 311 [JW x i j f] (iD (cJ x i j f)):=by
 refine ao func311 ntmps311 λb=>?_
 repeat refine SB ?_
 refine Rt.pure (zM iD ?_);rw[Ps,Ok a];simp
theorem SA{A B:Prop}(k:B)(h:ar B->A:=by intro q7;(first|refine bA ?_|refine aA ?_|(refine' ah ?hc ?_;(case hc=>first|exact E9 _ _|exact E' _ _ _ _|exact HA|exact Ev _ _ (by assumption))));exact q7.1):A:=h ⟨k⟩
theorem XU{p:Prop}(h:p:=by
 refine ao func312 ntmps312 λBB=>?_
 repeat' first|refine SA ?_|intro b;conv=>whnf|(refine aT ?_;constructor<;>intro hc)
 all_goals(refine Rt.pure (zM iD ?_);rw[Ps,←oG];generalize(f.of.toList==({ data:=#[] }:ByteArray).toList)=e at *;simp[*])):p:=h
theorem tS(x:ak)(i j:Int)(f:am)(hl:x.kz.length<=1000000)(u:∀k∈x.kz,k.fields.length<=1000000)(n:fieldAt x i j=some f)(r:f.kind=4):APure prog 312 [JW x i j f] (iD (cJ x i j f)):=by
 obtain⟨h0,h1,k,a,q⟩:=E8 n;have t:=u k (zG a);have l:dv x i=some k:=by simp[dv,h0,a]
 have s:=L6 k f.of;rw[Oj r];simp only[qq,l];have HA:=Pe x i (aZ k f.of);by_cases hn:aZ k f.of<0
 .rw[nY hn]at HA;exact XU
 .obtain⟨g,o⟩:∃g,k.fields[(aZ k f.of).toNat]?=some g:=⟨_,zD (by omega)⟩
  rw[bb6 h0 a (by omega) o]at HA;rw[o];exact XU
theorem aR9(x:ak)(i j:Int)(f:am)(y:bW):APure prog 314 [dj y,.ro (Kt x i j f)] (bD (seq y.name f.of)):=by
 refine ao func314 ntmps314 λa=>?_
 repeat refine aq ?_
 refine Rt.pure (zM bD ?_);rfl
theorem Sz{A B:Prop}(k:B)(h:ar B->A:=by intro q7;(first|refine bA ?_|refine aA ?_|(refine' ah ?hc ?_;(case hc=>first|exact E9 _ _|exact E' _ _ _ _|exact bb7 x.lz (λy=>seq y.name f.of) hll (λy _=>aR9 x i j f y))));exact q7.1):A:=h ⟨k⟩
theorem tR(x:ak)(i j:Int)(f:am)(hll:x.lz.length<=1000000)(k:f.kind=5):APure prog 313 [JW x i j f] (iD (cJ x i j f)):=by
 refine ao func313 ntmps313 λa=>?_
 repeat refine Sz ?_
 refine Rt.pure (zM iD ?_);rw[Ps,Oi k]
 cases x.lz.any (λl=>seq l.name f.of)<;>rfl
theorem Sy{A B:Prop}(k:B)(h:ar B->A:=by intro q7;(first|refine bA ?_|refine aA ?_|(refine' ah ?hc ?_;(case hc=>first|exact E9 _ _|exact E' _ _ _ _|exact aG2 x i f h0 hl hf)));exact q7.1):A:=h ⟨k⟩
theorem tQ(x:ak)(i j:Int)(f:am)(h0:0<=i)(hl:x.kz.length<=1000000)(hf:∀k∈x.kz,k.fields.length<=1000000)(a:f.kind=6):APure prog 315 [JW x i j f] (iD (cJ x i j f)):=by
 refine ao func315 ntmps315 λb=>?_
 repeat refine Sy ?_
 refine Rt.pure (zM iD ?_);rw[Z',Oh a];simp only[zL];by_cases h1:(ga x i f).1<0<;>by_cases h2:(ga x i f).2.length=1<;>simp[h1,h2]<;>omega
theorem lB{x:ak}{i j:Int}{f:am}:(cp x i j f).1=(if(eZ x i j f).2=true then(eZ x i j f).1.kind else -1)/\(cp x i j f).2=(eZ x i j f).1:=by
 unfold cp eZ;cases gL x i j f<;>simp
theorem II{k u:Int}(B:Bool)(p:Bool)(h:0<=k/\k<=8)(a:B=true↔(k=0\/k=1\/k=6\/k=7)){_hp:p=decide (u<0)} :
  (if p=true then(12:Int)else if B=true then 13 else 0)=if u<0 then 12 else if(if true=true then k else -1)<0\/(if true=true then k else -1)=0\/(if true=true then k else -1)=1\/(if true=true then k else -1)=6\/(if true=true then k else -1)=7 then 13 else 0:=by
 subst _hp;simp only[if_true,zQ];by_cases hu:u<0
 .rw[if_pos hu,if_pos hu]
 .rw[if_neg hu,if_neg hu];by_cases hb:B=true
  .rw[if_pos hb,if_pos (by have:=a.1 hb;omega)]
  .rw[if_neg hb,if_neg (by intro b;exact hb (a.2 (by omega)))]
theorem Kz{A B:Prop}(k:B)(h:ar B->A:=by intro q7;(first|refine bA ?_|refine aA ?_|(refine' ah ?hc ?_;(case hc=>first|exact E9 _ _|exact E' _ _ _ _|exact aV6 x i j f hl hf|exact HT|exact L9 _ _ (by assumption))));exact q7.1):A:=h ⟨k⟩
theorem OO{p:Prop}(h:p:=by
 repeat' first|refine Kz ?_|intro b;conv=>whnf|(refine aT ?_;constructor<;>intro hc)
 all_goals(refine Rt.pure (zM iD ?_);rw[Z'];simp[*])):p:=h
theorem tP(x:ak)(i j:Int)(f:am)(hl:x.kz.length<=1000000)(hf:∀k∈x.kz,k.fields.length<=1000000)(a:f.kind=7):APure prog 316 [JW x i j f] (iD (cJ x i j f)):=by
 rw[Og a,lB.1,lB.2];have HT:=zc x i j f hl hf;rcases ht:eZ x i j f with⟨g,b⟩
 rw[ht]at HT;simp only at HT⊢;refine ao func316 ntmps316 λe=>?_
 cases b
 .exact OO
 .exact OO
theorem tO(x:ak)(i j:Int)(f:am)(hl:x.kz.length<=1000000)(hf:∀k∈x.kz,k.fields.length<=1000000)(q:∀k∈x.kz,∀g∈k.fields,0<=g.kind/\g.kind<=8)(o:f.kind=8):APure prog 318 [JW x i j f] (iD (cJ x i j f)):=by
 rw[Of o,lB.1];have HT:=zc x i j f hl hf;have a:(eZ x i j f).2=true->0<=(eZ x i j f).1.kind/\(eZ x i j f).1.kind<=8:=by
  unfold eZ
  cases ht:gL x i j f with
  |none=>intro h;cases h
  |some g=>
   intro _;unfold gL at ht;split at ht
   .cases ht
   .split at ht
    .obtain⟨_,_,n,l,e⟩:=E8 ht;exact q n (zG l) g (zG e)
    .cases ht
 rcases ht:eZ x i j f with⟨g,b⟩
 rw[ht]at HT a;simp only at HT a⊢;refine ao func318 ntmps318 λr=>?_
 cases b
 .exact OO
 .have a:=a rfl
  repeat' first|refine Kz ?_|intro b;conv=>whnf|(refine aT ?_;constructor<;>intro hc)
  all_goals(clear HT;refine Rt.pure (zM iD ?_);rw[Z'];refine II _ _ a ?_ (_hp:=rfl);first|(simp;omega)|(simp only[wG,false_iff];omega)|(simp only[true_iff];omega))
end
section
open Go
theorem Sw{A B:Prop}(k:B)(h:ar B->A:=by intro q7;(first|refine bA ?_|refine aA ?_|(refine' ah ?hc ?_;(case hc=>first|exact E9 _ _|exact E' _ _ _ _|exact aq6 _ _ _ _ _ _ _ _|exact L9 _ _ (by assumption))));exact q7.1):A:=h ⟨k⟩
theorem XC{p:Prop}(h:p:=by
 repeat' first|refine Sw ?_|intro b;conv=>whnf|(refine aT ?_;constructor<;>intro hc)
 all_goals(refine Rt.pure (zM iD ?_);rw[Z'];unfold eS ZW;rw[hfs];simp[*])):p:=h
theorem zg(x:ak)(i:Nat)(k:au)(hl:x.kz.length<=1000000)(a:x.kz[i]?=some k):APure prog 113 [ax x,iD i] (iD (eS x i k)):=by
 have a:x.kz[((i:Nat):Int).toNat]?=some k:=a;have l:=(zE.1 a).1;refine ao func113 ntmps113 λf=>?_;rcases hfs:k.fields with _|⟨g,r⟩
 .have h0:k.fields.length=0:=by rw[hfs];rfl
  exact XC
 .have e:k.fields[(0:Int).toNat]?=some g:=by rw[hfs];rfl
  have h0:0<k.fields.length:=by rw[hfs];simp
  exact XC
theorem zf(y r:cF):APure prog 168 [eH y,.ro (dG r)] (bD (seq y.name r.name)):=by
 refine ao func168 ntmps168 λa=>?_
 repeat refine aq ?_
 refine Rt.pure (zM bD ?_);rfl
def ruI(x:ak)(k:au)(o:Int)(r:cF)(g:Nat×Bool×Bool):Prop:=(g.1=0/\g.2.1=false/\g.2.2=false)\/(g.1=1/\g.2.1=eU x k o r.a/\g.2.2=fD x k o r.a)\/(g.1=2/\g.2.1=(eU x k o r.a||eU x k o r.b)/\g.2.2=(fD x k o r.a||fD x k o r.b))
theorem mj{A B:Prop}(k:B)(h:ar B->A:=by intro q7;(first|refine bA ?_|refine aA ?_|(refine' ah ?hc ?_;(case hc=>first|exact E9 _ _|exact E' _ _ _ _|exact aq6 _ _ _ _ _ _ _ _|exact HR|exact HF|exact HAT|exact L9 _ _ (by assumption))));exact q7.1):A:=h ⟨k⟩
theorem LA{p:Prop}(h:p:=by
 rw[←vR];exact tf (x.rules.take i) (λs=>seq s.name r.name) (by simp;omega) (λy _=>zf y r)):p:=h
theorem oU(x:ak)(i:Nat)(r:cF)(hl:x.kz.length<=1000000)(l:x.rules.length<=1000000)(a:x.rules[i]?=some r)(k:bc x r.kind<0):APure prog 114 [ax x,iD i] (iD (je x i r)):=by
 have a:x.rules[((i:Nat):Int).toNat]?=some r:=a;have e:=(zE.1 a).1;have HR:APure prog 167 [.sl 5 ((x.rules.map dG).take i),.clo 168 [.ro (dG r)]] (bD (oi x i r)):=LA;have E:je x i r=jg [(oi x i r,7),(true,12),(false,13),(seq r.a r.b,1)]:=by
  have:dv x (bc x r.kind)=none:=by unfold dv;rw[if_neg (by omega)]
  simp only[je,this]
 refine ao func114 ntmps114 λf=>?_
 repeat' first|refine mj ?_|intro b;conv=>whnf
 refine CE.pk (gK.peek (.cons (Pk.same _) (.cons (Pk.clo (.cons (Pk.ptr (j:=0) rfl (jn.refl _)) .nil)) .nil)) HR rfl) ?_
 repeat' first|refine mj ?_|intro b;conv=>whnf
 refine lU mixed ai (γ:=Nat) (λj=>[(37,iD j),(8,bD (decide (bc x r.kind<0))),(9,bD false)]) (λ_=>[(b,.cells 96 (dG r))]) (λj=>j<=2) (λj=>2-j) 0 (aj aP) dV (by omega) ?_;rintro j hj;obtain rfl|rfl|rfl:j=0\/j=1\/j=2:=by omega
 .repeat' first|refine mj ?_|intro b;conv=>whnf|(refine aT ?_;constructor<;>intro hc)
  all_goals exact⟨1,(aj aP),dV,by omega,by omega⟩
 .repeat' first|refine mj ?_|intro b;conv=>whnf|(refine aT ?_;constructor<;>intro hc)
  all_goals exact⟨2,(aj aP),dV,by omega,by omega⟩
 .repeat' first|refine mj ?_|intro b;conv=>whnf|(refine aT ?_;constructor<;>intro hc)
  refine Rt.pure (zM iD ?_);rw[E,yJ k];rfl
theorem mi{A B:Prop}(k:B)(h:ar B->A:=by intro q7;(first|refine bA ?_|refine aA ?_|(refine' ah ?hc ?_;(case hc=>first|exact E9 _ _|exact E' _ _ _ _|exact aq6 _ _ _ _ _ _ _ _|exact HR|exact Pe _ _ _|exact L9 _ _ (by assumption)|exact Ev _ _ (by assumption))));exact q7.1):A:=h ⟨k⟩
theorem lZ(x:ak)(i:Nat)(r:cF)(k:au)(hl:x.kz.length<=1000000)(o:∀k∈x.kz,k.fields.length<=1000000)(l:x.rules.length<=1000000)(a:x.rules[i]?=some r)(h0:0<=bc x r.kind)(e:x.kz[(bc x r.kind).toNat]?=some k):APure prog 114 [ax x,iD i] (iD (je x i r)):=by
 have a:x.rules[((i:Nat):Int).toNat]?=some r:=a;have f:=(zE.1 a).1;have n:=o k (zG e);have HR:APure prog 167 [.sl 5 ((x.rules.map dG).take i),.clo 168 [.ro (dG r)]] (bD (oi x i r)):=LA;have E:je x i r=jg [(oi x i r,7),(eU x k (bc x r.kind) r.a||eU x k (bc x r.kind) r.b,12),(fD x k (bc x r.kind) r.a||fD x k (bc x r.kind) r.b,13),(seq r.a r.b,1)]:=by
  have:dv x (bc x r.kind)=some k:=by unfold dv;rw[if_pos h0];exact e
  simp only[je,this]
 refine ao func114 ntmps114 λv=>?_
 repeat' first|refine mi ?_|intro b;conv=>whnf
 refine CE.pk (gK.peek (.cons (Pk.same _) (.cons (Pk.clo (.cons (Pk.ptr (j:=0) rfl (jn.refl _)) .nil)) .nil)) HR rfl) ?_;clear HR
 repeat' first|refine mi ?_|intro b;conv=>whnf
 refine lU mixed ai (γ:=Nat×Bool×Bool) (λg=>[(37,iD g.1),(8,bD g.2.1),(9,bD g.2.2)]) (λ_=>[(b,.cells 96 (dG r))]) (ruI x k (bc x r.kind) r) (λg=>2-g.1) (0,decide (bc x r.kind<0),false) (aj aP) dV (.inl ⟨rfl,by simp;omega,rfl⟩) ?_;rintro⟨j,m,w⟩ (⟨rfl,rfl,rfl⟩|⟨rfl,rfl,rfl⟩|⟨rfl,rfl,rfl⟩)
 .repeat' first|refine mi ?_|intro b;conv=>whnf|(refine aT ?_;constructor<;>intro hc)
  all_goals(refine⟨(1,eU x k (bc x r.kind) r.a,fD x k (bc x r.kind) r.a),aj (.cons rfl (.cons ?_ (.cons ?_ aP))),dV,.inr (.inl ⟨rfl,rfl,rfl⟩),by simp only;omega⟩<;>(refine zM (λb=>some (bD b)) ?_;clear E;simp only[eU,fD,←oG];generalize(r.a.toList==({ data:=#[] }:ByteArray).toList)=u at *;generalize(g0 x (bc x r.kind) (aZ k r.a)).1.kind=K at *;first|(simp[*];done)|(by_cases h4:K=4<;>by_cases h2:K=2<;>simp_all)))
 .repeat' first|refine mi ?_|intro b;conv=>whnf|(refine aT ?_;constructor<;>intro hc)
  all_goals(refine⟨(2,eU x k (bc x r.kind) r.a||eU x k (bc x r.kind) r.b,fD x k (bc x r.kind) r.a||fD x k (bc x r.kind) r.b),aj (.cons rfl (.cons ?_ (.cons ?_ aP))),dV,.inr (.inr ⟨rfl,rfl,rfl⟩),by simp only;omega⟩<;>(refine zM (λb=>some (bD b)) ?_;clear E;generalize eU x k (bc x r.kind) r.a=q at *;generalize fD x k (bc x r.kind) r.a=nb at *;simp only[eU,fD,←oG];generalize(r.b.toList==({ data:=#[] }:ByteArray).toList)=t at *;generalize(g0 x (bc x r.kind) (aZ k r.b)).1.kind=K at *;first|(simp[*];done)|(by_cases h4:K=4<;>by_cases h2:K=2<;>simp_all)))
 .repeat' first|refine mi ?_|intro b;conv=>whnf|(refine aT ?_;constructor<;>intro hc)
  refine Rt.pure (zM iD ?_);rw[E];rfl
theorem ze(x:ak)(i:Nat)(r:cF)(l:x.kz.length<=1000000)(f:∀k∈x.kz,k.fields.length<=1000000)(h:x.rules.length<=1000000)(a:x.rules[i]?=some r):APure prog 114 [ax x,iD i] (iD (je x i r)):=by
 by_cases h0:bc x r.kind<0
 .exact oU x i r l h a h0
 .have t:bc x r.kind<x.kz.length:=Fk _ _;exact lZ x i r _ l f h a (by omega) (zD (by omega))
end
section
open Go Go.Maps Go.MapKept
theorem JQ{ρ:Operand->D}{σ:af}{o:Oper}(c:o.op= .load 215 (.global 0))(a:ρ (.global 0)= .v (.pointer (some ⟨0,0,none⟩))) :
  Yd prog o ρ σ (.gl 0):=by
 intro w X η b h;obtain⟨dst,f,y,pos,t,g⟩:=o;simp only at c;subst c;have p:=(b (.global 0) (by simp[Op.operands])).val a;obtain⟨r,d,j,i⟩:=h.gok.checks;obtain⟨e,k⟩:=Mr (ai 215 _ rfl) w;refine dC (s:=Instr.loadAt 215 (η (.global 0))) (u:=.map (some r)) ?_ (Ex.refl w) (.gl _ _ (h.gok.no _ (by decide)) (yI (by decide) h.gok.sz) d);rw[p];exact QB e d
def gm(n:Int):Bool:=(qR gZ (.int .i64 n)).isSome
def O6(n:Int):D:=.agg [.v (((gZ (.int .i64 n))).getD .nilFunc)]
theorem Ft{ρ:Operand->D}{σ:af}{o:Oper}{x i:Operand}{n:Int}(j:o.op= .lookup 215 x i true)(hx:ρ x= .gl 0)(b:ρ i= .v (.int .i64 n))(H:0<=n/\n<=8) :
  Yd prog o ρ σ (.tup [O6 n,.v (.bool (gm n))]):=by
 intro w X η h t;obtain⟨dst,G,E,pos,C,g⟩:=o;simp only at j;subst j;have c:=h x (by simp[Op.operands]);rw[hx]at c;have p:=(h i (by simp[Op.operands])).val b;obtain⟨r,B,I,A⟩:=t.gok.checks;have d:η x= .map (some r):=by
  generalize y:D.gl 0=q at c;generalize η x=u at c
  cases c<;>cases y
  rename_i F _ _ k;rw[B]at k;cases k;rfl
 have f:(Lit.int .i64 n).wf=true:=by
  have:n=0\/n=1\/n=2\/n=3\/n=4\/n=5\/n=6\/n=7\/n=8:=by omega
  rcases this with rfl|rfl|rfl|rfl|rfl|rfl|rfl|rfl|rfl<;>rfl
 have z:(zeroValue 213).run prog w= .ok (.agg #[.nilFunc]) w:=by
  have:(prog.info? 213).map (λi=>i.zero)=some (some (.agg #[.nilFunc])):=by kernel_rfl
  cases b:prog.info? 213 with
  |none=>rw[b]at this;cases this
  |some m=>
   rw[b]at this;simp only[Option.map_some,xB]at this;simp[zeroValue,typeInfo,program,Sem.run,b,this]
 have a:=A.look_ok (int_keyed underlying3) underlying215 z (keyOf_int_mk underlying3 f);refine dC (s:=Instr.lookup 215 (η x) (η i) true) (by rw[d,p];exact a) (Ex.refl w) ?_;have e:(qR gZ (.int .i64 n)).getD (.agg #[.nilFunc])= .agg #[(gZ (.int .i64 n)).getD .nilFunc]:=by
  unfold qR;cases gZ (.int .i64 n)<;>rfl
 rw[e];have l:=bb.cons (w:=w) (O:=ay σ X) (Rd.agg [.v ((gZ (.int .i64 n)).getD .nilFunc)] [(gZ (.int .i64 n)).getD .nilFunc] rfl (KO [(gZ (.int .i64 n)).getD .nilFunc]).at_) (bb.cons (Rd.v (.bool (gm n))) bb.nil);exact Rd.tup [O6 n,.v (.bool (gm n))] _ l.len l.at_
end
section
open Go
theorem x8(b:Nat)(l:List fj)(v:Value)(s:af)(k f r e:Int)(j:ae 156 4 (l.map bp) v s)(hl:l.length<=1000000) :
  az prog 109 [iD k,iD f,iD r,iD e,.v (.pointer (some ⟨b,0,none⟩))] ((b,.cells 154 [.v v])::s)
   (λd σ'=>∃n g,d= .v (.tuple #[])/\σ'=(b,.cells 154 [.v n])::g/\ae 156 4 ((l++one k f r e).map bp) n g):=by
 obtain⟨a,c,rfl⟩:=j.slice;refine cU func109 ntmps109 λq=>?_
 repeat' first|refine aq ?_|(refine aT ?_;constructor<;>intro hc)
 .refine Rt.same ⟨_,s,rfl,rfl,?_⟩;unfold one;rw[if_pos (by omega)];simpa using j
 .refine Ap.go rfl rfl rfl rfl j (JU _ _) rfl (zs:=(l++one k f r e).map bp) (by unfold one;rw[if_neg (by omega)];simp[bp]) (by simp[one];split<;>simp<;>omega) (by simp[one];split<;>simp<;>omega) (λg=>_::g) (PL _) (λp o g i=>?_)
  repeat refine aq ?_
  exact Rt.same ⟨_,g,rfl,rfl,i⟩
theorem oV(y l:bW):APure prog 111 [dj y,.ro (dT l)] (bD (seq y.name l.name)):=by
 refine ao func111 ntmps111 λa=>?_
 repeat refine aq ?_
 refine Rt.pure (zM bD ?_);rfl
theorem JL{ρ:Operand->D}{σ:af}{o:Oper}{x i:Operand}{m n:Int}(h:o.op= .lookup 215 x i true)(hx:ρ x= .gl 0)(c:ρ i= .v (.int .i64 m))(b:m=n)(a:0<=n/\n<=8) :
  Yd prog o ρ σ (.tup [O6 n,.v (.bool (gm n))]):=by subst b;exact Ft h hx c a
theorem KY{x:ak}(V:Ms x){k:au}{f:am}(c:k∈x.kz)(d:f∈k.fields):0<=f.kind/\f.kind<=8:=by
 have b:=V.kz k c;simp only[ji,zJ,yA]at b;have a:=b.2 f d;simp only[dE,zJ]at a;have h:=a.2;unfold fJ at h
 repeat(split at h;omega)
 cases h
theorem at7(x y z:Nat×aE)(s:af):(x::y::z::s).Perm (s++[x,y,z]):=yT (l₁:=[x,y,z]) (l₂:=s)
theorem an9(x y z:Nat×aE)(s:af):(s++[x,y,z]).Perm (x::y::z::s):=(at7 x y z s).symm
theorem aJ{A B:Prop}(k:B)(h:ar B->A:=by intro q7;(first|refine bA ?_|refine aA ?_|(refine' ah ?hc ?_;(case hc=>first|exact E9 _ _|exact E' _ _ _ _|exact aq6 _ _ _ _ _ _ _ _|exact HV|exact zg _ _ _ (by assumption) (by assumption)|exact Ev _ _ (by assumption)|exact HC|exact ze _ _ _ (by assumption) (by assumption) (by assumption) (by assumption))));exact q7.1):A:=h ⟨k⟩
theorem YB{p:Prop}(h:p:=by
 have hcb:gm 3=false:=by rfl
 repeat' first|refine aJ ?_|intro b;conv=>whnf|refine a7.mk λy hy=>?_
 refine Ld.yd (JQ rfl rfl) ?_
 repeat' first|refine aJ ?_|intro b;conv=>whnf|refine a7.mk λy hy=>?_
 refine ci.yd rfl (JL (n:=3) rfl rfl rfl hk9 (by omega)) ?_
 repeat' first|refine aJ ?_|intro b;conv=>whnf|refine a7.mk λy hy=>?_
 refine ba (x8 _ (L++ap q (dO x)++one q (-1) (-1) (eS x q y)++ap j (fi x q y)) _ _ _ _ _ _ (by assumption) (by(try simp only[zI]);omega)) (at7 _ _ _ _) (λs'=>_::_::_::s') (an9 _ _ _) ?_;rintro _ _ ⟨v',s',rfl,rfl,hr'⟩
 repeat' first|refine aJ ?_|intro b;conv=>whnf|refine a7.mk λy hy=>?_
 exact⟨(j+1,v',s'),(aj aP),dV,⟨by simp only;omega,by simp only;rw[hSF,←zV];first|exact hr'|(rw[he]at hr';exact hr')|(rw[hFL];exact hr')⟩,by simp only;omega⟩):p:=h
theorem YA{p:Prop}(h:p:=by
 have hcb:gm 2=false:=by rfl
 repeat' first|refine aJ ?_|intro b;conv=>whnf|refine a7.mk λy hy=>?_
 refine Ld.yd (JQ rfl rfl) ?_
 repeat' first|refine aJ ?_|intro b;conv=>whnf|refine a7.mk λy hy=>?_
 refine ci.yd rfl (JL (n:=2) rfl rfl rfl hk9 (by omega)) ?_
 repeat' first|refine aJ ?_|intro b;conv=>whnf|refine a7.mk λy hy=>?_
 refine ba (x8 _ (L++ap q (dO x)++one q (-1) (-1) (eS x q y)++ap j (fi x q y)) _ _ _ _ _ _ (by assumption) (by(try simp only[zI]);omega)) (at7 _ _ _ _) (λs'=>_::_::_::s') (an9 _ _ _) ?_;rintro _ _ ⟨v',s',rfl,rfl,hr'⟩
 repeat' first|refine aJ ?_|intro b;conv=>whnf|refine a7.mk λy hy=>?_
 exact⟨(j+1,v',s'),(aj aP),dV,⟨by simp only;omega,by simp only;rw[hSF,←zV];first|exact hr'|(rw[he]at hr';exact hr')|(rw[hFL];exact hr')⟩,by simp only;omega⟩):p:=h
theorem Yz{p:Prop}(h:p:=by
 have hcb:gm 8=true:=by rfl
 repeat' first|refine aJ ?_|intro b;conv=>whnf|refine a7.mk λy hy=>?_
 refine Ld.yd (JQ rfl rfl) ?_
 repeat' first|refine aJ ?_|intro b;conv=>whnf|refine a7.mk λy hy=>?_
 refine ci.yd rfl (JL (n:=8) rfl rfl rfl hk9 (by omega)) ?_
 repeat' first|refine aJ ?_|intro b;conv=>whnf|refine a7.mk λy hy=>?_
 refine ba (x8 _ (L++ap q (dO x)++one q (-1) (-1) (eS x q y)++ap j (fi x q y)) _ _ _ _ _ _ (by assumption) (by(try simp only[zI]);omega)) (at7 _ _ _ _) (λs'=>_::_::_::s') (an9 _ _ _) ?_;rintro _ _ ⟨v',s',rfl,rfl,hr'⟩
 repeat' first|refine aJ ?_|intro b;conv=>whnf|refine a7.mk λy hy=>?_
 exact⟨(j+1,v',s'),(aj aP),dV,⟨by simp only;omega,by simp only;rw[hSF,←zV];first|exact hr'|(rw[he]at hr';exact hr')|(rw[hFL];exact hr')⟩,by simp only;omega⟩):p:=h
theorem Yy{p:Prop}(h:p:=by
 have hcb:gm 7=true:=by rfl
 repeat' first|refine aJ ?_|intro b;conv=>whnf|refine a7.mk λy hy=>?_
 refine Ld.yd (JQ rfl rfl) ?_
 repeat' first|refine aJ ?_|intro b;conv=>whnf|refine a7.mk λy hy=>?_
 refine ci.yd rfl (JL (n:=7) rfl rfl rfl hk9 (by omega)) ?_
 repeat' first|refine aJ ?_|intro b;conv=>whnf|refine a7.mk λy hy=>?_
 refine ba (x8 _ (L++ap q (dO x)++one q (-1) (-1) (eS x q y)++ap j (fi x q y)) _ _ _ _ _ _ (by assumption) (by(try simp only[zI]);omega)) (at7 _ _ _ _) (λs'=>_::_::_::s') (an9 _ _ _) ?_;rintro _ _ ⟨v',s',rfl,rfl,hr'⟩
 repeat' first|refine aJ ?_|intro b;conv=>whnf|refine a7.mk λy hy=>?_
 exact⟨(j+1,v',s'),(aj aP),dV,⟨by simp only;omega,by simp only;rw[hSF,←zV];first|exact hr'|(rw[he]at hr';exact hr')|(rw[hFL];exact hr')⟩,by simp only;omega⟩):p:=h
theorem Yx{p:Prop}(h:p:=by
 have hcb:gm 6=true:=by rfl
 repeat' first|refine aJ ?_|intro b;conv=>whnf|refine a7.mk λy hy=>?_
 refine Ld.yd (JQ rfl rfl) ?_
 repeat' first|refine aJ ?_|intro b;conv=>whnf|refine a7.mk λy hy=>?_
 refine ci.yd rfl (JL (n:=6) rfl rfl rfl hk9 (by omega)) ?_
 repeat' first|refine aJ ?_|intro b;conv=>whnf|refine a7.mk λy hy=>?_
 refine ba (x8 _ (L++ap q (dO x)++one q (-1) (-1) (eS x q y)++ap j (fi x q y)) _ _ _ _ _ _ (by assumption) (by(try simp only[zI]);omega)) (at7 _ _ _ _) (λs'=>_::_::_::s') (an9 _ _ _) ?_;rintro _ _ ⟨v',s',rfl,rfl,hr'⟩
 repeat' first|refine aJ ?_|intro b;conv=>whnf|refine a7.mk λy hy=>?_
 exact⟨(j+1,v',s'),(aj aP),dV,⟨by simp only;omega,by simp only;rw[hSF,←zV];first|exact hr'|(rw[he]at hr';exact hr')|(rw[hFL];exact hr')⟩,by simp only;omega⟩):p:=h
theorem Yw{p:Prop}(h:p:=by
 have hcb:gm 5=true:=by rfl
 repeat' first|refine aJ ?_|intro b;conv=>whnf|refine a7.mk λy hy=>?_
 refine Ld.yd (JQ rfl rfl) ?_
 repeat' first|refine aJ ?_|intro b;conv=>whnf|refine a7.mk λy hy=>?_
 refine ci.yd rfl (JL (n:=5) rfl rfl rfl hk9 (by omega)) ?_
 repeat' first|refine aJ ?_|intro b;conv=>whnf|refine a7.mk λy hy=>?_
 refine ba (x8 _ (L++ap q (dO x)++one q (-1) (-1) (eS x q y)++ap j (fi x q y)) _ _ _ _ _ _ (by assumption) (by(try simp only[zI]);omega)) (at7 _ _ _ _) (λs'=>_::_::_::s') (an9 _ _ _) ?_;rintro _ _ ⟨v',s',rfl,rfl,hr'⟩
 repeat' first|refine aJ ?_|intro b;conv=>whnf|refine a7.mk λy hy=>?_
 exact⟨(j+1,v',s'),(aj aP),dV,⟨by simp only;omega,by simp only;rw[hSF,←zV];first|exact hr'|(rw[he]at hr';exact hr')|(rw[hFL];exact hr')⟩,by simp only;omega⟩):p:=h
theorem Yv{p:Prop}(h:p:=by
 have hcb:gm 4=true:=by rfl
 repeat' first|refine aJ ?_|intro b;conv=>whnf|refine a7.mk λy hy=>?_
 refine Ld.yd (JQ rfl rfl) ?_
 repeat' first|refine aJ ?_|intro b;conv=>whnf|refine a7.mk λy hy=>?_
 refine ci.yd rfl (JL (n:=4) rfl rfl rfl hk9 (by omega)) ?_
 repeat' first|refine aJ ?_|intro b;conv=>whnf|refine a7.mk λy hy=>?_
 refine ba (x8 _ (L++ap q (dO x)++one q (-1) (-1) (eS x q y)++ap j (fi x q y)) _ _ _ _ _ _ (by assumption) (by(try simp only[zI]);omega)) (at7 _ _ _ _) (λs'=>_::_::_::s') (an9 _ _ _) ?_;rintro _ _ ⟨v',s',rfl,rfl,hr'⟩
 repeat' first|refine aJ ?_|intro b;conv=>whnf|refine a7.mk λy hy=>?_
 exact⟨(j+1,v',s'),(aj aP),dV,⟨by simp only;omega,by simp only;rw[hSF,←zV];first|exact hr'|(rw[he]at hr';exact hr')|(rw[hFL];exact hr')⟩,by simp only;omega⟩):p:=h
theorem Yu{p:Prop}(h:p:=by
 have hcb:gm 1=true:=by rfl
 repeat' first|refine aJ ?_|intro b;conv=>whnf|refine a7.mk λy hy=>?_
 refine Ld.yd (JQ rfl rfl) ?_
 repeat' first|refine aJ ?_|intro b;conv=>whnf|refine a7.mk λy hy=>?_
 refine ci.yd rfl (JL (n:=1) rfl rfl rfl hk9 (by omega)) ?_
 repeat' first|refine aJ ?_|intro b;conv=>whnf|refine a7.mk λy hy=>?_
 refine ba (x8 _ (L++ap q (dO x)++one q (-1) (-1) (eS x q y)++ap j (fi x q y)) _ _ _ _ _ _ (by assumption) (by(try simp only[zI]);omega)) (at7 _ _ _ _) (λs'=>_::_::_::s') (an9 _ _ _) ?_;rintro _ _ ⟨v',s',rfl,rfl,hr'⟩
 repeat' first|refine aJ ?_|intro b;conv=>whnf|refine a7.mk λy hy=>?_
 exact⟨(j+1,v',s'),(aj aP),dV,⟨by simp only;omega,by simp only;rw[hSF,←zV];first|exact hr'|(rw[he]at hr';exact hr')|(rw[hFL];exact hr')⟩,by simp only;omega⟩):p:=h
theorem Yt{p:Prop}(h:p:=by
 have hcb:gm 0=true:=by rfl
 repeat' first|refine aJ ?_|intro b;conv=>whnf|refine a7.mk λy hy=>?_
 refine Ld.yd (JQ rfl rfl) ?_
 repeat' first|refine aJ ?_|intro b;conv=>whnf|refine a7.mk λy hy=>?_
 refine ci.yd rfl (JL (n:=0) rfl rfl rfl hk9 (by omega)) ?_
 repeat' first|refine aJ ?_|intro b;conv=>whnf|refine a7.mk λy hy=>?_
 refine ba (x8 _ (L++ap q (dO x)++one q (-1) (-1) (eS x q y)++ap j (fi x q y)) _ _ _ _ _ _ (by assumption) (by(try simp only[zI]);omega)) (at7 _ _ _ _) (λs'=>_::_::_::s') (an9 _ _ _) ?_;rintro _ _ ⟨v',s',rfl,rfl,hr'⟩
 repeat' first|refine aJ ?_|intro b;conv=>whnf|refine a7.mk λy hy=>?_
 exact⟨(j+1,v',s'),(aj aP),dV,⟨by simp only;omega,by simp only;rw[hSF,←zV];first|exact hr'|(rw[he]at hr';exact hr')|(rw[hFL];exact hr')⟩,by simp only;omega⟩):p:=h
theorem l0(x:ak)(HV:APure prog 108 [ax x] (iD (fC x))):APure prog 66 [ax x] (.sl 4 ((ef x).map bp)):=by
 refine ao func66 ntmps66 λBB=>?_
 repeat' first|refine aJ ?_|intro b;conv=>whnf|refine a7.mk λy hy=>?_
 by_cases hv:fC x=0
 .have V:=j5 hv;have hl:x.kz.length<=1000000:=by have:=V.nk;omega
  have u:∀k∈x.kz,k.fields.length<=1000000:=λk I=>by have:=V.nf k I;omega
  have E:x.lz.length<=1000000:=by have:=V.nl;omega
  have Z:x.rules.length<=1000000:=by have:=V.nr;omega
  have P:ef x=ap x.lz.length (lh x)++ap x.kz.length (dO x)++ap x.rules.length (lN x):=by unfold ef;rw[if_pos hv]
  have hnk:=V.nk;have hnl:=V.nl;have hnr:=V.nr;have t:=V.nf;clear HV
  repeat' first|refine aJ ?_|intro b;conv=>whnf|refine a7.mk λy hy=>?_
  generalize b=C;refine lU mixed ai (γ:=Nat×Value×af) (λg=>[(28,iD g.1)]) (λg=>(C,.cells 154 [.v g.2.1])::g.2.2) (λg=>g.1<=x.lz.length/\ae 156 4 ((ap g.1 (lh x)).map bp) g.2.1 g.2.2) (λg=>x.lz.length-g.1) (0,.slice none 0 0,[]) (aj aP) dV ⟨zW _,ae.nil _ _⟩ ?_;rintro⟨q,v,s⟩ ⟨o,w⟩;simp only at o w⊢
  repeat' first|refine aJ ?_|intro b;conv=>whnf|refine a7.mk λy hy=>?_|(refine aT ?_;constructor<;>intro hc)
  .have hy:x.lz[q]?=some y:=hy;have S:=jU q (lh x);have T:=fF (aE2 x) q;rw[show lh x q=one (-1) q (-1) (if Jj x q y then 7 else 0) by simp only[lh,hy]]at S;have U:APure prog 110 [.sl 3 ((x.lz.map dT).take q),.clo 111 [.ro (dT y)]] (bD (Jj x q y)):=by
    rw[←vR];exact bb7 (x.lz.take q) (λs=>seq s.name y.name) (by simp;omega) (λz _=>oV z y)
   refine CE.pk (gK.peek (.cons (Pk.same _) (.cons (Pk.clo (.cons (Pk.ptr (j:=0) rfl (jn.refl _)) .nil)) .nil)) U rfl) ?_;clear U
   repeat' first|refine aJ ?_|intro b;conv=>whnf|refine a7.mk λy hy=>?_
   refine ba (x8 _ (ap q (lh x)) _ _ _ _ _ _ (by assumption) (by(try simp only[zI]);omega)) (JU _ _) (λs'=>_::s') (PL _) ?_;rintro _ _ ⟨v',s',rfl,rfl,hr'⟩;rw[Ps,←S]at hr'
   repeat' first|refine aJ ?_|intro b;conv=>whnf|refine a7.mk λy hy=>?_
   exact⟨(q+1,v',s'),(aj aP),dV,⟨by simp only;omega,hr'⟩,by simp only;omega⟩
  .obtain rfl:q=x.lz.length:=by omega
   have G:=fF (aE2 x) x.lz.length;generalize hL:ap x.lz.length (lh x)=L at *;refine lU mixed ai (γ:=Nat×Value×af) (λg=>[(50,iD g.1)]) (λg=>(C,.cells 154 [.v g.2.1])::g.2.2) (λg=>g.1<=x.kz.length/\ae 156 4 ((L++ap g.1 (dO x)).map bp) g.2.1 g.2.2) (λg=>x.kz.length-g.1) (0,v,s) (aj aP) dV ⟨zW _,by simpa [ap]using w⟩ ?_;rintro⟨q,v,s⟩ ⟨o,w⟩;simp only at o w⊢;have F:=fF (λi=>bg1 x i t) q
   repeat' first|refine aJ ?_|intro b;conv=>whnf|refine a7.mk λy hy=>?_|(refine aT ?_;constructor<;>intro hc)
   .have hy:x.kz[q]?=some y:=hy;have Y:=t y (zG hy);have X:y.fields.length<=1000000:=by omega
    have ho1:=Ej q (-1) (-1) (eS x q y);have K:=jU q (dO x);rw[show dO x q=one q (-1) (-1) (eS x q y)++ap y.fields.length (fi x q y) by simp only[dO,hy]]at K;refine ba (x8 _ (L++ap q (dO x)) _ _ _ _ _ _ (by assumption) (by(try simp only[zI]);omega)) (JU _ _) (λs'=>_::s') (PL _) ?_;rintro _ _ ⟨v',s',rfl,rfl,hr'⟩
    repeat' first|refine aJ ?_|intro b;conv=>whnf|refine a7.mk λy hy=>?_
    refine lU mixed ai (γ:=Nat×Value×af) (λg=>[(64,iD g.1)]) (λg=>(b,.cells 78 (bv y))::(C,.cells 154 [.v g.2.1])::g.2.2) (λg=>g.1<=y.fields.length/\ae 156 4 ((L++ap q (dO x)++one q (-1) (-1) (eS x q y)++ap g.1 (fi x q y)).map bp) g.2.1 g.2.2) (λg=>y.fields.length-g.1) (0,v',s') (aj aP) dV ⟨zW _,by simpa [ap]using hr'⟩ ?_;generalize b=b10;rintro⟨j,v,s⟩ ⟨hj,a⟩;simp only at hj a⊢;have l:=fF (Z9 x q y) j;have hSF:=jU j (fi x q y);by_cases hjl:j<y.fields.length
    .obtain⟨f,e⟩:∃f,y.fields[j]?=some f:=⟨_,zD hjl⟩
     have O:fieldAt x q j=some f:=by rw[JO (by omega) (by omega) hy];exact e
     rw[show fi x q y j=one q j (-1) (lT x q y j f) by simp only[fi,e]]at hSF;have hk8:=KY V (zG hy) (zG e);have J:∀k∈x.kz,∀g∈k.fields,0<=g.kind/\g.kind<=8:=λk I g hg=>KY V I hg;have R:y.fields[((j:Nat):Int).toNat]?=some f:=e;have hk9:f.kind=0\/f.kind=1\/f.kind=2\/f.kind=3\/f.kind=4\/f.kind=5\/f.kind=6\/f.kind=7\/f.kind=8:=by omega
     by_cases hfx:aZ y f.name<(j:Int)
     .have he:jg [(decide (aZ y f.name<(j:Int)),7)]=7:=by rw[Ps,if_pos (yJ hfx)]
      have Q:lT x q y j f=7:=by unfold lT;rw[if_pos hfx]
      rw[Q]at hSF;rcases hk9 with hk9|hk9|hk9|hk9|hk9|hk9|hk9|hk9|hk9
      .exact Yt
      .exact Yu
      .exact YA
      .exact YB
      .exact Yv
      .exact Yw
      .exact Yx
      .exact Yy
      .exact Yz
     .have he:jg [(decide (aZ y f.name<(j:Int)),7)]=0:=by rw[Ps,if_neg (by simp;omega)]
      have hFL:lT x q y j f=cJ x q j f:=by unfold lT;rw[if_neg hfx]
      rcases hk9 with hk9|hk9|hk9|hk9|hk9|hk9|hk9|hk9|hk9
      .have HC:=tU x q j f hk9;exact Yt
      .have HC:=tT x q j f hl u hk9;exact Yu
      .have HC:cJ x q j f=0:=by unfold cJ;simp[hk9]
       rw[hFL,HC]at hSF;clear hFL HC;exact YA
      .have HC:cJ x q j f=0:=by unfold cJ;simp[hk9]
       rw[hFL,HC]at hSF;clear hFL HC;exact YB
      .have HC:=tS x q j f hl u O hk9;exact Yv
      .have HC:=tR x q j f E hk9;exact Yw
      .have HC:=tQ x q j f (by omega) hl u hk9;exact Yx
      .have HC:=tP x q j f hl u hk9;exact Yy
      .have HC:=tO x q j f hl u J hk9;exact Yz
    .obtain rfl:j=y.fields.length:=by omega
     repeat' first|refine aJ ?_|intro b;conv=>whnf|refine a7.mk λy hy=>?_|(refine aT ?_;constructor<;>intro hc)
     exact⟨(q+1,v,s),(aj aP),dV,⟨by simp only;omega,by simp only;rw[K];simp only[zV]at a⊢;exact a⟩,by simp only;omega⟩
   .obtain rfl:q=x.kz.length:=by omega
    generalize hM:ap x.kz.length (dO x)=M at *;refine lU mixed ai (γ:=Nat×Value×af) (λg=>[(108,iD g.1)]) (λg=>(C,.cells 154 [.v g.2.1])::g.2.2) (λg=>g.1<=x.rules.length/\ae 156 4 ((L++M++ap g.1 (lN x)).map bp) g.2.1 g.2.2) (λg=>x.rules.length-g.1) (0,v,s) (aj aP) dV ⟨zW _,by simpa [ap]using w⟩ ?_;rintro⟨q,v,s⟩ ⟨o,a⟩;simp only at o a⊢;have l:=fF (bd5 x) q;have S:=jU q (lN x);by_cases hql:q<x.rules.length
    .obtain⟨r,D⟩:∃r,x.rules[q]?=some r:=⟨_,zD hql⟩
     rw[show lN x q=one (-1) (-1) q (je x q r) by simp only[lN,D]]at S
     repeat' first|refine aJ ?_|intro b;conv=>whnf|refine a7.mk λy hy=>?_
     refine ba (x8 _ (L++M++ap q (lN x)) _ _ _ _ _ _ (by assumption) (by(try simp only[zI]);omega)) (bR _) (λs'=>s') cZ ?_;rintro _ _ ⟨v',s',rfl,rfl,hr'⟩
     repeat' first|refine aJ ?_|intro b;conv=>whnf|refine a7.mk λy hy=>?_
     exact⟨(q+1,v',s'),(aj aP),dV,⟨by simp only;omega,by simp only;rw[S,←zV];exact hr'⟩,by simp only;omega⟩
    .obtain rfl:q=x.rules.length:=by omega
     rw[P]
     repeat' first|refine aJ ?_|intro b;conv=>whnf|refine a7.mk λy hy=>?_|(refine aT ?_;constructor<;>intro hc)
     exact Rt.by (Vs.trans (Vs.drop (yG _ _)) (Vs.row a (bR _))) rfl
 .have P:ef x=[(-1,-1,-1,fC x)]:=by unfold ef;rw[if_neg hv]
  rw[P]
  repeat' first|refine aJ ?_|intro b;conv=>whnf|refine a7.mk λy hy=>?_|(refine aT ?_;constructor<;>intro hc)
  exact Rt.same rfl
end
section
open Go Go.Maps Go.MapKept
theorem E7(b:Bool)(e:Int):APure prog 40 [bD b,iD e] (iD (if b=true then e else 0)):=by
 refine ao func40 ntmps40 λa=>?_
 cases b
 .repeat refine aq ?_
  refine Rt.pure (zM iD ?_);rfl
 .repeat refine aq ?_
  refine Rt.pure (zM iD ?_);rfl
def fB(x:ak)(w:Wd)(L:List Rf)(r l:Nat)(v:Value):List D:=[iD x.vz,Nb x.kz,EX x.lz,M' x.rules,lI w,gd L,.v (.map (some r)),.v (.map (some l)),.v v]
theorem QR(x:ak)(w:Wd)(L:List Rf)(r n c:Nat)(l:List fj)(v:Value)(s:af)(k i f e:Int)(u:ae 108 4 (l.map bp) v s)(hl:l.length<=100000000) :
  az prog 39 [.v (.pointer (some ⟨c,0,none⟩)),iD k,iD i,iD f,.sl 1 [[iD e]]] ((c,.cells 122 (fB x w L r n v))::s)
   (λd σ'=>∃t j,d= .v (.tuple #[])/\σ'=(c,.cells 122 (fB x w L r n t))::j/\ae 108 4 ((l++one k i f e).map bp) t j):=by
 obtain⟨a,z,rfl⟩:=u.slice;refine cU func39 ntmps39 λE=>?_
 repeat refine aq ?_
 refine aV mixed ai (γ:=Nat×Value×af) (λg=>[(14,iD g.1)]) (λg=>(c,.cells 122 (fB x w L r n g.2.1))::g.2.2) (λg=>g.1<=1/\ae 108 4 ((l++(if g.1=0 then[]else one k i f e)).map bp) g.2.1 g.2.2) (λg=>1-g.1) (0,.slice a (l.map bp).length z,s) (aj aP) (Sc.refl _) ⟨by simp,by simpa using u⟩ ?_;rintro⟨q,v,s⟩ ⟨y,b⟩;simp only at y b⊢;by_cases h0:q=0
 .subst h0;simp only[if_true,zZ]at b
  repeat' first|refine aq ?_|(refine aT ?_;constructor<;>intro hc)
  .exact⟨(1,v,s),(aj aP),Sc.refl _,⟨by simp,by
    simp only[show(1:Nat)≠0 by decide,uC];unfold one;rw[if_pos (by omega)];simpa using b⟩,by simp only;omega⟩
  .refine Ap.go rfl rfl rfl rfl b (JU _ _) rfl (zs:=(l++one k i f e).map bp) (by unfold one;rw[if_neg (by omega)];simp[bp]) (by simp[one];split<;>simp<;>omega) (by simp[one];split<;>simp<;>omega) (λj=>_::j) (PL _) (λD C j o=>?_)
   repeat refine aq ?_
   exact⟨(1,_,j),(aj aP),Sc.refl _,⟨by simp,by simpa using o⟩,by simp only;omega⟩
 .obtain rfl:q=1:=by omega
  repeat refine aq ?_
  exact Rt.same ⟨v,s,rfl,rfl,by simpa using b⟩
noncomputable def KF (k:List Int):Value->Option Value
 |.int .i64 n=>if n∈k then some (.bool true)else none
 |_=>none
theorem P6:KF []=λ_=>none:=by
 funext v
 unfold KF;split<;>simp
theorem Kf(k:List Int)(n:Int):de (KF k) (.int .i64 n) (.bool true)=KF (n::k):=by
 funext v
 unfold de;split
 .rename_i h;subst h;simp[KF]
 .rename_i h;unfold KF;split
  .rename_i m;have:m≠n:=λe=>h (by rw[e]);simp[this]
  .rfl
theorem P7(k:List Int)(n:Int):((KF k) (.int .i64 n)).getD (.bool false)= .bool (decide (n∈k)):=by
 unfold KF;by_cases h:n∈k<;>simp[h]
theorem tF(w:World):(zeroValue 4).run prog w= .ok (.bool false) w:=by kernel_rfl
theorem Ay{A B:Prop}(k:B)(h:ar B->A:=by intro q7;(first|refine bA ?_|refine aA ?_|(refine' ah ?hc ?_;(case hc=>exact E7 _ _)));exact q7.1):A:=h ⟨k⟩
theorem qv(n:Int)(d:am):APure prog 73 [iD n,.ro (aH d)] (iD (Hg n d.lo d.hi)):=by
 refine ao func73 ntmps73 λa=>?_;unfold Hg;by_cases h1:n<d.lo
 .rw[if_pos (.inl h1)]
  repeat refine Ay ?_
  refine Rt.pure (zM iD ?_);rfl
 .by_cases h2:d.hi<n
  .rw[if_pos (.inr h2)]
   repeat refine Ay ?_
   refine Rt.pure (zM iD ?_);simp[h2]
  .rw[if_neg (by omega)]
   repeat refine Ay ?_
   refine Rt.pure (zM iD ?_);simp[h2]
theorem bp6{A B:Prop}(k:B)(h:ar B->A:=by intro q7;(first|refine bA ?_|refine ir ?_|(refine' ah ?hc ?_;(case hc=>first|exact E7 _ _|exact HC)));exact q7.1):A:=h ⟨k⟩
theorem bp5{A B:Prop}(k:B)(h:ar B->A:=by intro q7;(first|refine bA ?_|refine aA ?_|(refine' ah ?hc ?_;(case hc=>first|exact E7 _ _|exact HC)));exact q7.1):A:=h ⟨k⟩
end
section
open Go Go.Maps Go.MapKept
theorem N7(n:Int):APure prog 71 [iD n] (bD (!fT n)):=by
 refine ao func71 ntmps71 λa=>?_
 repeat' first|refine aq ?_|(refine aT ?_;constructor<;>intro hc)
 .refine Rt.pure (zM bD ?_);unfold fT;simp;omega
 .refine Rt.pure (zM bD ?_);unfold fT;simp;omega
theorem Oy{f:FuncId}(l:List Int)(p:Int->Bool)(hl:l.length<=1000000)(hp:∀y∈l,APure prog f [iD y] (bD (p y))):APure prog 117 [bi l,.v (.func (.func f) #[] #[])] (iD (idx p l)):=by
 refine ao func117 ntmps117 λa=>?_;exact nP
theorem Su{A B:Prop}(k:B)(h:ar B->A:=by intro q7;(first|refine bA ?_|refine aA ?_|(refine' ah ?hc ?_;(case hc=>exact Oy l p hl hp)));exact q7.1):A:=h ⟨k⟩
theorem Jy{f:FuncId}(l:List Int)(p:Int->Bool)(hl:l.length<=1000000)(hp:∀y∈l,APure prog f [iD y] (bD (p y))):APure prog 70 [bi l,.v (.func (.func f) #[] #[])] (bD (l.any p)):=by
 refine ao func70 ntmps70 λa=>?_
 repeat refine Su ?_
 refine Rt.pure (zM bD ?_);exact qM p l
theorem Ky{A B:Prop}(k:B)(h:ar B->A:=by intro q7;(first|refine bA ?_|refine aA ?_|(refine' ah ?hc ?_;(case hc=>exact Jy _ _ (by assumption) (λy _=>N7 y))));exact q7.1):A:=h ⟨k⟩
def vJ:=@List.all_eq_not_any_not
theorem N6(x:ak)(k:Nat)(kd:au)(r:List Int)(a:x.kz[k]?=some kd)(h1:x.kz.length<=1000000)(h2:r.length<=1000000):APure prog 69 [bi r,.ro (uh x),.ro [iD k]] (bD (!dA x k r)):=by
 have b:x.kz[((k:Nat):Int).toNat]?=some kd:=a;have q:=(zE.1 a).1;have E:(r.any λn=>!fT n)=!r.all fT:=by rw[vJ];simp
 have R:dA x k r=(decide (r.length=kd.fields.length)&&r.all fT):=by unfold dA sC;rw[a]
 refine ao func69 ntmps69 λe=>?_;by_cases hl:r.length=kd.fields.length
 .repeat refine Ky ?_
  refine Rt.pure (zM bD ?_);rw[R,E];simp[hl]
 .repeat refine Ky ?_
  refine Rt.pure (zM bD ?_);rw[R];simp[hl]
theorem W0{f:FuncId}{c1 a:List D}(l:List (List Int))(p:List Int->Bool)(hl:l.length<=1000000)(hp:∀y∈l,APure prog f [bi y,.ro c1,.ro a] (bD (p y))):APure prog 116 [fP l,.clo f [.ro c1,.ro a]] (iD (idx p l)):=by
 refine ao func116 ntmps116 λb=>?_;exact nP
theorem Ss{A B:Prop}(k:B)(h:ar B->A:=by intro q7;(first|refine bA ?_|refine aA ?_|(refine' ah ?hc ?_;(case hc=>exact W0 l p hl hp)));exact q7.1):A:=h ⟨k⟩
theorem Pv{f:FuncId}{c1 a:List D}(l:List (List Int))(p:List Int->Bool)(hl:l.length<=1000000)(hp:∀y∈l,APure prog f [bi y,.ro c1,.ro a] (bD (p y))):APure prog 68 [fP l,.clo f [.ro c1,.ro a]] (bD (l.any p)):=by
 refine ao func68 ntmps68 λb=>?_
 repeat refine Ss ?_
 refine Rt.pure (zM bD ?_);exact qM p l
theorem Hu(l:List bW):APure prog 72 [EX l] (.clo 118 [.ro [EX l]]):=by
 refine ao func72 ntmps72 λa=>?_
 repeat refine aq ?_
 exact Rt.pure rfl
end
section
open Go Go.RowKit Go.Shelf
attribute [local go_sem] Oper.semAt_some
def uA:=@Nat.eq_zero_or_pos
theorem I0(n:Nat)(hn:n<=1000)(l:Nat)(O:Nat->Prop)(J Jx:Nat->World->Prop)(W:World)(b0 o0:Nat)(ad:Option Addr)(cap:Nat)(va:Nat->Nat->Value)
  (h0b:¬O b0/\b0<W.heap.size) (h0:W.cell? ⟨b0,o0,none⟩=some (.slice ad n cap))
  (h1:∀(k:Nat),k<n->∃b off,ad=some ⟨b,off,none⟩/\¬O b/\b<W.heap.size/\∀j,j<3->W.cell? ⟨b,off+k*3+j,none⟩=some (va k j))
  (hY:∀(k j:Nat)W1,k+j+1=n->J k W1->YieldAt Fence.wide 7 prog l #[.int .i64 (j:Nat),.agg #[va j 0,va j 1,va j 2]] W1 λe W'=>
    (e= .returned (.bool true)/\J (k+1) W'/\W1.heap.size<=W'.heap.size/\∀b,b<W.heap.size->¬O b->W'.heap[b]?=W1.heap[b]?)\/(e= .returned (.bool false)/\Jx (k+1) W'))
  (hJ:J 0 W):CallsIn Fence.wide 8 prog 118 #[.func (.yield l) #[] #[],.pointer (some ⟨b0,o0,none⟩)] W λe W'=>∃v,e= .returned v/\(J n W'\/∃k,Jx k W'):=by
 refine callsIn_of_wp func118 rfl trivial ?_ rfl;simp only[ntmps118,List.size_toArray,List.length_cons,List.length_nil,Nat.reduceAdd,Nat.reduceSub,Array.replicate_succ,Array.replicate_zero,List.push_toArray,List.append_toArray,List.nil_append,List.cons_append];have cellK:∀(wr:World),(∀b,b<W.heap.size->¬O b->wr.heap[b]?=W.heap[b]?)->∀(b o:Nat)(v:Value),b<W.heap.size->¬O b->W.cell? ⟨b,o,none⟩=some v->wr.cell? ⟨b,o,none⟩=some v:=
  λwr h b o v hb hn hc=>(World.cell?_of_block (w:=W) (a:=⟨b,o,none⟩) (h b hb hn)).trans hc
 gi_wp2
 gi_loopw [3] (λi wr=>∃k:Nat,((∃j:Nat,k+j+1=n/\i= .int .i64 j)\/(k=n/\i= .int .i64 (-1)))/\J k wr/\W.heap.size<=wr.heap.size/\∀b,b<W.heap.size->¬O b->wr.heap[b]?=W.heap[b]?) (λi _=>(intOf i+1).toNat)
 case atStart=>
  refine⟨0,?_,hJ,zT _,λ_ _ _=>rfl⟩;rcases uA n with e|e
  .exact .inr ⟨e.symm,by subst e;rfl⟩
  .exact .inl ⟨n-1,by omega,by congr 1;omega⟩
 case round=>
  obtain⟨k,hi,hJs,hzs,hks⟩:=hrel;rcases hi with⟨j,hj,rfl⟩|⟨rfl,rfl⟩
  .obtain⟨b,off,rfl,hb1,hb2,hb3⟩:=h1 j (by omega);have hs0:=cellK wr hks b0 o0 _ h0b.2 h0b.1 h0;have hc0:wr.cell? ⟨b,off+j*3,none⟩=some (va j 0):=cellK wr hks b (off+j*3+0) _ hb2 hb1 (hb3 0 (by omega));have hc1:=cellK wr hks b (off+j*3+1) _ hb2 hb1 (hb3 1 (by omega));have hc2:=cellK wr hks b (off+j*3+2) _ hb2 hb1 (hb3 2 (by omega));obtain⟨fn,tmps,assign,body,hy,hR⟩:=hY k j wr hj hJs
   gi_wp2
   refine hR.mono ?_;rintro e W3 (⟨rfl,hJ3,hz3,hk3⟩|⟨rfl,hJx3⟩)
   .gi_wp2
    go_roundw
    case rel=>
     refine⟨k+1,?_,hJ3,xH hzs hz3,λb hb hn=>(hk3 b hb hn).trans (hks b hb hn)⟩;rcases uA j with e|e
     .exact .inr ⟨by omega,by subst e;rfl⟩
     .exact .inl ⟨j-1,by omega,by congr 1;omega⟩
    case measure=>simp[intOf]
   .gi_wp2
    refine bodyPost_ret (results_none rfl _ _ _) rfl ?_;exact⟨_,rfl,.inr ⟨_,hJx3⟩⟩
  .gi_wp2
   go_end0
   exact⟨_,rfl,.inl hJs⟩
def LP(l:List bW)(j:Nat):List D:=match l[j]? with
 |some x=>[iD j,dj x]
 |none=>[]
def LJ(l:List bW):List (List D):=((List.range l.length).reverse).map (LP l)
theorem aQ8(l:List bW):(LJ l).length=l.length:=by simp[LJ]
theorem aQ9{l:List bW}{k:Nat}{x:List D}(h:(LJ l)[k]?=some x):∃(j:Nat)(y:bW),k+j+1=l.length/\l[j]?=some y/\x=[iD j,dj y]:=by
 have b:=(zE.1 h).1;rw[aQ8]at b;unfold LJ at h;rw[qA,vS (by simpa using b),vU,xV (by omega)]at h;simp only[Option.map_some,xB]at h;obtain⟨y,a⟩:∃y,l[l.length-1-k]?=some y:=⟨_,zD (by omega)⟩
 exact⟨l.length-1-k,y,by omega,a,by rw[←h];unfold LP;rw[a]⟩
theorem v8(l:List bW)(G:l.length<=1000):EU prog 118 [.ro [EX l]] (LJ l):=by
 refine⟨enters_of func118 (by kernel_rfl) rfl,λO W r n=>?_⟩
 cases r with
 |nil=>have:=n.len;simp at this
 |cons u r=>
  have:r=[]:=by have:=n.len;simpa using this
  subst this;obtain⟨X,F,D,rfl,U,T,S,R⟩:=(n.at_ 0 _ u rfl rfl).ro_inv;obtain⟨Z,A,g,V,B,I,w,m⟩:=(R 0 _ rfl).sl_inv;have c:=S 0 (by simp);rw[V,zL]at c;refine⟨((List.range l.length).reverse).map λj=>[.int .i64 (j:Nat),.agg #[g j 0,g j 1,g j 2]],by simp[LJ],λk x vs hx o=>?_,λq J Jx N C Y P=>?_⟩
  .obtain⟨j,y,h1,Q,rfl⟩:=aQ9 hx;have t:k<l.length:=by omega
   rw[qA,vS (by simpa using t),vU,xV (by omega)]at o;simp only[Option.map_some,xB]at o;have L:l.length-1-k=j:=by omega
   rw[L]at o;subst o;have s:(l.map dT)[j]?=some (dT y):=by rw[qA,Q];rfl
   refine .cons (.v _) (.cons (Rd.agg (dT y) [g j 0,g j 1,g j 2] rfl λi d u f a=>?_) .nil)
   match i,f,a with
   |0,f,a=>cases a;exact m j _ s 0 d f
   |1,f,a=>cases a;exact m j _ s 1 d f
   |2,f,a=>cases a;exact m j _ s 2 d f
   |i+3,f,a=>simp at a
  .refine CallsIn.mono (I0 l.length G q O J Jx W X F Z A g ⟨U,T⟩ (by simpa using c) (λk K=>?_) (λk j W1 H z=>Y k _ W1 ?_ z) P) (λe W' h=>by rw[aQ8];simpa using h)
   .obtain⟨b,p,M,f,a,E⟩:=w k (dT l[k]) (by rw[qA,zD K];rfl);exact⟨b,p,M,f,a,E⟩
   .rw[qA,vS (by simp;omega),vU,xV (by omega)];simp only[Option.map_some,xB];rw[show l.length-1-k=j by omega]
end
end Go.Proofs.YtilnpcolgcmofaaGreatDoor
