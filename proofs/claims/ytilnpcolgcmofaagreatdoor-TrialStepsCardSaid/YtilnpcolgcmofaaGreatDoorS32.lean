/- A part of the proof: Md Me Br Xi Vb R09h Vi Ld. -/
import Derived.Test.YtilnpcolgcmofaaGreatDoorS31
import Derived.Laws.StructEq
import Derived.ChangeKeysEq
import Derived.Test.YtilnpcolgcmofaaGreatDoorRows
import Derived.LaidMore
import Derived.OpenShut
import Derived.LaidHandle
import Derived.LaidSub
import Derived.Lib.LaidU8
import Derived.WideKeyElems2
import Derived.Maps.RangeWalk
import Derived.Maps.Keyed
set_option maxRecDepth 100000
set_option maxHeartbeats 20000000
set_option linter.all false
namespace Go.Proofs.YtilnpcolgcmofaaGreatDoor
open Go.Proofs.Tryz
section
open Go
theorem XQ{p:Prop}(h:p:=by
 have hab:a=b:=xY λi=>by
  by_cases hi:i<k
  .exact hno i hi
  .rw[yY.2 (by omega),yY.2 (by omega)]
 repeat refine aq ?_
 refine Rt.pure (zM bD ?_);exact(yJ hab).symm):p:=h
theorem Xp{p:Prop}(h:p:=by
 repeat refine aq ?_
 refine⟨k+1,rfl,rfl,⟨by omega,λi hi=>?_⟩,by omega⟩;by_cases e:i=k
 .subst e;rw[hx',hy',he]
 .exact hno i (by omega)):p:=h
theorem LC{p:Prop}(h:p:=by
 have hne:a≠b:=λh=>hl (by rw[h])
 repeat refine aq ?_
 refine Rt.pure (zM bD ?_);exact(yE hne).symm):p:=h
theorem Nv(a b:List Int)(g:a.length<=1000000)(hb:b.length<=1000000):APure prog 268 [bi a,bi b] (bD (decide (a=b))):=by
 refine ao func268 ntmps268 λj=>?_;by_cases hl:a.length=b.length
 .repeat refine aq ?_
  refine fW mixed ai (γ:=Nat) (λk=>[(13,iD k)]) (λ_=>[]) (λk=>k<=a.length/\∀i,i<k->a[i]?=b[i]?) (λk=>a.length-k) 0 rfl rfl ⟨zW _,λi h=>by omega⟩ ?_;rintro k ⟨f,hno⟩;by_cases hlt:k<a.length
  .obtain⟨x,hx⟩:∃x,a[((k:Nat):Int).toNat]?=some x:=⟨_,zD hlt⟩
   obtain⟨y,hy⟩:∃y,b[((k:Nat):Int).toNat]?=some y:=⟨_,zD (by show k<_;omega)⟩
   have hx':a[k]?=some x:=hx;have hy':b[k]?=some y:=hy;by_cases he:x=y
   .skip
    exact Xp
   .have hne:a≠b:=λh=>he (by rw[h,hy']at hx';cases hx';rfl)
    skip
    repeat refine aq ?_
    refine Rt.pure (zM bD ?_);exact(yE hne).symm
  .exact XQ
 .exact LC
theorem Nu(a b:List ByteArray)(g:a.length<=1000000)(hb:b.length<=1000000):APure prog 267 [gA a,gA b] (bD (decide (a=b))):=by
 refine ao func267 ntmps267 λj=>?_;by_cases hl:a.length=b.length
 .repeat refine aq ?_
  refine fW mixed ai (γ:=Nat) (λk=>[(13,iD k)]) (λ_=>[]) (λk=>k<=a.length/\∀i,i<k->a[i]?=b[i]?) (λk=>a.length-k) 0 rfl rfl ⟨zW _,λi h=>by omega⟩ ?_;rintro k ⟨f,hno⟩;by_cases hlt:k<a.length
  .obtain⟨x,hx⟩:∃x,a[((k:Nat):Int).toNat]?=some x:=⟨_,zD hlt⟩
   obtain⟨y,hy⟩:∃y,b[((k:Nat):Int).toNat]?=some y:=⟨_,zD (by show k<_;omega)⟩
   have hx':a[k]?=some x:=hx;have hy':b[k]?=some y:=hy;by_cases he:x=y
   ·(have hs:seq x y=true:=(Ek x y).2 he)
    exact Xp
   .have hne:a≠b:=λh=>he (by rw[h,hy']at hx';cases hx';rfl)
    (have hs:seq x y=false:=by cases h:seq x y with|false=>rfl|true=>exact absurd ((Ek x y).1 h) he)
    repeat refine aq ?_
    refine Rt.pure (zM bD ?_);exact(yE hne).symm
  .exact XQ
 .exact LC
theorem jr{A B:Prop}(k:B)(h:ar B->A:=by intro q7;(first|refine bA ?_|refine aA ?_|(refine' ah ?hc ?_;(case hc=>first|exact Mh _ _ _|exact Et _ aY hw (λy _=>PF y))));exact q7.1):A:=h ⟨k⟩
theorem bd2(ws:List ByteArray)(gs:List Int)(hw:ws.length<=1000000)(s:gs.length<=1000000):APure prog 254 [gA ws,bi gs] (bD (oc ws gs)):=by
 refine ao func254 ntmps254 λt=>?_
 repeat refine jr ?_
 refine fW mixed ai (γ:=Nat×Int) (λg=>[(10,iD g.1),(5,iD g.2)]) (λ_=>[]) (λg=>g.1<=gs.length/\g.2=(gs.take g.1).sum/\(∀(m:Nat)y,m<g.1->gs[m]?=some y->cz y 0 1048576=true)/\0<=g.2/\g.2<=1048576*g.1) (λg=>gs.length-g.1) (0,0) rfl rfl ⟨by omega,by simp,λm y r=>by omega,by simp,by simp⟩ ?_;rintro⟨q,u⟩ ⟨j,f,o,b,a⟩;simp only at j f o b a⊢;by_cases hlt:q<gs.length
 .obtain⟨y,hy⟩:∃y,gs[q]?=some y:=⟨_,zD hlt⟩
  have i:(gs.take (q+1)).sum=(gs.take q).sum+y:=by
   rw[xC,hy];simp
  cases h1:cz y 0 1048576 with
  |true=>
   have k:0<=y/\y<=1048576:=by simpa [cz]using h1
   repeat' first|refine jr ?_|(refine aT ?_;constructor<;>intro hc)
   exact⟨(q+1,u+y),rfl,rfl,⟨by simp only;omega,by simp only;omega,Jm o hy h1,by simp only;omega,by simp only;omega⟩,by simp only;omega⟩
  |false=>
   repeat' first|refine jr ?_|(refine aT ?_;constructor<;>intro hc)
   all_goals(refine Rt.pure (zM bD ?_);simp only[oc,JN (p:=λn=>cz n 0 1048576) hy h1];simp)
 .obtain rfl:q=gs.length:=by omega
  have l:gs.all (λn=>cz n 0 1048576)=true:=JK o;rw[yM]at f;have e:oc ws gs=(cz ws.length 1 12&&decide (ws.length=gs.length)&&decide (0<gs.sum)&&ws.all aY):=by simp[oc,l]
  rw[←f]at e;clear f o b a l j hlt;by_cases e2:ws.length=gs.length
  .by_cases e3:0<u
   .repeat' first|refine jr ?_|(refine aT ?_;constructor<;>intro hc)
    all_goals(refine Rt.pure (zM bD ?_);rw[e];simp_all)
   .rw[yE e3]at e
    repeat' first|refine jr ?_|(refine aT ?_;constructor<;>intro hc)
    all_goals(refine Rt.pure (zM bD ?_);rw[e];simp)
  .repeat' first|refine jr ?_|(refine aT ?_;constructor<;>intro hc)
   all_goals(refine Rt.pure (zM bD ?_);rw[e,yE e2];simp)
def JT(f:am):am:=⟨f.name,if hZ f.kind then f.of else⟨#[]⟩,if ia f.kind then f.up else⟨#[]⟩,f.kind,if iJ f.kind then f.lo else 0,if hY f.kind then f.hi else 0,if ej f.kind then f.words else[],if ej f.kind then f.wz else[]⟩
def rQ(f g:am):Bool:=seq f.name g.name&&seq f.of g.of&&seq f.up g.up&&decide (f.kind=g.kind)&&decide (f.lo=g.lo)&&decide (f.hi=g.hi)&&decide (f.words=g.words)&&decide (f.wz=g.wz)
theorem RW{A B:Prop}(k:B)(h:ar B->A:=by intro q7;(first|refine bA ?_|refine aA ?_|(refine' ah ?hc ?_;(case hc=>first|exact Nu _ _ (by assumption) (by assumption)|exact Nv _ _ (by assumption) (by assumption))));exact q7.1):A:=h ⟨k⟩
theorem GO(f g:am)(h1:f.words.length<=1000000)(h2:f.wz.length<=1000000)(h3:g.words.length<=1000000)(h4:g.wz.length<=1000000):APure prog 252 [bM f,bM g] (bD (rQ f g)):=by
 refine ao func252 ntmps252 λa=>?_
 repeat' first|refine RW ?_|(refine aT ?_;constructor<;>intro hc)
 all_goals(refine Rt.pure (zM bD ?_);simp[rQ,seq, *])
theorem ff{p:Prop}(h:p:=by first|exact Vd.same hs0 _|exact Vd.nil _|(rw[h];exact Vd.same hs0 _)):p:=h
theorem GP(f:am):APure prog 253 [bM f] (bM (JT f)):=by
 have hs0:∀{σ:af}(z:Nat),z∈aQ ([]:af)->z∈aQ σ:=λz h=>by cases h
 refine ao func253 ntmps253 λr=>?_;by_cases h:f.kind=0\/f.kind=1\/f.kind=2\/f.kind=3\/f.kind=4\/f.kind=5\/f.kind=6\/f.kind=7\/f.kind=8
 .rcases h with h|h|h|h|h|h|h|h|h
  all_goals
   repeat' first|refine aq ?_|intro b;conv=>whnf
   refine Rs.c ai (m:=1) rfl rfl rfl rfl rfl rfl ?_
   repeat' first|refine aq ?_|intro b;conv=>whnf
   have e:JT f=⟨f.name,if hZ f.kind then f.of else⟨#[]⟩,if ia f.kind then f.up else⟨#[]⟩,f.kind,if iJ f.kind then f.lo else 0,if hY f.kind then f.hi else 0,if ej f.kind then f.words else[],if ej f.kind then f.wz else[]⟩:=rfl;rw[h]at e;rw[e]
   (exact Rt.vs (Vs.vd (τ:=[]) ⟨_,xA (zZ _).symm⟩ (Vd.agg (.cons ff (.cons ff (.cons ff (.cons ff (.cons ff (.cons ff (.cons ff (.cons ff .nil))))))))))) 
 .have q:¬f.kind=0:=by omega
  have o:¬f.kind=1:=by omega
  have l:¬f.kind=2:=by omega
  have k:¬f.kind=3:=by omega
  have j:¬f.kind=4:=by omega
  have i:¬f.kind=5:=by omega
  have g:¬f.kind=6:=by omega
  have a:¬f.kind=7:=by omega
  have n:¬f.kind=8:=by omega
  repeat' first|refine aq ?_|intro b;conv=>whnf
  refine Rs.c ai (m:=1) rfl rfl rfl rfl rfl rfl ?_
  repeat' first|refine aq ?_|intro b;conv=>whnf
  have e:JT f=⟨f.name,⟨#[]⟩,⟨#[]⟩,f.kind,0,0,[],[]⟩:=by simp[JT,hZ,ia,iJ,hY,ej,q,o,l,k,j,i,g,a,n]
  rw[e]
  (exact Rt.vs (Vs.vd (τ:=[]) ⟨_,xA (zZ _).symm⟩ (Vd.agg (.cons ff (.cons ff (.cons ff (.cons ff (.cons ff (.cons ff (.cons ff (.cons ff .nil))))))))))) 
end
section
open Go
theorem AH(a:ByteArray):seq a ⟨#[]⟩=dF a:=by
 unfold seq dF;have e:(⟨#[]⟩:ByteArray).toList=[]:=by rw[ByteArray.toList_eq]
 rw[e]
 cases a.toList<;>rfl
theorem AG(a:ByteArray):seq a a=true:=by unfold seq;simp
theorem pd(f:am):rQ f (JT f)=lR f:=by
 obtain⟨n,o,u,k,a,i,ws,g⟩:=f;have s:∀(c:Bool)(x:ByteArray),seq x (if c=true then x else⟨#[]⟩)=(c||dF x):=λc x=>by cases c<;>simp[AG,AH]
 have h:∀(c:Bool)(x:Int),decide (x=(if c=true then x else 0))=(c||x==0):=λc x=>by
  cases c
  .simp only[wG,uC,Bool.false_or];rfl
  .simp
 have l:∀(c:Bool),(decide (ws=(if c=true then ws else[]))&&decide (g=(if c=true then g else[])))=(c||(ws.isEmpty&&g.isEmpty)):=λc=>by
  cases c
  .cases ws<;>cases g<;>simp
  .simp
 simp only[rQ,JT,lR,s,h,AG,Bool.true_and,decide_true,Bool.and_true];rw[Bool.and_assoc _ (decide (ws=_)),l]
theorem rF{A B:Prop}(k:B)(h:ar B->A:=by intro q7;(first|refine bA ?_|refine aA ?_|(refine' ah ?hc ?_;(case hc=>first|exact HN|exact HO|exact HS|exact PF _|exact Mh _ _ _|exact aG5 _ _ _ _|exact bd2 _ _ hw hg)));exact q7.1):A:=h ⟨k⟩
theorem pc(f:am)(hw:f.words.length<=1000000)(hg:f.wz.length<=1000000):APure prog 213 [bM f] (bD (dE f)):=by
 have HN:=PF f.name;have HO:=GP f;have HS:=GO f (JT f) hw hg (by unfold JT;simp only;split<;>simp_all) (by unfold JT;simp only;split<;>simp_all);rw[pd]at HS;have e:dE f=(aY f.name&&(lR f&&fJ f)):=by unfold dE;rw[Bool.and_assoc]
 rw[e];refine ao func213 ntmps213 λa=>?_
 cases h1:aY f.name with
 |false=>
  rw[h1]at HN
  repeat refine rF ?_
  exact Rt.pure rfl
 |true=>
  rw[h1]at HN
  cases h2:lR f with
  |false=>
   rw[h2]at HS
   repeat refine rF ?_
   exact Rt.pure rfl
  |true=>
   rw[h2]at HS;by_cases h:f.kind=0\/f.kind=1\/f.kind=2\/f.kind=3\/f.kind=4\/f.kind=5\/f.kind=6\/f.kind=7\/f.kind=8
   .rcases h with h|h|h|h|h|h|h|h|h
    all_goals
     unfold fJ;simp only[h]
     repeat' first|refine rF ?_|(refine aT ?_;constructor<;>intro hc)
     all_goals(refine Rt.pure (zM bD ?_);(try simp only[←AH,seq]);(try simp only[*]);(try simp))
   .have e:fJ f=false:=by unfold fJ;rw[if_neg (by omega),if_neg (by omega),if_neg (by omega),if_neg (by omega),if_neg (by omega),if_neg (by omega),if_neg (by omega),if_neg (by omega),if_neg (by omega)]
    rw[e]
    repeat refine rF ?_
    exact Rt.pure rfl
def FCt(f:am):Prop:=f.words.length<=1000000/\f.wz.length<=1000000
theorem Ku{A B:Prop}(k:B)(h:ar B->A:=by intro q7;(first|refine bA ?_|refine aA ?_|(refine' ah ?hc ?_;(case hc=>first|exact PF _|exact Mh _ _ _|exact aG5 _ _ _ _|exact HA)));exact q7.1):A:=h ⟨k⟩
theorem ul(k:au)(a:k.fields.length<=1000000)(hc:∀f∈k.fields,FCt f):APure prog 160 [fz k] (bD (ji k)):=by
 have HA:=PE k.fields dE a (λf h=>pc f (hc f h).1 (hc f h).2);refine ao func160 ntmps160 λb=>?_
 repeat' first|refine Ku ?_|(refine aT ?_;constructor<;>intro hc)
 all_goals(refine Rt.pure (zM bD ?_);simp[ji, *]<;>omega)
theorem pa(n:Nat)(m:Int×Int)(a:n<=1000000):APure prog 217 [.agg (dt m),.ro [iD n]] (bD (b8 n m)):=by
 have HA:=True.intro;refine ao func217 ntmps217 λb=>?_
 repeat' first|refine Ku ?_|(refine aT ?_;constructor<;>intro hc)
 all_goals(refine Rt.pure (zM bD ?_);simp[b8, *])
theorem RV{A B:Prop}(k:B)(h:ar B->A:=by intro q7;(first|refine bA ?_|refine aA ?_|(refine' ah ?hc ?_;(case hc=>first|exact PF _|exact Mh _ _ _|exact aG5 _ _ _ _|exact HA|exact HB)));exact q7.1):A:=h ⟨k⟩
theorem uk(l:bW)(hs:l.tz.length<=1000000)(a:l.mz.length<=1000000):APure prog 162 [dj l] (bD (jS l)):=by
 have HA:=Et l.tz aY hs (λy _=>PF y);have HB:=PB (f:=217) (cs:=[iD (l.tz.map λx=>[sD x]).length]) l.mz (b8 l.tz.length) a (λy _=>by rw[zL];exact pa _ y hs);refine ao func162 ntmps162 λe=>?_
 repeat' first|refine RV ?_|intro b;conv=>whnf|(refine CE.pk (gK.peek (.cons (Pk.same _) (.cons (Pk.clo (.cons (Pk.ptr (j:=0) rfl (jn.refl _)) .nil)) .nil)) HB rfl) ?_)|(refine aT ?_;constructor<;>intro hc)
 all_goals(refine Rt.pure (zM bD ?_);simp[jS, *]<;>omega)
theorem RU{A B:Prop}(k:B)(h:ar B->A:=by intro q7;(first|refine bA ?_|refine aA ?_|(refine' ah ?hc ?_;(case hc=>first|exact PF _|exact Mh _ _ _)));exact q7.1):A:=h ⟨k⟩
theorem uj(r:cF)(h:r.a.size+r.b.size<=2000000):APure prog 164 [eH r] (bD (wn r)):=by
 have b:((r.a++r.b).toList==(⟨#[]⟩:ByteArray).toList)=((r.a.toList==(⟨#[]⟩:ByteArray).toList)&&(r.b.toList==(⟨#[]⟩:ByteArray).toList)):=by
  have e:(r.a++r.b).toList=r.a.toList++r.b.toList:=by simp[ByteArray.toList_eq]
  have e0:(⟨#[]⟩:ByteArray).toList=[]:=by rw[ByteArray.toList_eq]
  rw[e,e0]
  cases r.a.toList<;>cases r.b.toList<;>rfl
 refine ao func164 ntmps164 λg=>?_
 repeat' first|refine RU ?_|(refine aT ?_;constructor<;>intro hc)
 all_goals(
  refine Rt.pure (zM bD ?_);simp only[wn,←AH,seq];rw[←b];generalize((r.a++r.b).toList==(⟨#[]⟩:ByteArray).toList)=c at *;generalize(r.a.toList==(⟨#[]⟩:ByteArray).toList)=f at *;generalize(r.b.toList==(⟨#[]⟩:ByteArray).toList)=a at *;simp_all)
end
section
open Go
theorem RT{A B:Prop}(k:B)(h:ar B->A:=by intro q7;(first|refine bA ?_|refine aA ?_|(refine' ah ?hc ?_;(case hc=>first|exact HW|exact HK|exact HL|exact HR)));exact q7.1):A:=h ⟨k⟩
theorem RS{A B:Prop}(k:B)(h:ar B->A:=by intro q7;(first|refine bA ?_|refine aA ?_|(refine' ah ?hc ?_;(case hc=>first|exact Mh _ _ _|exact HK|exact HL|exact HR)));exact q7.1):A:=h ⟨k⟩
theorem bd0(x:ak)(g:ES x):APure prog 108 [ax x] (iD (fC x)):=by
 have hx:=g.sm;have n:=hx.nkinds;have j:=hx.nlives;have i:=hx.nrules;have HK:=PD x.kz ji n (λk h=>ul k (hx.kz k h).nfields (λf o=>⟨((hx.kz k h).fields f o).nwords,((hx.kz k h).fields f o).nweights⟩));have HL:=PC x.lz jS j (λl h=>uk l (hx.lz l h).nstates (hx.lz l h).nmoves);have HR:=PA x.rules wn i (λr h=>uj r (by have h1:=(hx.rules r h).a;have h2:=(hx.rules r h).b;unfold gH at h1 h2;omega))
 cases v:hQ x with
 |true=>
  have w:=g.src v;have e:fC x=0:=by unfold fC;rw[v];rfl
  have q:=v;simp only[hQ,zJ,zQ]at q;obtain⟨⟨⟨⟨⟨⟨u,D⟩,C⟩,z⟩,t⟩,p⟩,q7⟩:=q;have HW:=Mh x.vz 0 1048576;rw[u]at HW;rw[t]at HK;rw[p]at HL;rw[q7]at HR;refine ao func108 ntmps108 λy=>?_
  repeat' first|refine RT ?_|(refine CE.some (ui x g v) ?_;(rintro _ ⟨s,rfl,hs⟩))
  rw[e];exact Rt.pure rfl
 |false=>
  have e:fC x=1:=by unfold fC;rw[v];rfl
  refine ao func108 ntmps108 λy=>?_
  repeat' first|refine RS ?_|(refine aT ?_;constructor<;>intro hc)
  all_goals first
   |(rw[e];exact Rt.pure rfl)
   |(exfalso;simp[hQ, *]at v<;>omega)
end
section
open Go Go.Maps Go.MapKept
theorem G6:∃f0 f1 f2 f3:Field,prog.underlying 107=some (.struct #[f0,f1,f2,f3])/\f0.name ≠ "_" /\ f1.name ≠ "_" /\ f2.name ≠ "_" /\ f3.name ≠ "_" /\ f0.type=3/\f1.type=3/\f2.type=3/\f3.type=57/\f0.offset=0/\f1.offset=1/\f2.offset=2/\f3.offset=3:=
 ⟨_,_,_,_,underlying107,by decide,by decide,by decide,by decide,rfl,rfl,rfl,rfl,rfl,rfl,rfl,rfl⟩
theorem YO:prog.plainKey 3=true:=by kernel_rfl
theorem OL:prog.plainKey 57=true:=by kernel_rfl
theorem G5:prog.stoodInHeld 107=false:=by kernel_rfl
theorem BD:prog.eqGuardType prog.depth 107=false:=by kernel_rfl
def Qj(p:fj):Value:=.agg #[.int .i64 p.1,.int .i64 p.2.1,.int .i64 p.2.2.1,.int .i64 p.2.2.2]
def Qk(p q:fj):Bool:=(p.1==q.1)&&((p.2.1==q.2.1)&&((p.2.2.1==q.2.2.1)&&(p.2.2.2==q.2.2.2)))
theorem un(w:World)(p q:fj):(Op.equalIn 10000 107 (Qj p) (Qj q)).run prog w= .ok (Qk p q) w:=by
 obtain⟨f0,f1,f2,f3,h,v,t,s,r,t0,t1,t2,t3,n,m,l,o⟩:=G6;obtain⟨a,b,c,d⟩:=p;obtain⟨D,C,B,A⟩:=q;unfold Qj Qk;have f:prog.fieldsOf 107= #[f0,f1,f2,f3]:=by simp[Program.fieldsOf,h]
 have k:∀x y z u:Int,(Go.part 3 #[.int .i64 x,.int .i64 y,.int .i64 z,.int .i64 u] 0).run prog w= .ok (.int .i64 x) w:=λx y z u=>run_part_plain w YO rfl;have j:∀x y z u:Int,(Go.part 3 #[.int .i64 x,.int .i64 y,.int .i64 z,.int .i64 u] 1).run prog w= .ok (.int .i64 y) w:=λx y z u=>run_part_plain w YO rfl;have i:∀x y z u:Int,(Go.part 3 #[.int .i64 x,.int .i64 y,.int .i64 z,.int .i64 u] 2).run prog w= .ok (.int .i64 z) w:=λx y z u=>run_part_plain w YO rfl;have g:∀x y z u:Int,(Go.part 57 #[.int .i64 x,.int .i64 y,.int .i64 z,.int .i64 u] 3).run prog w= .ok (.int .i64 u) w:=λx y z u=>run_part_plain w OL rfl;have q:∀x y:Int,(Op.equalIn 9999 3 (.int .i64 x) (.int .i64 y)).run prog w= .ok (x==y) w:=λx y=>run_equalIn_int w 9998 _ _ _ _ _ underlying3;have e:∀x y:Int,(Op.equalIn 9999 57 (.int .i64 x) (.int .i64 y)).run prog w= .ok (x==y) w:=λx y=>run_equalIn_int w 9998 _ _ _ _ _ underlying57;rw[show(10000:Nat)=9999+1 from rfl,run_equalIn_agg w 9999 _ _ _ (by rw[f];exact h) G5,f];simp only[Op.eqFields,if_pos v,if_pos t,if_pos s,if_pos r,t0,t1,t2,t3,n,m,l,o,Sem.run_bind,Result.andThen,k,j,i,g,q,e,Sem.run_ite,Sem.run_pure]
 cases(a==D)<;>cases(b==C)<;>cases(c==B)<;>cases(d==A)<;>rfl
theorem A2{w:World}{O:Nat->Prop}{u:Value}{p:fj}(h:Rd w O (.agg (bp p)) u):u=Qj p:=by
 obtain⟨vs,rfl,v⟩:=h.agg_inv;have l:=v.len
 match vs,l,v with
 |[x,y,z,u],_,v=>
  rw[(v.at_ 0 _ _ rfl rfl).val rfl,(v.at_ 1 _ _ rfl rfl).val rfl,(v.at_ 2 _ _ rfl rfl).val rfl,(v.at_ 3 _ _ rfl rfl).val rfl]
  rfl
theorem Fr{ρ:Operand->D}{σ:af}{o:Oper}{t:TypeId}{x y:Operand}{p q:fj}(a:o.op= .binOp .neq 107 x y t)(hx:ρ x= .agg (bp p))(d:ρ y= .agg (bp q)):Yd prog o ρ σ (.v (.bool (!Qk p q))):=by
 intro w X η h f;obtain⟨dst,k,j,pos,i,g⟩:=o;simp only at a;subst a;have c:=h x (by simp[Op.operands]);have b:=h y (by simp[Op.operands]);rw[hx]at c;rw[d]at b;refine dC (s:=do eqGuard .neq 107 x y (η x) (η y);binOp .neq 107 (η x) (η y)) (u:=.bool (!Qk p q)) ?_ (Ex.refl w) (.v _);rw[A2 c,A2 b];unfold Qj at *;have e:=un w p q;unfold Qj at e;simp only[Sem.run_bind,run_eqGuard_agg w .neq _ _ _ _ _ BD,Result.andThen,run_neq_struct,e]
def sB(l:List UInt8):ByteArray:=⟨l.toArray⟩
def zF:am:={ name:=sB [],of:=sB [],up:=sB [],kind:=0,lo:=0,hi:=0,words:=[],wz:=[] }
def M8:ak:={ vz:=0,kz:=[{ name:=sB [97],lo:=1,hi:=3,fields:=[{ zF with name:=sB [105,100],lo:=5 }] },{ name:=sB [98],lo:=0,hi:=9,fields:=[{ zF with name:=sB [105,100] },{ zF with name:=sB [116,111],kind:=1,of:=sB [97],hi:=2 },{ zF with name:=sB [110],kind:=2,hi:=9 }] }],lz:=[],rules:=[] }
theorem FH:APure prog 92 [] (ax M8):=by
 refine ao func92 ntmps92 λa=>?_
 repeat' first|refine aq ?_|intro b;conv=>whnf
 refine Rt.le ?_
 (repeat'(first|exact Le.refl _|exact gp _|exact fN.nil|refine fN.cons ?_ ?_|refine qg ?_|refine YP ?_|refine na ?_|exact dM.nil|refine dM.cons ?_ ?_))
theorem FI(l:List fj)(hl:l.length<=1000000):APure prog 13 [.sl 4 (l.map bp)] (.sl 4 (l.map bp)):=by
 refine ao func13 ntmps13 λi=>?_
 repeat refine aq ?_
 refine lU mixed ai (γ:=Nat×Value×af) (λg=>[(3,.v g.2.1),(4,iD g.1)]) (λg=>g.2.2) (λg=>g.1<=l.length/\ae 107 4 ((l.take g.1).map bp) g.2.1 g.2.2) (λg=>l.length-g.1) (0,.slice none 0 0,[]) (aj aP) dV ⟨zW _,ae.nil _ _⟩ ?_;rintro⟨j,v,s⟩ ⟨hj,w⟩;simp only at hj w⊢;by_cases hjl:j<l.length
 .obtain⟨p,f⟩:∃p,l[((j:Nat):Int).toNat]?=some p:=⟨_,zD hjl⟩
  have e:l[j]?=some p:=f
  repeat refine aq ?_
  refine Ap.go rfl rfl rfl rfl w (by simp:s.Perm (s++[])) rfl (zs:=(l.take (j+1)).map bp) (by rw[PG e,yB];rfl) (by simp;omega) (by simp;omega) (λb=>b) (λb=>by simp) (λa c b r=>?_)
  repeat refine aq ?_
  exact⟨(j+1,_,b),(aj aP),dV,⟨by simp only;omega,r⟩,by simp only;omega⟩
 .obtain rfl:j=l.length:=by omega
  repeat refine aq ?_
  rw[yM]at w;exact Rt.vs (Vs.row w (τ:=[]) (by simp))
theorem BE(p:fj):Qk p p=true:=by simp[Qk]
theorem sq6{A B:Prop}(k:B)(h:ar B->A:=by intro q7;(first|refine aq ?_|(with_reducible refine Br.t (wP _) ?_)|(with_reducible refine Br.f Bool.not_true ?_)|(with_reducible refine Br.t (yJ trivial) ?_)|(with_reducible refine Br.t (yJ rfl) ?_));exact q7.1):A:=h ⟨k⟩
theorem A9(l:List fj)(hl:l.length<=1000000):APure prog 12 [.sl 4 (l.map bp),.sl 4 (l.map bp)] (bD true):=by
 refine ao func12 ntmps12 λb=>?_
 repeat' first|refine sq6 ?_|(with_reducible refine Br.f (yE (λh=>h rfl)) ?_)
 refine lU mixed ai (γ:=Nat) (λg=>[(5,iD g)]) (λ_=>[]) (λg=>g<=l.length) (λg=>l.length-g) 0 (aj aP) dV (zW _) ?_;intro j hj;by_cases hjl:j<l.length
 .obtain⟨p,a⟩:∃p,l[((j:Nat):Int).toNat]?=some p:=⟨_,zD hjl⟩
  repeat refine aq ?_
  refine Ot.yd (Fr (p:=p) (q:=p) rfl rfl rfl) ?_;rw[BE]
  repeat refine aq ?_
  exact⟨j+1,(aj aP),dV,by omega,by omega⟩
 .obtain rfl:j=l.length:=by omega
  repeat refine aq ?_
  refine Rt.pure (zM bD ?_);rfl
theorem QY{f:am}(g:f.name.size<=12)(e:f.of.size<=12)(i:f.up.size=0)(a:f.words=[])(h:f.wz=[])(d:0<=f.kind/\f.kind<=8)(c:-1000<=f.lo/\f.lo<=1000)(b:-1000<=f.hi/\f.hi<=1000):CF f:=
 ⟨g,e,by omega,by rw[a];decide,by rw[a];simp,by rw[h];decide,by rw[h];simp,d,c,b⟩
theorem aV9{w:Wd}(h:(decide (w.length<=1000)&&w.all λl=>decide (l.length<=1000)&&l.all λr=>decide (r.length<=1000))=true):Ws w:=by
 simp only[zJ,zQ,yA]at h;exact⟨h.1,λl a=>(h.2 l a).1,λl a r b=>(h.2 l a).2 r b⟩
theorem bo1{A B:Prop}(k:B)(h:ar B->A:=by intro q7;(first|refine bA ?_|refine aA ?_|(refine' ah ?hc ?_;(case hc=>first|exact FH|exact HC|exact FI _ (by assumption)|exact A9 _ (by assumption))));exact q7.1):A:=h ⟨k⟩
theorem bo0{A B:Prop}(k:B)(h:ar B->A:=by intro q7;(first|refine bA ?_|refine aA ?_|(refine' ah ?hc ?_;(case hc=>first|exact F1|exact F2|exact F3|exact F4)));exact q7.1):A:=h ⟨k⟩
end
section
open Go Go.Maps Go.MapKept
theorem FM:∃f0 f1 f2:Field,prog.underlying 56=some (.struct #[f0,f1,f2])/\f0.name ≠ "_" /\ f1.name ≠ "_" /\ f2.name ≠ "_" /\ f0.type=4/\f1.type=3/\f2.type=3/\f0.offset=0/\f1.offset=1/\f2.offset=2:=
 ⟨_,_,_,underlying56,by decide,by decide,by decide,rfl,rfl,rfl,rfl,rfl,rfl⟩
theorem Pa:prog.plainKey 4=true:=by kernel_rfl
theorem FL:prog.stoodInHeld 56=false:=by kernel_rfl
theorem y6:prog.eqGuardType prog.depth 56=false:=by kernel_rfl
abbrev PZ:=Bool×Int×Int
def Qb(p:PZ):Value:=.agg #[.bool p.1,.int .i64 p.2.1,.int .i64 p.2.2]
def Qc(p q:PZ):Bool:=(p.1==q.1)&&((p.2.1==q.2.1)&&(p.2.2==q.2.2))
theorem um(w:World)(p q:PZ):(Op.equalIn 10000 56 (Qb p) (Qb q)).run prog w= .ok (Qc p q) w:=by
 obtain⟨f0,f1,f2,h,m,l,n,t0,t1,t2,k,j,o⟩:=FM;obtain⟨a,b,c⟩:=p;obtain⟨t,s,r⟩:=q;unfold Qb Qc;have f:prog.fieldsOf 56= #[f0,f1,f2]:=by simp[Program.fieldsOf,h]
 have i:∀(x:Bool)(y z:Int),(Go.part 4 #[.bool x,.int .i64 y,.int .i64 z] 0).run prog w= .ok (.bool x) w:=λx y z=>run_part_plain w Pa rfl;have g:∀(x:Bool)(y z:Int),(Go.part 3 #[.bool x,.int .i64 y,.int .i64 z] 1).run prog w= .ok (.int .i64 y) w:=λx y z=>run_part_plain w YO rfl;have e:∀(x:Bool)(y z:Int),(Go.part 3 #[.bool x,.int .i64 y,.int .i64 z] 2).run prog w= .ok (.int .i64 z) w:=λx y z=>run_part_plain w YO rfl;have q:∀x y:Int,(Op.equalIn 9999 3 (.int .i64 x) (.int .i64 y)).run prog w= .ok (x==y) w:=λx y=>run_equalIn_int w 9998 _ _ _ _ _ underlying3;have d:∀x y:Bool,(Op.equalIn 9999 4 (.bool x) (.bool y)).run prog w= .ok (x==y) w:=λx y=>run_equalIn_bool w 9998 _ _ _ underlying4;rw[show(10000:Nat)=9999+1 from rfl,run_equalIn_agg w 9999 _ _ _ (by rw[f];exact h) FL,f];simp only[Op.eqFields,if_pos m,if_pos l,if_pos n,t0,t1,t2,k,j,o,Sem.run_bind,Result.andThen,i,g,e,q,d,Sem.run_ite,Sem.run_pure]
 cases(a==t)<;>cases(b==s)<;>cases(c==r)<;>rfl
abbrev Qd(p:PZ):List D:=[bD p.1,iD p.2.1,iD p.2.2]
theorem A1{w:World}{O:Nat->Prop}{u:Value}{p:PZ}(h:Rd w O (.agg (Qd p)) u):u=Qb p:=by
 obtain⟨vs,rfl,v⟩:=h.agg_inv;have l:=v.len
 match vs,l,v with
 |[x,y,z],_,v=>
  rw[(v.at_ 0 _ _ rfl rfl).val rfl,(v.at_ 1 _ _ rfl rfl).val rfl,(v.at_ 2 _ _ rfl rfl).val rfl]
  rfl
theorem aV2{ρ:Operand->D}{σ:af}{o:Oper}{t:TypeId}{x y:Operand}{p q:PZ}(a:o.op= .binOp .eql 56 x y t)(hx:ρ x= .agg (Qd p))(d:ρ y= .agg (Qd q)):Yd prog o ρ σ (.v (.bool (Qc p q))):=by
 intro w X η h f;obtain⟨dst,k,j,pos,i,g⟩:=o;simp only at a;subst a;have c:=h x (by simp[Op.operands]);have b:=h y (by simp[Op.operands]);rw[hx]at c;rw[d]at b;refine dC (s:=do eqGuard .eql 56 x y (η x) (η y);binOp .eql 56 (η x) (η y)) (u:=.bool (Qc p q)) ?_ (Ex.refl w) (.v _);rw[A1 c,A1 b];unfold Qb at *;have e:=um w p q;unfold Qb at e;simp only[Sem.run_bind,run_eqGuard_agg w .eql _ _ _ _ _ y6,Result.andThen,run_eql_struct,e]
theorem aK1(p:PZ):Qc p p=true:=by simp[Qc]
def l2:ak:={ vz:=0,kz:=[{ name:=sB [97],lo:=0,hi:=9,fields:=[{ zF with name:=sB [105,100],lo:=5 }] }],lz:=[],rules:=[] }
def F8:cK:=[⟨4,1,0,0⟩,⟨1,2,2,0⟩,⟨7,1,2,4⟩,⟨0,0,0,0⟩,⟨0,3,0,0⟩]
theorem F7:QW l2:=by
 refine{ ver:=by decide,nk:=by decide,ks:=λk h=>?_,nl:=by decide,ls:=λl c=>(by cases c),nr:=by decide,rs:=λr b=>(by cases b) };simp only[l2,zU,yF,xE]at h;subst h;refine⟨by decide,by decide,by decide,by decide,λf a=>?_⟩;simp only[zU,yF,xE]at a;subst a;exact QY (by decide) (by decide) rfl rfl rfl (by decide) (by decide) (by decide)
theorem j9(w:Wd)(v:(Bool×Int×Int)×Int)(a:Ws w)(h:gO l2 F8 w 100=v):APure prog 20 [ax l2,lI w,rC F8,iD 100] (Q4 v):=by
 rw[←h];exact zk l2 F8 w 100 (D1 l2 (bd0 l2 F7.good) w a) (yS l2 (by decide) (by decide) F8 (by decide) w (by have:=a.1;omega) (λl b=>⟨by have:=a.2 l b;omega,λr c=>by have:=a.3 l b r c;omega⟩) 100)
theorem sq7{A B:Prop}(k:B)(h:ar B->A:=by intro q7;(first|refine aq ?_|(with_reducible refine Br.t (yJ trivial) ?_));exact q7.1):A:=h ⟨k⟩
theorem O0{p:Prop}(h:p:=by repeat'(first|exact Le.refl _|exact gp _|exact fN.nil|refine fN.cons ?_ ?_|refine qg ?_|refine YP ?_|refine na ?_|exact dM.nil|refine dM.cons ?_ ?_)):p:=h
theorem aG3:APure prog 27 [] (bD true):=by
 have e:=j9 [[[5]]] ((true,3,4),0) (aV9 rfl) (by decide +kernel);have a:=j9 [[[5],[6]]] ((false,0,4),0) (aV9 rfl) (by decide +kernel);have F:=j9 [] ((false,0,0),2) (aV9 rfl) (by decide +kernel);refine ao func27 ntmps27 λf=>?_
 repeat' first|refine aq ?_|intro b;conv=>whnf
 refine CE.pk (gK.le O0 e) ?_
 repeat' first|refine aq ?_|intro b;conv=>whnf
 refine CE.pk (gK.le O0 a) ?_
 repeat' first|refine aq ?_|intro b;conv=>whnf
 refine CE.pk (gK.le O0 F) ?_
 repeat' first|refine sq7 ?_|intro b;conv=>whnf
 refine Ot.yd (aV2 (p:=(true,3,4)) (q:=(true,3,4)) rfl rfl rfl) ?_;rw[aK1]
 repeat' first|refine sq7 ?_|intro b;conv=>whnf
 refine Ot.yd (aV2 (p:=(false,0,4)) (q:=(false,0,4)) rfl rfl rfl) ?_;rw[aK1]
 repeat' first|refine sq7 ?_|intro b;conv=>whnf
 exact Rt.vs (Vs.drop (yV _))
end
section
open Go
theorem FN{x:ak}(h:hQ x=true):fC x=0:=by unfold fC;rw[if_pos h]
theorem PX{x:ak}(h:hQ x=false):fC x=1:=by unfold fC;rw[h];rfl
theorem dZ{A B:Prop}(k:B)(h:ar B->A:=by intro q7;(first|refine bA ?_|refine aA ?_|(refine' ah ?hc ?_;(case hc=>first|exact QC _ _ _|exact HK|exact HL|exact aT1 _)));exact q7.1):A:=h ⟨k⟩
theorem uK(x:ak)(g:ES x):APure prog 83 [ax x] (iD (fC x)):=by
 refine ao func83 ntmps83 λv=>?_
 cases h1:cz x.vz 0 1048576
 .have E:fC x=1:=PX (by simp[hQ,h1])
  repeat' first|refine dZ ?_|(refine aT ?_;constructor<;>intro hc)
  all_goals(refine Rt.pure (zM iD ?_);exact E.symm)
 by_cases h2:x.kz.length<=6
 case neg=>
  have E:fC x=1:=PX (by simp[hQ,h2])
  repeat' first|refine dZ ?_|(refine aT ?_;constructor<;>intro hc)
  all_goals(refine Rt.pure (zM iD ?_);exact E.symm)
 by_cases h3:x.lz.length<=6
 case neg=>
  have E:fC x=1:=PX (by simp[hQ,h3])
  repeat' first|refine dZ ?_|(refine aT ?_;constructor<;>intro hc)
  all_goals(refine Rt.pure (zM iD ?_);exact E.symm)
 by_cases h4:x.rules.length<=16
 case neg=>
  have E:fC x=1:=PX (by simp[hQ,h4])
  repeat' first|refine dZ ?_|(refine aT ?_;constructor<;>intro hc)
  all_goals(refine Rt.pure (zM iD ?_);exact E.symm)
 repeat refine dZ ?_
 refine fW mixed ai (γ:=Nat) (λq=>[(3,iD q)]) (λ_=>[]) (λq=>q<=x.kz.length/\∀(m:Nat)y,m<q->x.kz[m]?=some y->ji y=true) (λq=>x.kz.length-q) 0 rfl rfl ⟨by omega,λm y p=>by omega⟩ ?_;rintro q ⟨r,o⟩;by_cases hlt:q<x.kz.length
 .obtain⟨k,b⟩:∃k,x.kz[(q:Int).toNat]?=some k:=⟨_,zD hlt⟩
  have i:=zG b;have a:=g.sm.kz k i;have HK:=pO k (λf t=>⟨(a.fields f t).nwords,(a.fields f t).nweights⟩) a.nfields
  repeat' first|refine dZ ?_|(refine aT ?_;constructor<;>intro hc)
  .exact⟨q+1,rfl,rfl,⟨by omega,Jm o b (by assumption)⟩,by omega⟩
  .refine Rt.pure (zM iD ?_);exact(PX (by simp only[hQ,JN b (by assumption:ji k=false)];simp)).symm
 have n:x.kz.all ji=true:=JK (λm y p hy=>o m y (by omega) hy);clear o
 repeat refine dZ ?_
 refine fW mixed ai (γ:=Nat) (λq=>[(4,iD q)]) (λ_=>[]) (λq=>q<=x.lz.length/\∀(m:Nat)y,m<q->x.lz[m]?=some y->jS y=true) (λq=>x.lz.length-q) 0 rfl rfl ⟨by omega,λm y p=>by omega⟩ ?_;clear r hlt;rintro q ⟨r,o⟩;by_cases hlt:q<x.lz.length
 .obtain⟨k,b⟩:∃k,x.lz[(q:Int).toNat]?=some k:=⟨_,zD hlt⟩
  have i:=zG b;have a:=g.sm.lz k i;have HL:=pN k a.nstates a.nmoves
  repeat' first|refine dZ ?_|(refine aT ?_;constructor<;>intro hc)
  .exact⟨q+1,rfl,rfl,⟨by omega,Jm o b (by assumption)⟩,by omega⟩
  .refine Rt.pure (zM iD ?_);exact(PX (by simp only[hQ,JN b (by assumption:jS k=false)];simp)).symm
 have l:x.lz.all jS=true:=JK (λm y p hy=>o m y (by omega) hy);clear o
 repeat refine dZ ?_
 refine fW mixed ai (γ:=Nat) (λq=>[(5,iD q)]) (λ_=>[]) (λq=>q<=x.rules.length/\∀(m:Nat)y,m<q->x.rules[m]?=some y->wn y=true) (λq=>x.rules.length-q) 0 rfl rfl ⟨by omega,λm y p=>by omega⟩ ?_;clear r hlt;rintro q ⟨r,o⟩;by_cases hlt:q<x.rules.length
 .obtain⟨k,b⟩:∃k,x.rules[(q:Int).toNat]?=some k:=⟨_,zD hlt⟩
  repeat' first|refine dZ ?_|(refine aT ?_;constructor<;>intro hc)
  .exact⟨q+1,rfl,rfl,⟨by omega,Jm o b (by assumption)⟩,by omega⟩
  .refine Rt.pure (zM iD ?_);exact(PX (by simp only[hQ,JN b (by assumption:wn k=false)];simp)).symm
 have j:x.rules.all wn=true:=JK (λm y p hy=>o m y (by omega) hy);have e:hQ x=true:=by simp only[hQ,h1,n,l,j];simp;omega
 have E:=FN e;have S:=pC x (zA e g);have u:=g.src e
 repeat refine dZ ?_
 refine CE.some S ?_;rintro _ ⟨s,rfl,hs⟩
 repeat refine dZ ?_
 refine Rt.pure (zM iD ?_);exact E.symm
end
section
open Go Go.RowKit
theorem NM(a b c:Nat×aE):[a,b,c].Perm (c::[a,b]):=yT (l₁:=[a,b]) (l₂:=[c])
theorem WSz.wsB{w:Wd}(h:WSz 10 10 50 w):Ws w:=⟨by have:=h.k;omega,λl a=>by have:=h.n l a;omega,λl a r b=>by have:=h.f l a r b;omega⟩
theorem AL{A B:Prop}(k:B)(h:ar B->A:=by intro q7;(first|refine FU ?_|refine Kj ?_|((with_reducible refine' Ld.at 3 ?h1 ?h2 ?h3 ?_);(case h1=>exact rfl);(case h2=>exact rfl);(case h3=>exact rfl))|refine FY ?_);exact q7.1):A:=h ⟨k⟩
theorem rE{A B:Prop}(k:B)(h:ar B->A:=by intro q7;(first|refine AL ?_|refine aA ?_|(refine' ah ?hc ?_;(case hc=>first|exact aG3)));exact q7.1):A:=h ⟨k⟩
theorem RR{A B:Prop}(k:B)(h:ar B->A:=by intro q7;(first|refine AL ?_|refine aA ?_|(refine' ah ?hc ?_;(case hc=>first|exact hO|exact HR0|exact aG3)));exact q7.1):A:=h ⟨k⟩
theorem rD{A B:Prop}(k:B)(h:ar B->A:=by intro q7;(first|refine AL ?_|refine ir ?_|(refine' ah ?hc ?_;(case hc=>first|exact hO|exact HR0|exact HA|exact HR1|exact HR2|exact HR3|exact aG3)));exact q7.1):A:=h ⟨k⟩
theorem sq8{A B:Prop}(k:B)(h:ar B->A:=by intro q7;(first|refine RR ?_|(with_reducible refine Br.t (yJ trivial) ?_)|(with_reducible refine Br.t (yJ rfl) ?_)|(with_reducible refine Br.t (wP _) ?_));exact q7.1):A:=h ⟨k⟩
theorem sq9{A B:Prop}(k:B)(h:ar B->A:=by intro q7;(first|refine rD ?_|(with_reducible refine Br.t (yJ trivial) ?_)|(with_reducible refine Br.t (yJ rfl) ?_)|(with_reducible refine Br.t (wP _) ?_));exact q7.1):A:=h ⟨k⟩
theorem l30_steps(l m q:List Int)(more:Int)(hl:eB l)(Y:eB m)(U:eB q)(h3:qY more):APure prog 6 [bi l,bi m,bi q,iD more] (bD true):=by
 refine ao func6 ntmps6 λBB=>?_
 repeat' first|refine rE ?_|intro b;conv=>whnf
 refine CE.some (cb.of_call ((pD l hl).imp λd σ⟨x,e,_,h⟩=>⟨x,e,h⟩):cb prog 7 [bi l] (λd=>∃x,d=ax x/\bJ x)) ?_;rintro _ ⟨x,rfl,a⟩;have F:=a.probs0;have X:=a.nk;have HV:=bd0 x a.cls.good;have HR:=uK x a.cls.good;have Q:=uJ x HR;rw[F]at Q;have G:=a.sm.nf
 repeat' first|refine rE ?_|intro b;conv=>whnf
 obtain⟨J,rfl⟩:∃J,J=b:=⟨_,rfl⟩
 refine ba (s:=[]) (A' x a Q m Y) (zH ([]++_)) (λy=>y++_) (λy=>zH _) ?_;rintro _ _ ⟨K,w,is,rfl,rfl,C,u⟩
 cases is with
 |false=>
  repeat' first|refine rE ?_|intro b;conv=>whnf
  exact Rt.vs (Vs.drop (yV _))
 |true=>
  have u:=u rfl;have o:=C5 C u
  repeat' first|refine rE ?_|intro b;conv=>whnf
  obtain⟨M,rfl⟩:∃c,c=b:=⟨_,rfl⟩
  refine ba (s:=[]) (mL x a q U) (zH ([]++_)) (λy=>y++_) (λy=>zH _) ?_;rintro _ _ ⟨rfl,p,rfl,P⟩;have V:=P.len;have S:=C.k;have hO:=Ig p (by omega);have j:∀t:Int,APure prog 20 [ax x,lI w,rC p,iD t] (Q4 (gO x p w t)):=λt=>zk x p w t (D1 x HV w C.sz.wsB) (yS x (by omega) (λk Z=>by have:=G k Z;omega) p (by omega) w (by omega) (λl hl=>⟨by have:=C.n l hl;omega,λr T=>by have:=C.f l hl r T;omega⟩) t);have HR0:=j 2000;rcases tX F P o with e|⟨c,s,hs,I,e2⟩
  .rw[e]at HR0
   repeat' first|refine sq8 ?_|intro b;conv=>whnf
   exact Rt.vs (Vs.drop (yV _))
  .rw[I 2000 (by omega) (by omega)]at HR0;obtain⟨a0,O,-⟩:=qF more 5000
   replace O:=O (by decide)
   have HA:=aT3 more 5000 h3;have HR1:=j (2000+LX more 5000);rw[I _ (by omega) (by omega)]at HR1;have HR2:=j (s:Int);rw[I _ (by omega) (by omega)]at HR2;have HR3:=j ((s:Int)-1);obtain⟨z,R,E⟩:∃z:Int,gO x p w ((s:Int)-1)=((false,0,0),z)/\(z=23\/(s=0/\z=4)):=by
    by_cases h0:s=0
    .exact⟨4,AP F P o (by omega),.inr ⟨h0,rfl⟩⟩
    .exact⟨23,e2 _ (by omega) (by omega),.inl rfl⟩
   rw[R]at HR3;obtain⟨f,D⟩:∃f,f=!decide (c=0):=⟨_,rfl⟩
   rw[←D]at HR0 HR1 HR2;simp only[Q4]at HR0 HR1 HR2 HR3
   repeat' first|refine rD ?_|intro b;conv=>whnf
   obtain⟨L,rfl⟩:∃c,c=b:=⟨_,rfl⟩
   refine jI ?_;refine xz (i:=9) (d':=.ro (uh x)) (τ:=[(L,.cells 56 (Qd (f,c,(s:Int)))),(M,.cells 31 (r6 K))]) rfl (λh=>by cases h) (Vs.ptr (tb:=27) (cs:=uh x) (b:=J) (NM _ _ _)) ?_;refine lu mixed ai rfl [0,1,2,3,4,5,6,7,8,9] 3 (jE [10,11]) (.one 10 (.one 11 (.fst 12 .done))) (γ:=Nat) (λg=>[(16,.v (.pointer (some ⟨g,0,none⟩))),(17,iD 0)]) (λg=>[(g,.cells 56 (Qd (f,c,(s:Int)))),(L,.cells 56 (Qd (f,c,(s:Int)))),(M,.cells 31 (r6 K))]) (λ_=>True) (by decide +kernel) ?_ ?_
   .repeat' first|refine rD ?_|intro b;conv=>whnf
    exact⟨b,(aj aw),Sc.refl _,trivial⟩
   .rintro g1 -
    repeat' first|refine rD ?_|intro b;conv=>whnf
    refine Ot.yd (aV2 (p:=(f,c,(s:Int))) (q:=(f,c,(s:Int))) rfl rfl rfl) ?_;rw[aK1]
    repeat' first|refine sq9 ?_|intro b;conv=>whnf
    refine Ot.yd (aV2 (p:=(f,c,(s:Int))) (q:=(f,c,(s:Int))) rfl rfl rfl) ?_;rw[aK1];subst D;rcases E with rfl|⟨rfl,rfl⟩
    all_goals
     repeat' first|refine sq9 ?_|intro b;conv=>whnf
     refine Ot.yd (MH (p:=!decide (c=0)) (q:=!decide (c=0)) rfl rfl rfl underlying4) ?_;rw[wP]
     repeat' first|refine sq9 ?_|intro b;conv=>whnf
     exact Rt.vs (Vs.drop (yV _))
end
section
open Go Go.Maps Go.MapKept Go.WideElems Go.ChangeShapes Go.WideShapes
set_option maxRecDepth 100000
abbrev laidL:List (String×DataW Unit):=[("diorama/dioramaref02.constants",Rows.laid_diorama_dioramaref02_constants),("math/bits.deBruijn32tab",Rows.laid_math_bits_deBruijn32tab),("math/bits.deBruijn64tab",Rows.laid_math_bits_deBruijn64tab),("internal/strconv.uint64pow10",Rows.laid_internal_strconv_uint64pow10),("diorama/schema.words",Rows.laid_diorama_schema_words),("diorama/typing.checks",Rows.laid_diorama_typing_checks)]
theorem O8:prog.cellsOf 9=1:=by kernel_rfl
theorem YG:prog.cellsOf 367=1:=by kernel_rfl
theorem YI:prog.cellsOf 379=20:=by kernel_rfl
theorem YK:prog.cellsOf 212=1:=by kernel_rfl
theorem YL:prog.cellsOf 213=1:=by kernel_rfl
theorem W6:prog.globalNamed "internal/strconv.uint64pow10" =some 3:=by kernel_rfl
theorem sH:prog.globalNamed "diorama/schema.words" =some 1:=by kernel_rfl
theorem W7:prog.globalNamed "diorama/typing.checks" =some 0:=by kernel_rfl
theorem RE:(prog.globals[3]?).map (·.type)=some 379:=by kernel_rfl
theorem Gg:(prog.globals[1]?).map (·.type)=some 346:=by kernel_rfl
theorem RF:(prog.globals[0]?).map (·.type)=some 215:=by kernel_rfl
theorem BF:(Rows.laid_internal_strconv_uint64pow10:DataW Unit)=Lib.tabData .u64 Lib.pow10Tab:=by rfl
theorem Z5{W:World}(h:laidMetH prog laidL W){n:String}{d:DataW Unit}(m:(n,d)∈laidL.filter λx=>x.2.handleName?.isNone):Lib.VarReads prog W n d:=Lib.laidMet.reads (laidMetH_iff.1 h).1 m
theorem BX:(Rows.laid_internal_strconv_uint64pow10:DataW Unit).handleName?.isNone=true:=rfl
theorem pX:(Rows.laid_diorama_schema_words:DataW Unit).handleName?.isNone=true:=rfl
theorem Cy{W:World}(h:laidMetH prog laidL W):jW W:=by
 obtain⟨g,t,s,f,p,c,b,v,a⟩:=Z5 h (n:= "internal/strconv.uint64pow10") (d:=Rows.laid_internal_strconv_uint64pow10) (vP.2 ⟨by simp[laidL],BX⟩)
 obtain rfl:=wK (W6.symm.trans c);obtain rfl:=wK (RE.symm.trans b);rw[BF]at a;unfold jW Lib.TabIs;rw[v,←Lib.cells_of_tab underlying379 underlying367 YG YI a]
theorem qh{W:World}(h:laidMetH prog laidL W):lC W:=by
 obtain⟨g,t,H,u,p,B,z,w,C⟩:=Z5 h (n:= "diorama/schema.words") (d:=Rows.laid_diorama_schema_words) (vP.2 ⟨by simp[laidL],pX⟩)
 obtain rfl:=wK (sH.symm.trans B);obtain rfl:=wK (Gg.symm.trans z);obtain⟨x,I,rfl,e,q,A,l⟩:=DataW.trod_array underlying346 C;intro i s j;have f:i<9:=(zE.1 j).1;have E:=l i f;obtain⟨y,o⟩:∃y,x[i]?=some y:=⟨x[i]'(by omega),zD (by omega)⟩
 rw[o,O8]at E;obtain⟨c,G,F,_⟩:=DataW.trod_string underlying9 E;have r:=World.var?_cell sH w i;have D:H[i]?=some (.string c):=by
  have:=zM (·[0]?) G
  simpa [yX,xR]using this
 rw[D]at r;rw[r];have m:(x.map (·.1))[i]?=some (.lit (.string c.data.toList)):=by rw[qA,o,F];rfl
 have v:=zM Prod.fst e;simp only[Rows.laid_diorama_schema_words,DataW.agg.injEq]at v;rw[←v]at m;have k:c.data.toList=s.data.toList:=by
  have:i=0\/i=1\/i=2\/i=3\/i=4\/i=5\/i=6\/i=7\/i=8:=by omega
  rcases this with rfl|rfl|rfl|rfl|rfl|rfl|rfl|rfl|rfl<;>(simp at j m;subst j;rw[←m])
 have:c=s:=by
  obtain⟨a⟩:=c;obtain⟨b⟩:=s
  congr 1
  exact Array.toList_inj.1 k
 rw[this]
abbrev mZ(d:UInt8):List UInt8:=[100,105,111,114,97,109,97,47,116,121,112,105,110,103,46,99,104,101,99,107,115,36,d]
abbrev ya:List (Lit×DataW (List UInt8)):=[(.int .i64 0,.agg [.held (mZ 49)]),(.int .i64 1,.agg [.held (mZ 50)]),(.int .i64 4,.agg [.held (mZ 51)]),(.int .i64 5,.agg [.held (mZ 52)]),(.int .i64 6,.agg [.held (mZ 53)]),(.int .i64 7,.agg [.held (mZ 54)]),(.int .i64 8,.agg [.held (mZ 55)])]
theorem OI{W:World}{n:Nat}{v:Value}{z:DataW (List UInt8)×List MemPlace}{d:UInt8}{f0:FuncId}(h:elemAt (funcToken prog) prog W 0 (λ_=>true) true n 213 v=some z)(i:z.1= .agg [.held (mZ d)])
  (b:((List.range prog.funcs.size).filter λf=>(prog.funcs[f]?).any (·.name.toUTF8.data.toList==mZ d))=[f0]):v= .agg #[nT f0]:=by
 unfold elemAt at h;split at h
 .rename_i j;obtain⟨x,m,rfl,hx,p,q,k⟩:=DataW.trod_struct underlying213 h;rw[YL]at p;have g:=k 0 _ rfl;obtain⟨y,o⟩:∃y,x[0]?=some y:=⟨x[0]'(by rw[q];decide),zD _⟩
  simp only[o,YK,List.drop_zero]at g;rw[hx]at i;simp only[DataW.agg.injEq]at i;have a:y.1= .held (mZ d):=by
   have:(x.map (·.1))[0]?=some y.1:=by rw[qA,o];rfl
   rw[i]at this
   simpa using this.symm
  match hc:v.cells.toList,p with
  |[c],_=>
   rw[hc]at g;simp only[List.getElem_toArray,List.getElem_cons_zero,List.drop_zero,YK,List.take_succ_cons,List.take_zero]at g;obtain⟨t,r⟩:=y;simp only at a;subst a;have e:=func_of_trod underlying212 b g;subst e;unfold Value.formed at j;rw[underlying213]at j
   cases v with
   |agg s=>
    simp only[Value.cells]at hc;obtain⟨l⟩:=s;simp only at hc;rw[hc];rfl
   |_=>simp at j
 .cases h
theorem nc{W:World}(h:laidMetH prog laidL W):∃r,W.cell? ⟨0,0,none⟩=some (.map (some r))/\bU prog 3 W r 7 (qR gZ):=by
 obtain⟨g,t,M,u,p,G,I,H,K⟩:=h.funcs (n:= "diorama/typing.checks") (by unfold laidL Rows.laid_diorama_typing_checks;simp only[zU];exact .inr (.inr (.inr (.inr (.inr (.inl rfl))))))
 obtain rfl:=wK (W7.symm.trans G);obtain rfl:=wK (RF.symm.trans I);have C:DataW.trod (funcToken prog) prog W 0 (λ_=>true) true u 215 M.toList=some (.map ya,p):=K;rcases open_map underlying215 C with⟨_,hx⟩|⟨N,s,c,m,rfl,D,L,_,F,hx⟩
 .simp at hx
 simp only[vY,DataW.map.injEq]at hx;have B:=hx.1 ▸ sorted_perm (s.toList.map (rg prog 3 (elemAt (funcToken prog) prog W 0 (λ_=>true) true m 213)));have l:=World.var?_cell G H 0;rw[Array.eq_one_of_toList D]at l;have J:s.size=7:=by have:=B.length_eq;simpa using this.symm
 have one:∀e∈s.toList,qR gZ e.key=some e.val:=λe b=>by
  obtain⟨y,f⟩:=F.reads e b;have i:y∈ya:=B.mem_iff.2 (xM.2 ⟨e,b,rg_of f⟩);have k:=rd_key f;obtain⟨z,A,x⟩:=rd_val f;obtain⟨q,j,w,_⟩:=keyOf_int_inv underlying3 k;simp only[ya,zU,yF,xE]at i;rcases i with rfl|rfl|rfl|rfl|rfl|rfl|rfl<;>(cases w;rw[j,OI A x.symm (by kernel_rfl)];rfl)
 refine⟨N,by simpa using l,s,c,L,⟨by omega,F.stamped,F.keys,one,λo v a=>?_⟩⟩;have back:∀(n:Int)d,(Lit.int .i64 n,d)∈ya->∃e∈s.toList,e.key= .int .i64 n:=λn d i=>by
  obtain⟨e,b,E⟩:=xM.1 (B.mem_iff.1 i);obtain⟨y,f⟩:=F.reads e b;rw[rg_of f]at E;have k:=rd_key f;rw[E]at k;obtain⟨q,j,w,_⟩:=keyOf_int_inv underlying3 k;simp only at w
  cases w
  exact⟨e,b,j⟩
 have fin:∀(n:Int)d,(Lit.int .i64 n,d)∈ya->o= .int .i64 n->∃e∈s.toList,e.key=o/\e.val=v:=λn d i k=>by
  obtain⟨e,b,j⟩:=back n d i;have:=one e b;rw[j,←k,a]at this;exact⟨e,b,by rw[j,k],(wK this).symm⟩
 unfold qR gZ at a;split at a
 .exact fin 0 (.agg [.held (mZ 49)]) (by simp[ya]) rfl
 .exact fin 1 (.agg [.held (mZ 50)]) (by simp[ya]) rfl
 .exact fin 4 (.agg [.held (mZ 51)]) (by simp[ya]) rfl
 .exact fin 5 (.agg [.held (mZ 52)]) (by simp[ya]) rfl
 .exact fin 6 (.agg [.held (mZ 53)]) (by simp[ya]) rfl
 .exact fin 7 (.agg [.held (mZ 54)]) (by simp[ya]) rfl
 .exact fin 8 (.agg [.held (mZ 55)]) (by simp[ya]) rfl
 .cases a
theorem MQ{W:World}{n:String}{g:Nat}{cs:Array Value}(a:prog.globalNamed n=some g)(h:W.var? prog n=some cs):g<W.heap.size:=by
 unfold World.var? at h;rw[a]at h;simp only[Option.bind_some]at h
 cases b:W.heap[g]? with
 |none=>rw[b]at h;simp at h
 |some o=>exact(zX.1 b).1
theorem YH:prog.cellsOf 372=1:=by kernel_rfl
theorem YJ:prog.cellsOf 375=64:=by kernel_rfl
theorem M0{W:World}{n:String}{d:DataW Unit}{f:Nat}(o:d=Lib.tabData .u32 (ev.map λn:Nat=>(n:Int)))(c:prog.globalNamed n=some f)(b:(prog.globals[f]?).map (·.type)=some 375)(h:Lib.VarReads prog W n d):EL f W:=by
 obtain⟨g,t,s,l,p,j,k,v,a⟩:=h;obtain rfl:=wK (c.symm.trans j);obtain rfl:=wK (b.symm.trans k);rw[o]at a;have e:=Lib.cells_of_tab underlying375 underlying372 YH YJ a;intro i n m;have q:=World.var?_cell j v i;rw[q,←Array.getElem?_toList,e,qA,qA,m]
 rfl
theorem pm:(Rows.laid_diorama_dioramaref02_constants:DataW Unit)=Lib.tabData .u32 (ev.map λn:Nat=>(n:Int)):=by kernel_rfl
theorem pY:(Rows.laid_diorama_dioramaref02_constants:DataW Unit).handleName?.isNone=true:=rfl
theorem If{W:World}(h:laidMetH prog laidL W):EL 2 W:=
 M0 (n:= "diorama/dioramaref02.constants") pm (by kernel_rfl) (by kernel_rfl) (Z5 h (vP.2 ⟨by simp[laidL],pY⟩))
theorem CA{W:World}(h:laidMetH prog laidL W):qZ W (λ_=>False):=by
 obtain⟨g,t,s,f,p,b,i,v,j⟩:=Z5 h (n:= "math/bits.deBruijn64tab") (d:=Rows.laid_math_bits_deBruijn64tab) (vP.2 ⟨by simp[laidL],rfl⟩)
 have a:=MQ b v;obtain rfl:=wK ((show prog.globalNamed "math/bits.deBruijn64tab" =some 5 by kernel_rfl).symm.trans b)
 obtain⟨r,e,c⟩:=nc h;exact⟨λ_ h=>h.elim,a,λ_ _ h=>h,Cy h,qh h,⟨r,e,λh=>h,c⟩,If h⟩
end
end Go.Proofs.YtilnpcolgcmofaaGreatDoor
