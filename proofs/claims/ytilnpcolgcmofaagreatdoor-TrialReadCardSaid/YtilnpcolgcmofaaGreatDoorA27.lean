/- A part of the proof: Md Me Br Xi Vb Yj Yk Yl Ym Gw Gc Fw Fy Dl. -/
import Derived.Test.YtilnpcolgcmofaaGreatDoorA26
import Derived.Laws.StructEq
import Derived.ChangeKeysEq
set_option maxRecDepth 100000
set_option maxHeartbeats 20000000
set_option linter.all false
namespace Go.Proofs.YtilnpcolgcmofaaGreatDoor
open Tryz
section
open Go
theorem Yw{p:Prop}(h:p:=by
 have hab:a=b:=xY λi=>by
  by_cases hi:i<k
  .exact hno i hi
  .rw[yY.2 (by omega),yY.2 (by omega)]
 repeat refine ao ?_
 refine Rt.pure (zM bD ?_);exact(yJ hab).symm):p:=h
theorem XR{p:Prop}(h:p:=by
 repeat refine ao ?_
 refine⟨k+1,rfl,rfl,⟨by omega,λi hi=>?_⟩,by omega⟩;by_cases e:i=k
 .subst e;rw[hx',hy',he]
 .exact hno i (by omega)):p:=h
theorem L8{p:Prop}(h:p:=by
 have hne:a≠b:=λh=>hl (by rw[h])
 repeat refine ao ?_
 refine Rt.pure (zM bD ?_);exact(yE hne).symm):p:=h
theorem NT(a b:List Int)(g:a.length<=1000000)(hb:b.length<=1000000):APure prog 268 [bj a,bj b] (bD (decide (a=b))):=by
 refine ap func268 ntmps268 λj=>?_;by_cases hl:a.length=b.length
 .repeat refine ao ?_
  refine fZ mixed ai (γ:=Nat) (λk=>[(13,iD k)]) (λ_=>[]) (λk=>k<=a.length/\∀i,i<k->a[i]?=b[i]?) (λk=>a.length-k) 0 rfl rfl ⟨zW _,λi h=>by omega⟩ ?_;rintro k ⟨f,hno⟩;by_cases hlt:k<a.length
  .obtain⟨x,hx⟩:∃x,a[((k:Nat):Int).toNat]?=some x:=⟨_,zD hlt⟩
   obtain⟨y,hy⟩:∃y,b[((k:Nat):Int).toNat]?=some y:=⟨_,zD (by show k<_;omega)⟩
   have hx':a[k]?=some x:=hx;have hy':b[k]?=some y:=hy;by_cases he:x=y
   .skip
    exact XR
   .have hne:a≠b:=λh=>he (by rw[h,hy']at hx';cases hx';rfl)
    skip
    repeat refine ao ?_
    refine Rt.pure (zM bD ?_);exact(yE hne).symm
  .exact Yw
 .exact L8
theorem NS(a b:List ByteArray)(g:a.length<=1000000)(hb:b.length<=1000000):APure prog 267 [gI a,gI b] (bD (decide (a=b))):=by
 refine ap func267 ntmps267 λj=>?_;by_cases hl:a.length=b.length
 .repeat refine ao ?_
  refine fZ mixed ai (γ:=Nat) (λk=>[(13,iD k)]) (λ_=>[]) (λk=>k<=a.length/\∀i,i<k->a[i]?=b[i]?) (λk=>a.length-k) 0 rfl rfl ⟨zW _,λi h=>by omega⟩ ?_;rintro k ⟨f,hno⟩;by_cases hlt:k<a.length
  .obtain⟨x,hx⟩:∃x,a[((k:Nat):Int).toNat]?=some x:=⟨_,zD hlt⟩
   obtain⟨y,hy⟩:∃y,b[((k:Nat):Int).toNat]?=some y:=⟨_,zD (by show k<_;omega)⟩
   have hx':a[k]?=some x:=hx;have hy':b[k]?=some y:=hy;by_cases he:x=y
   ·(have hs:seq x y=true:=(EM x y).2 he)
    exact XR
   .have hne:a≠b:=λh=>he (by rw[h,hy']at hx';cases hx';rfl)
    (have hs:seq x y=false:=by cases h:seq x y with|false=>rfl|true=>exact absurd ((EM x y).1 h) he)
    repeat refine ao ?_
    refine Rt.pure (zM bD ?_);exact(yE hne).symm
  .exact Yw
 .exact L8
theorem jG{A B:Prop}(k:B)(h:ar B->A:=by intro q7;(first|refine bC ?_|refine aA ?_|(refine' ah ?hc ?_;(case hc=>first|exact ML _ _ _|exact EU _ aZ hw (λy _=>P4 y))));exact q7.1):A:=h ⟨k⟩
theorem bd9(ws:List ByteArray)(gs:List Int)(hw:ws.length<=1000000)(s:gs.length<=1000000):APure prog 254 [gI ws,bj gs] (bD (oB ws gs)):=by
 refine ap func254 ntmps254 λt=>?_
 repeat refine jG ?_
 refine fZ mixed ai (γ:=Nat×Int) (λg=>[(10,iD g.1),(5,iD g.2)]) (λ_=>[]) (λg=>g.1<=gs.length/\g.2=(gs.take g.1).sum/\(∀(m:Nat)y,m<g.1->gs[m]?=some y->cA y 0 1048576=true)/\0<=g.2/\g.2<=1048576*g.1) (λg=>gs.length-g.1) (0,0) rfl rfl ⟨by omega,by simp,λm y r=>by omega,by simp,by simp⟩ ?_;rintro⟨q,u⟩ ⟨j,f,o,b,a⟩;simp only at j f o b a⊢;by_cases hlt:q<gs.length
 .obtain⟨y,hy⟩:∃y,gs[q]?=some y:=⟨_,zD hlt⟩
  have i:(gs.take (q+1)).sum=(gs.take q).sum+y:=by
   rw[xC,hy];simp
  cases h1:cA y 0 1048576 with
  |true=>
   have k:0<=y/\y<=1048576:=by simpa [cA]using h1
   repeat' first|refine jG ?_|(refine aV ?_;constructor<;>intro hc)
   exact⟨(q+1,u+y),rfl,rfl,⟨by simp only;omega,by simp only;omega,JQ o hy h1,by simp only;omega,by simp only;omega⟩,by simp only;omega⟩
  |false=>
   repeat' first|refine jG ?_|(refine aV ?_;constructor<;>intro hc)
   all_goals(refine Rt.pure (zM bD ?_);simp only[oB,J' (p:=λn=>cA n 0 1048576) hy h1];simp)
 .obtain rfl:q=gs.length:=by omega
  have l:gs.all (λn=>cA n 0 1048576)=true:=J7 o;rw[yM]at f;have e:oB ws gs=(cA ws.length 1 12&&decide (ws.length=gs.length)&&decide (0<gs.sum)&&ws.all aZ):=by simp[oB,l]
  rw[←f]at e;clear f o b a l j hlt;by_cases e2:ws.length=gs.length
  .by_cases e3:0<u
   .repeat' first|refine jG ?_|(refine aV ?_;constructor<;>intro hc)
    all_goals(refine Rt.pure (zM bD ?_);rw[e];simp_all)
   .rw[yE e3]at e
    repeat' first|refine jG ?_|(refine aV ?_;constructor<;>intro hc)
    all_goals(refine Rt.pure (zM bD ?_);rw[e];simp)
  .repeat' first|refine jG ?_|(refine aV ?_;constructor<;>intro hc)
   all_goals(refine Rt.pure (zM bD ?_);rw[e,yE e2];simp)
def Ke(f:am):am:=⟨f.name,if im f.kind then f.of else⟨#[]⟩,if io f.kind then f.up else⟨#[]⟩,f.kind,if iU f.kind then f.lo else 0,if il f.kind then f.hi else 0,if eu f.kind then f.words else[],if eu f.kind then f.wz else[]⟩
def r9(f g:am):Bool:=seq f.name g.name&&seq f.of g.of&&seq f.up g.up&&decide (f.kind=g.kind)&&decide (f.lo=g.lo)&&decide (f.hi=g.hi)&&decide (f.words=g.words)&&decide (f.wz=g.wz)
theorem SF{A B:Prop}(k:B)(h:ar B->A:=by intro q7;(first|refine bC ?_|refine aA ?_|(refine' ah ?hc ?_;(case hc=>first|exact NS _ _ (by assumption) (by assumption)|exact NT _ _ (by assumption) (by assumption))));exact q7.1):A:=h ⟨k⟩
theorem G9(f g:am)(h1:f.words.length<=1000000)(h2:f.wz.length<=1000000)(h3:g.words.length<=1000000)(h4:g.wz.length<=1000000):APure prog 252 [bP f,bP g] (bD (r9 f g)):=by
 refine ap func252 ntmps252 λa=>?_
 repeat' first|refine SF ?_|(refine aV ?_;constructor<;>intro hc)
 all_goals(refine Rt.pure (zM bD ?_);simp[r9,seq, *])
theorem fj{p:Prop}(h:p:=by first|exact Vd.same hs0 _|exact Vd.nil _|(rw[h];exact Vd.same hs0 _)):p:=h
theorem G'(f:am):APure prog 253 [bP f] (bP (Ke f)):=by
 have hs0:∀{σ:af}(z:Nat),z∈aS ([]:af)->z∈aS σ:=λz h=>by cases h
 refine ap func253 ntmps253 λr=>?_;by_cases h:f.kind=0\/f.kind=1\/f.kind=2\/f.kind=3\/f.kind=4\/f.kind=5\/f.kind=6\/f.kind=7\/f.kind=8
 .rcases h with h|h|h|h|h|h|h|h|h
  all_goals
   repeat' first|refine ao ?_|intro b;conv=>whnf
   refine Rs.c ai (m:=1) rfl rfl rfl rfl rfl rfl ?_
   repeat' first|refine ao ?_|intro b;conv=>whnf
   have e:Ke f=⟨f.name,if im f.kind then f.of else⟨#[]⟩,if io f.kind then f.up else⟨#[]⟩,f.kind,if iU f.kind then f.lo else 0,if il f.kind then f.hi else 0,if eu f.kind then f.words else[],if eu f.kind then f.wz else[]⟩:=rfl;rw[h]at e;rw[e]
   (exact Rt.vs (Vs.vd (τ:=[]) ⟨_,xA (zZ _).symm⟩ (Vd.agg (.cons fj (.cons fj (.cons fj (.cons fj (.cons fj (.cons fj (.cons fj (.cons fj .nil))))))))))) 
 .have q:¬f.kind=0:=by omega
  have o:¬f.kind=1:=by omega
  have l:¬f.kind=2:=by omega
  have k:¬f.kind=3:=by omega
  have j:¬f.kind=4:=by omega
  have i:¬f.kind=5:=by omega
  have g:¬f.kind=6:=by omega
  have a:¬f.kind=7:=by omega
  have n:¬f.kind=8:=by omega
  repeat' first|refine ao ?_|intro b;conv=>whnf
  refine Rs.c ai (m:=1) rfl rfl rfl rfl rfl rfl ?_
  repeat' first|refine ao ?_|intro b;conv=>whnf
  have e:Ke f=⟨f.name,⟨#[]⟩,⟨#[]⟩,f.kind,0,0,[],[]⟩:=by simp[Ke,im,io,iU,il,eu,q,o,l,k,j,i,g,a,n]
  rw[e]
  (exact Rt.vs (Vs.vd (τ:=[]) ⟨_,xA (zZ _).symm⟩ (Vd.agg (.cons fj (.cons fj (.cons fj (.cons fj (.cons fj (.cons fj (.cons fj (.cons fj .nil))))))))))) 
end
section
open Go
theorem A5(a:ByteArray):seq a ⟨#[]⟩=dG a:=by
 unfold seq dG;have e:(⟨#[]⟩:ByteArray).toList=[]:=by rw[ByteArray.toList_eq]
 rw[e]
 cases a.toList<;>rfl
theorem A4(a:ByteArray):seq a a=true:=by unfold seq;simp
theorem pC(f:am):r9 f (Ke f)=l5 f:=by
 obtain⟨n,o,u,k,a,i,ws,g⟩:=f;have s:∀(c:Bool)(x:ByteArray),seq x (if c=true then x else⟨#[]⟩)=(c||dG x):=λc x=>by cases c<;>simp[A4,A5]
 have h:∀(c:Bool)(x:Int),decide (x=(if c=true then x else 0))=(c||x==0):=λc x=>by
  cases c
  .simp only[wG,uC,Bool.false_or];rfl
  .simp
 have l:∀(c:Bool),(decide (ws=(if c=true then ws else[]))&&decide (g=(if c=true then g else[])))=(c||(ws.isEmpty&&g.isEmpty)):=λc=>by
  cases c
  .cases ws<;>cases g<;>simp
  .simp
 simp only[r9,Ke,l5,s,h,A4,Bool.true_and,decide_true,Bool.and_true];rw[Bool.and_assoc _ (decide (ws=_)),l]
theorem rY{A B:Prop}(k:B)(h:ar B->A:=by intro q7;(first|refine bC ?_|refine aA ?_|(refine' ah ?hc ?_;(case hc=>first|exact HN|exact HO|exact HS|exact P4 _|exact ML _ _ _|exact aG9 _ _ _ _|exact bd9 _ _ hw hg)));exact q7.1):A:=h ⟨k⟩
theorem pA(f:am)(hw:f.words.length<=1000000)(hg:f.wz.length<=1000000):APure prog 213 [bP f] (bD (dF f)):=by
 have HN:=P4 f.name;have HO:=G' f;have HS:=G9 f (Ke f) hw hg (by unfold Ke;simp only;split<;>simp_all) (by unfold Ke;simp only;split<;>simp_all);rw[pC]at HS;have e:dF f=(aZ f.name&&(l5 f&&fP f)):=by unfold dF;rw[Bool.and_assoc]
 rw[e];refine ap func213 ntmps213 λa=>?_
 cases h1:aZ f.name with
 |false=>
  rw[h1]at HN
  repeat refine rY ?_
  exact Rt.pure rfl
 |true=>
  rw[h1]at HN
  cases h2:l5 f with
  |false=>
   rw[h2]at HS
   repeat refine rY ?_
   exact Rt.pure rfl
  |true=>
   rw[h2]at HS;by_cases h:f.kind=0\/f.kind=1\/f.kind=2\/f.kind=3\/f.kind=4\/f.kind=5\/f.kind=6\/f.kind=7\/f.kind=8
   .rcases h with h|h|h|h|h|h|h|h|h
    all_goals
     unfold fP;simp only[h]
     repeat' first|refine rY ?_|(refine aV ?_;constructor<;>intro hc)
     all_goals(refine Rt.pure (zM bD ?_);(try simp only[←A5,seq]);(try simp only[*]);(try simp))
   .have e:fP f=false:=by unfold fP;rw[if_neg (by omega),if_neg (by omega),if_neg (by omega),if_neg (by omega),if_neg (by omega),if_neg (by omega),if_neg (by omega),if_neg (by omega),if_neg (by omega)]
    rw[e]
    repeat refine rY ?_
    exact Rt.pure rfl
def FCt(f:am):Prop:=f.words.length<=1000000/\f.wz.length<=1000000
theorem KV{A B:Prop}(k:B)(h:ar B->A:=by intro q7;(first|refine bC ?_|refine aA ?_|(refine' ah ?hc ?_;(case hc=>first|exact P4 _|exact ML _ _ _|exact aG9 _ _ _ _|exact HA)));exact q7.1):A:=h ⟨k⟩
theorem uL(k:au)(a:k.fields.length<=1000000)(hc:∀f∈k.fields,FCt f):APure prog 160 [fF k] (bD (jv k)):=by
 have HA:=P3 k.fields dF a (λf h=>pA f (hc f h).1 (hc f h).2);refine ap func160 ntmps160 λb=>?_
 repeat' first|refine KV ?_|(refine aV ?_;constructor<;>intro hc)
 all_goals(refine Rt.pure (zM bD ?_);simp[jv, *]<;>omega)
theorem pz(n:Nat)(m:Int×Int)(a:n<=1000000):APure prog 217 [.agg (du m),.ro [iD n]] (bD (cb n m)):=by
 have HA:=True.intro;refine ap func217 ntmps217 λb=>?_
 repeat' first|refine KV ?_|(refine aV ?_;constructor<;>intro hc)
 all_goals(refine Rt.pure (zM bD ?_);simp[cb, *])
theorem SE{A B:Prop}(k:B)(h:ar B->A:=by intro q7;(first|refine bC ?_|refine aA ?_|(refine' ah ?hc ?_;(case hc=>first|exact P4 _|exact ML _ _ _|exact aG9 _ _ _ _|exact HA|exact HB)));exact q7.1):A:=h ⟨k⟩
theorem uK(l:bX)(hs:l.tz.length<=1000000)(a:l.mz.length<=1000000):APure prog 162 [dl l] (bD (j6 l)):=by
 have HA:=EU l.tz aZ hs (λy _=>P4 y);have HB:=P0 (f:=217) (cs:=[iD (l.tz.map λx=>[sD x]).length]) l.mz (cb l.tz.length) a (λy _=>by rw[zL];exact pz _ y hs);refine ap func162 ntmps162 λe=>?_
 repeat' first|refine SE ?_|intro b;conv=>whnf|(refine CE.pk (gT.peek (.cons (Pk.same _) (.cons (Pk.clo (.cons (Pk.ptr (j:=0) rfl (jz.refl _)) .nil)) .nil)) HB rfl) ?_)|(refine aV ?_;constructor<;>intro hc)
 all_goals(refine Rt.pure (zM bD ?_);simp[j6, *]<;>omega)
theorem SD{A B:Prop}(k:B)(h:ar B->A:=by intro q7;(first|refine bC ?_|refine aA ?_|(refine' ah ?hc ?_;(case hc=>first|exact P4 _|exact ML _ _ _)));exact q7.1):A:=h ⟨k⟩
theorem uJ(r:cI)(h:r.a.size+r.b.size<=2000000):APure prog 164 [eM r] (bD (xj r)):=by
 have b:((r.a++r.b).toList==(⟨#[]⟩:ByteArray).toList)=((r.a.toList==(⟨#[]⟩:ByteArray).toList)&&(r.b.toList==(⟨#[]⟩:ByteArray).toList)):=by
  have e:(r.a++r.b).toList=r.a.toList++r.b.toList:=by simp[ByteArray.toList_eq]
  have e0:(⟨#[]⟩:ByteArray).toList=[]:=by rw[ByteArray.toList_eq]
  rw[e,e0]
  cases r.a.toList<;>cases r.b.toList<;>rfl
 refine ap func164 ntmps164 λg=>?_
 repeat' first|refine SD ?_|(refine aV ?_;constructor<;>intro hc)
 all_goals(
  refine Rt.pure (zM bD ?_);simp only[xj,←A5,seq];rw[←b];generalize((r.a++r.b).toList==(⟨#[]⟩:ByteArray).toList)=c at *;generalize(r.a.toList==(⟨#[]⟩:ByteArray).toList)=f at *;generalize(r.b.toList==(⟨#[]⟩:ByteArray).toList)=a at *;simp_all)
end
section
open Go
theorem SC{A B:Prop}(k:B)(h:ar B->A:=by intro q7;(first|refine bC ?_|refine aA ?_|(refine' ah ?hc ?_;(case hc=>first|exact HW|exact HK|exact HL|exact HR)));exact q7.1):A:=h ⟨k⟩
theorem SB{A B:Prop}(k:B)(h:ar B->A:=by intro q7;(first|refine bC ?_|refine aA ?_|(refine' ah ?hc ?_;(case hc=>first|exact ML _ _ _|exact HK|exact HL|exact HR)));exact q7.1):A:=h ⟨k⟩
theorem bd7(x:ak)(g:Fe x):APure prog 108 [ax x] (iD (fI x)):=by
 have hx:=g.sm;have n:=hx.nkinds;have j:=hx.nlives;have i:=hx.nrules;have HK:=P2 x.kz jv n (λk h=>uL k (hx.kz k h).nfields (λf o=>⟨((hx.kz k h).fields f o).nwords,((hx.kz k h).fields f o).nweights⟩));have HL:=P1 x.lz j6 j (λl h=>uK l (hx.lz l h).nstates (hx.lz l h).nmoves);have HR:=PZ x.rules xj i (λr h=>uJ r (by have h1:=(hx.rules r h).a;have h2:=(hx.rules r h).b;unfold gQ at h1 h2;omega))
 cases v:ik x with
 |true=>
  have w:=g.src v;have e:fI x=0:=by unfold fI;rw[v];rfl
  have q:=v;simp only[ik,zJ,zQ]at q;obtain⟨⟨⟨⟨⟨⟨u,D⟩,C⟩,z⟩,t⟩,p⟩,q7⟩:=q;have HW:=ML x.vz 0 1048576;rw[u]at HW;rw[t]at HK;rw[p]at HL;rw[q7]at HR;refine ap func108 ntmps108 λy=>?_
  repeat' first|refine SC ?_|(refine CE.some (uI x g v) ?_;(rintro _ ⟨s,rfl,hs⟩))
  rw[e];exact Rt.pure rfl
 |false=>
  have e:fI x=1:=by unfold fI;rw[v];rfl
  refine ap func108 ntmps108 λy=>?_
  repeat' first|refine SB ?_|(refine aV ?_;constructor<;>intro hc)
  all_goals first
   |(rw[e];exact Rt.pure rfl)
   |(exfalso;simp[ik, *]at v<;>omega)
end
section
open Go Go.Maps Go.MapKept
theorem Hx:∃f0 f1 f2 f3:Field,prog.underlying 107=some (.struct #[f0,f1,f2,f3])/\f0.name ≠ "_" /\ f1.name ≠ "_" /\ f2.name ≠ "_" /\ f3.name ≠ "_" /\ f0.type=3/\f1.type=3/\f2.type=3/\f3.type=57/\f0.offset=0/\f1.offset=1/\f2.offset=2/\f3.offset=3:=
 ⟨_,_,_,_,underlying107,by decide,by decide,by decide,by decide,rfl,rfl,rfl,rfl,rfl,rfl,rfl,rfl⟩
theorem Zu:prog.plainKey 3=true:=by kernel_rfl
theorem O8:prog.plainKey 57=true:=by kernel_rfl
theorem Hw:prog.stoodInHeld 107=false:=by kernel_rfl
theorem B0:prog.eqGuardType prog.depth 107=false:=by kernel_rfl
def QH(p:fp):Value:=.agg #[.int .i64 p.1,.int .i64 p.2.1,.int .i64 p.2.2.1,.int .i64 p.2.2.2]
def QI(p q:fp):Bool:=(p.1==q.1)&&((p.2.1==q.2.1)&&((p.2.2.1==q.2.2.1)&&(p.2.2.2==q.2.2.2)))
theorem uN(w:World)(p q:fp):(Op.equalIn 10000 107 (QH p) (QH q)).run prog w= .ok (QI p q) w:=by
 obtain⟨f0,f1,f2,f3,h,v,t,s,r,t0,t1,t2,t3,n,m,l,o⟩:=Hx;obtain⟨a,b,c,d⟩:=p;obtain⟨D,C,B,A⟩:=q;unfold QH QI;have f:prog.fieldsOf 107= #[f0,f1,f2,f3]:=by simp[Program.fieldsOf,h]
 have k:∀x y z u:Int,(Go.part 3 #[.int .i64 x,.int .i64 y,.int .i64 z,.int .i64 u] 0).run prog w= .ok (.int .i64 x) w:=λx y z u=>run_part_plain w Zu rfl;have j:∀x y z u:Int,(Go.part 3 #[.int .i64 x,.int .i64 y,.int .i64 z,.int .i64 u] 1).run prog w= .ok (.int .i64 y) w:=λx y z u=>run_part_plain w Zu rfl;have i:∀x y z u:Int,(Go.part 3 #[.int .i64 x,.int .i64 y,.int .i64 z,.int .i64 u] 2).run prog w= .ok (.int .i64 z) w:=λx y z u=>run_part_plain w Zu rfl;have g:∀x y z u:Int,(Go.part 57 #[.int .i64 x,.int .i64 y,.int .i64 z,.int .i64 u] 3).run prog w= .ok (.int .i64 u) w:=λx y z u=>run_part_plain w O8 rfl;have q:∀x y:Int,(Op.equalIn 9999 3 (.int .i64 x) (.int .i64 y)).run prog w= .ok (x==y) w:=λx y=>run_equalIn_int w 9998 _ _ _ _ _ underlying3;have e:∀x y:Int,(Op.equalIn 9999 57 (.int .i64 x) (.int .i64 y)).run prog w= .ok (x==y) w:=λx y=>run_equalIn_int w 9998 _ _ _ _ _ underlying57;rw[show(10000:Nat)=9999+1 from rfl,run_equalIn_agg w 9999 _ _ _ (by rw[f];exact h) Hw,f];simp only[Op.eqFields,if_pos v,if_pos t,if_pos s,if_pos r,t0,t1,t2,t3,n,m,l,o,Sem.run_bind,Result.andThen,k,j,i,g,q,e,Sem.run_ite,Sem.run_pure]
 cases(a==D)<;>cases(b==C)<;>cases(c==B)<;>cases(d==A)<;>rfl
theorem By{w:World}{O:Nat->Prop}{u:Value}{p:fp}(h:Rd w O (.agg (bt p)) u):u=QH p:=by
 obtain⟨vs,rfl,v⟩:=h.agg_inv;have l:=v.len
 match vs,l,v with
 |[x,y,z,u],_,v=>
  rw[(v.at_ 0 _ _ rfl rfl).val rfl,(v.at_ 1 _ _ rfl rfl).val rfl,(v.at_ 2 _ _ rfl rfl).val rfl,(v.at_ 3 _ _ rfl rfl).val rfl]
  rfl
theorem FS{ρ:Operand->D}{σ:af}{o:Oper}{t:TypeId}{x y:Operand}{p q:fp}(a:o.op= .binOp .neq 107 x y t)(hx:ρ x= .agg (bt p))(d:ρ y= .agg (bt q)):Yd prog o ρ σ (.v (.bool (!QI p q))):=by
 intro w X η h f;obtain⟨dst,k,j,pos,i,g⟩:=o;simp only at a;subst a;have c:=h x (by simp[Op.operands]);have b:=h y (by simp[Op.operands]);rw[hx]at c;rw[d]at b;refine dE (s:=do eqGuard .neq 107 x y (η x) (η y);binOp .neq 107 (η x) (η y)) (u:=.bool (!QI p q)) ?_ (Ex.refl w) (.v _);rw[By c,By b];unfold QH at *;have e:=uN w p q;unfold QH at e;simp only[Sem.run_bind,run_eqGuard_agg w .neq _ _ _ _ _ B0,Result.andThen,run_neq_struct,e]
def sB(l:List UInt8):ByteArray:=⟨l.toArray⟩
def zF:am:={ name:=sB [],of:=sB [],up:=sB [],kind:=0,lo:=0,hi:=0,words:=[],wz:=[] }
def Ny:ak:={ vz:=0,kz:=[{ name:=sB [97],lo:=1,hi:=3,fields:=[{ zF with name:=sB [105,100],lo:=5 }] },{ name:=sB [98],lo:=0,hi:=9,fields:=[{ zF with name:=sB [105,100] },{ zF with name:=sB [116,111],kind:=1,of:=sB [97],hi:=2 },{ zF with name:=sB [110],kind:=2,hi:=9 }] }],lz:=[],rules:=[] }
theorem Gd:APure prog 92 [] (ax Ny):=by
 refine ap func92 ntmps92 λa=>?_
 repeat' first|refine ao ?_|intro b;conv=>whnf
 refine Rt.le ?_
 (repeat'(first|exact Le.refl _|exact gw _|exact fT.nil|refine fT.cons ?_ ?_|refine qy ?_|refine Zv ?_|refine nF ?_|exact dO.nil|refine dO.cons ?_ ?_))
theorem Ge(l:List fp)(hl:l.length<=1000000):APure prog 13 [.sl 4 (l.map bt)] (.sl 4 (l.map bt)):=by
 refine ap func13 ntmps13 λi=>?_
 repeat refine ao ?_
 refine ma mixed ai (γ:=Nat×Value×af) (λg=>[(3,.v g.2.1),(4,iD g.1)]) (λg=>g.2.2) (λg=>g.1<=l.length/\ae 107 4 ((l.take g.1).map bt) g.2.1 g.2.2) (λg=>l.length-g.1) (0,.slice none 0 0,[]) (aj aQ) dY ⟨zW _,ae.nil _ _⟩ ?_;rintro⟨j,v,s⟩ ⟨hj,w⟩;simp only at hj w⊢;by_cases hjl:j<l.length
 .obtain⟨p,f⟩:∃p,l[((j:Nat):Int).toNat]?=some p:=⟨_,zD hjl⟩
  have e:l[j]?=some p:=f
  repeat refine ao ?_
  refine Ap.go rfl rfl rfl rfl w (by simp:s.Perm (s++[])) rfl (zs:=(l.take (j+1)).map bt) (by rw[P5 e,yB];rfl) (by simp;omega) (by simp;omega) (λb=>b) (λb=>by simp) (λa c b r=>?_)
  repeat refine ao ?_
  exact⟨(j+1,_,b),(aj aQ),dY,⟨by simp only;omega,r⟩,by simp only;omega⟩
 .obtain rfl:j=l.length:=by omega
  repeat refine ao ?_
  rw[yM]at w;exact Rt.vs (Vs.row w (τ:=[]) (by simp))
theorem B1(p:fp):QI p p=true:=by simp[QI]
theorem sq6{A B:Prop}(k:B)(h:ar B->A:=by intro q7;(first|refine ao ?_|(with_reducible refine Br.t (wP _) ?_)|(with_reducible refine Br.f Bool.not_true ?_)|(with_reducible refine Br.t (yJ trivial) ?_)|(with_reducible refine Br.t (yJ rfl) ?_));exact q7.1):A:=h ⟨k⟩
theorem BG(l:List fp)(hl:l.length<=1000000):APure prog 12 [.sl 4 (l.map bt),.sl 4 (l.map bt)] (bD true):=by
 refine ap func12 ntmps12 λb=>?_
 repeat' first|refine sq6 ?_|(with_reducible refine Br.f (yE (λh=>h rfl)) ?_)
 refine ma mixed ai (γ:=Nat) (λg=>[(5,iD g)]) (λ_=>[]) (λg=>g<=l.length) (λg=>l.length-g) 0 (aj aQ) dY (zW _) ?_;intro j hj;by_cases hjl:j<l.length
 .obtain⟨p,a⟩:∃p,l[((j:Nat):Int).toNat]?=some p:=⟨_,zD hjl⟩
  repeat refine ao ?_
  refine Ot.yd (FS (p:=p) (q:=p) rfl rfl rfl) ?_;rw[B1]
  repeat refine ao ?_
  exact⟨j+1,(aj aQ),dY,by omega,by omega⟩
 .obtain rfl:j=l.length:=by omega
  repeat refine ao ?_
  refine Rt.pure (zM bD ?_);rfl
theorem RC{f:am}(g:f.name.size<=12)(e:f.of.size<=12)(i:f.up.size=0)(a:f.words=[])(h:f.wz=[])(d:0<=f.kind/\f.kind<=8)(c:-1000<=f.lo/\f.lo<=1000)(b:-1000<=f.hi/\f.hi<=1000):CF f:=
 ⟨g,e,by omega,by rw[a];decide,by rw[a];simp,by rw[h];decide,by rw[h];simp,d,c,b⟩
theorem aW4{w:Wd}(h:(decide (w.length<=1000)&&w.all λl=>decide (l.length<=1000)&&l.all λr=>decide (r.length<=1000))=true):Ws w:=by
 simp only[zJ,zQ,yA]at h;exact⟨h.1,λl a=>(h.2 l a).1,λl a r b=>(h.2 l a).2 r b⟩
theorem bo7{A B:Prop}(k:B)(h:ar B->A:=by intro q7;(first|refine bC ?_|refine aA ?_|(refine' ah ?hc ?_;(case hc=>first|exact Gd|exact HC|exact Ge _ (by assumption)|exact BG _ (by assumption))));exact q7.1):A:=h ⟨k⟩
theorem bo6{A B:Prop}(k:B)(h:ar B->A:=by intro q7;(first|refine bC ?_|refine aA ?_|(refine' ah ?hc ?_;(case hc=>first|exact F1|exact F2|exact F3|exact F4)));exact q7.1):A:=h ⟨k⟩
end
section
open Go Go.Maps Go.MapKept
theorem Gi:∃f0 f1 f2:Field,prog.underlying 56=some (.struct #[f0,f1,f2])/\f0.name ≠ "_" /\ f1.name ≠ "_" /\ f2.name ≠ "_" /\ f0.type=4/\f1.type=3/\f2.type=3/\f0.offset=0/\f1.offset=1/\f2.offset=2:=
 ⟨_,_,_,underlying56,by decide,by decide,by decide,rfl,rfl,rfl,rfl,rfl,rfl⟩
theorem PD:prog.plainKey 4=true:=by kernel_rfl
theorem Gh:prog.stoodInHeld 56=false:=by kernel_rfl
theorem zz:prog.eqGuardType prog.depth 56=false:=by kernel_rfl
abbrev Qo:=Bool×Int×Int
def Qz(p:Qo):Value:=.agg #[.bool p.1,.int .i64 p.2.1,.int .i64 p.2.2]
def QA(p q:Qo):Bool:=(p.1==q.1)&&((p.2.1==q.2.1)&&(p.2.2==q.2.2))
theorem uM(w:World)(p q:Qo):(Op.equalIn 10000 56 (Qz p) (Qz q)).run prog w= .ok (QA p q) w:=by
 obtain⟨f0,f1,f2,h,m,l,n,t0,t1,t2,k,j,o⟩:=Gi;obtain⟨a,b,c⟩:=p;obtain⟨t,s,r⟩:=q;unfold Qz QA;have f:prog.fieldsOf 56= #[f0,f1,f2]:=by simp[Program.fieldsOf,h]
 have i:∀(x:Bool)(y z:Int),(Go.part 4 #[.bool x,.int .i64 y,.int .i64 z] 0).run prog w= .ok (.bool x) w:=λx y z=>run_part_plain w PD rfl;have g:∀(x:Bool)(y z:Int),(Go.part 3 #[.bool x,.int .i64 y,.int .i64 z] 1).run prog w= .ok (.int .i64 y) w:=λx y z=>run_part_plain w Zu rfl;have e:∀(x:Bool)(y z:Int),(Go.part 3 #[.bool x,.int .i64 y,.int .i64 z] 2).run prog w= .ok (.int .i64 z) w:=λx y z=>run_part_plain w Zu rfl;have q:∀x y:Int,(Op.equalIn 9999 3 (.int .i64 x) (.int .i64 y)).run prog w= .ok (x==y) w:=λx y=>run_equalIn_int w 9998 _ _ _ _ _ underlying3;have d:∀x y:Bool,(Op.equalIn 9999 4 (.bool x) (.bool y)).run prog w= .ok (x==y) w:=λx y=>run_equalIn_bool w 9998 _ _ _ underlying4;rw[show(10000:Nat)=9999+1 from rfl,run_equalIn_agg w 9999 _ _ _ (by rw[f];exact h) Gh,f];simp only[Op.eqFields,if_pos m,if_pos l,if_pos n,t0,t1,t2,k,j,o,Sem.run_bind,Result.andThen,i,g,e,q,d,Sem.run_ite,Sem.run_pure]
 cases(a==t)<;>cases(b==s)<;>cases(c==r)<;>rfl
abbrev QB(p:Qo):List D:=[bD p.1,iD p.2.1,iD p.2.2]
theorem Bw{w:World}{O:Nat->Prop}{u:Value}{p:Qo}(h:Rd w O (.agg (QB p)) u):u=Qz p:=by
 obtain⟨vs,rfl,v⟩:=h.agg_inv;have l:=v.len
 match vs,l,v with
 |[x,y,z],_,v=>
  rw[(v.at_ 0 _ _ rfl rfl).val rfl,(v.at_ 1 _ _ rfl rfl).val rfl,(v.at_ 2 _ _ rfl rfl).val rfl]
  rfl
theorem kf{ρ:Operand->D}{σ:af}{o:Oper}{t:TypeId}{x y:Operand}{p q:Qo}(a:o.op= .binOp .eql 56 x y t)(hx:ρ x= .agg (QB p))(d:ρ y= .agg (QB q)):Yd prog o ρ σ (.v (.bool (QA p q))):=by
 intro w X η h f;obtain⟨dst,k,j,pos,i,g⟩:=o;simp only at a;subst a;have c:=h x (by simp[Op.operands]);have b:=h y (by simp[Op.operands]);rw[hx]at c;rw[d]at b;refine dE (s:=do eqGuard .eql 56 x y (η x) (η y);binOp .eql 56 (η x) (η y)) (u:=.bool (QA p q)) ?_ (Ex.refl w) (.v _);rw[Bw c,Bw b];unfold Qz at *;have e:=uM w p q;unfold Qz at e;simp only[Sem.run_bind,run_eqGuard_agg w .eql _ _ _ _ _ zz,Result.andThen,run_eql_struct,e]
theorem aV8(p:Qo):QA p p=true:=by simp[QA]
def mm:ak:={ vz:=0,kz:=[{ name:=sB [97],lo:=0,hi:=9,fields:=[{ zF with name:=sB [105,100],lo:=5 }] }],lz:=[],rules:=[] }
def GC:cE:=[⟨4,1,0,0⟩,⟨1,2,2,0⟩,⟨7,1,2,4⟩,⟨0,0,0,0⟩,⟨0,3,0,0⟩]
theorem GB:RA mm:=by
 refine{ ver:=by decide,nk:=by decide,ks:=λk h=>?_,nl:=by decide,ls:=λl c=>(by cases c),nr:=by decide,rs:=λr b=>(by cases b) };simp only[mm,zU,yF,xE]at h;subst h;refine⟨by decide,by decide,by decide,by decide,λf a=>?_⟩;simp only[zU,yF,xE]at a;subst a;exact RC (by decide) (by decide) rfl rfl rfl (by decide) (by decide) (by decide)
theorem kw(w:Wd)(v:(Bool×Int×Int)×Int)(a:Ws w)(h:mP mm GC w 100=v):APure prog 20 [ax mm,jD w,uB GC,iD 100] (vdD v):=by
 rw[←h];exact pj mm GC w 100 (qP mm (bd7 mm GB.good) w a) (pd mm (by decide) (by decide) GC (by decide) w (by have:=a.1;omega) (λl b=>⟨by have:=a.2 l b;omega,λr c=>by have:=a.3 l b r c;omega⟩) 100)
theorem sq7{A B:Prop}(k:B)(h:ar B->A:=by intro q7;(first|refine ao ?_|(with_reducible refine Br.t (yJ trivial) ?_));exact q7.1):A:=h ⟨k⟩
theorem Pr{p:Prop}(h:p:=by repeat'(first|exact Le.refl _|exact gw _|exact fT.nil|refine fT.cons ?_ ?_|refine qy ?_|refine Zv ?_|refine nF ?_|exact dO.nil|refine dO.cons ?_ ?_)):p:=h
theorem aW2:APure prog 27 [] (bD true):=by
 have e:=kw [[[5]]] ((true,3,4),0) (aW4 rfl) (by decide +kernel);have a:=kw [[[5],[6]]] ((false,0,4),0) (aW4 rfl) (by decide +kernel);have F:=kw [] ((false,0,0),2) (aW4 rfl) (by decide +kernel);refine ap func27 ntmps27 λf=>?_
 repeat' first|refine ao ?_|intro b;conv=>whnf
 refine CE.pk (gT.le Pr e) ?_
 repeat' first|refine ao ?_|intro b;conv=>whnf
 refine CE.pk (gT.le Pr a) ?_
 repeat' first|refine ao ?_|intro b;conv=>whnf
 refine CE.pk (gT.le Pr F) ?_
 repeat' first|refine sq7 ?_|intro b;conv=>whnf
 refine Ot.yd (kf (p:=(true,3,4)) (q:=(true,3,4)) rfl rfl rfl) ?_;rw[aV8]
 repeat' first|refine sq7 ?_|intro b;conv=>whnf
 refine Ot.yd (kf (p:=(false,0,4)) (q:=(false,0,4)) rfl rfl rfl) ?_;rw[aV8]
 repeat' first|refine sq7 ?_|intro b;conv=>whnf
 exact Rt.vs (Vs.drop (yV _))
end
section
open Go
theorem uO{α:Type}{R:eF α}{e:TypeId}{xs:List α}{vs:List Value}{a t s':af}{s:List af}{v u:Value}{x:α}(b:cT R xs vs s)(c:ae e 1 (vs.map (λu=>[D.v u])++[[D.v u]]) v a)(hx:R x u t)(h:s'.Perm (a++(s.flatten++t))):aN e R (xs++[x]) v s':=
 ⟨vs++[u],a,s++[t],by simpa using c,b.append (.cons hx .nil),h.trans (by simp)⟩
end
section
open Go
theorem bn1{c k:Nat}{vs:List Value}{z:D}(a:vs.length+1<=c)(h:c*k<=140737488355328):(vs.map (λu=>[D.v u])++[[z]]).length*k<=140737488355328:=by rw[zI,zL];exact xH (xZ _ a) h
end
section
open Go
end
section
open Go
end
section
open Go
structure Tn(z:Int):Prop where
 lo:-68719476736<=z
 hi:z<=68719476736
structure fw(w:Wd):Prop where
 k:w.length<=10
 n:∀l∈w,l.length<=10
 f:∀l∈w,∀r∈l,r.length<=50
 v:∀l∈w,∀r∈l,∀v∈r,Tn v
theorem fw.sm{w:Wd}(h:fw w):E7 w:=
 ⟨by have:=h.k;omega,λl a=>by have:=h.n l a;omega,λl a r b=>by have:=h.f l a r b;omega,λl a r b v c=>⟨by have:=(h.v l a r b v c).lo;omega,by have:=(h.v l a r b v c).hi;omega⟩⟩
theorem bo5{A B:Prop}(k:B)(h:ar B->A:=by intro q7;(first|refine bC ?_|refine aA ?_|(refine' ah ?hc ?_;(case hc=>first|exact HAt|exact HUp|exact HA _ _|exact HU _ _)));exact q7.1):A:=h ⟨k⟩
end
section
open Go
structure WSz(a b c:Nat)(w:Wd):Prop where
 k:w.length<=a
 n:∀l∈w,l.length<=b
 f:∀l∈w,∀r∈l,r.length<=c
 v:∀l∈w,∀r∈l,∀v∈r,cB v
theorem fw.sz{w:Wd}(h:fw w):WSz 10 10 50 w:=⟨h.k,h.n,h.f,h.sm.v⟩
def oK(w:Wd)(k:Nat)(x:List (List Int)):Wd:=w.take k++x::List.replicate (w.length-k-1) []
theorem Cr{w:Wd}{k:Nat}(h:k<w.length)(x:List (List Int)):(oK w k x).length=w.length:=by unfold oK;simp;omega
theorem Lg{w:Wd}{k:Nat}(h:k<w.length)(x:List (List Int)):(oK w k x)[k]?=some x:=by
 unfold oK;rw[yK (by simp;omega),zR,show k-min k w.length=0 by omega]
 rfl
theorem Cq{w:Wd}{k:Nat}(h:k<w.length)(x y:List (List Int)):(oK w k x).set k y=oK w k y:=by
 unfold oK;rw[List.set_append_right _ _ (by simp;omega),zR,show k-min k w.length=0 by omega]
 rfl
theorem np{w:Wd}{k:Nat}(h:k<w.length):w.take k++List.replicate (w.length-k) []=oK w k []:=by
 unfold oK;rw[show w.length-k=(w.length-k-1)+1 by omega,List.replicate_succ]
 rfl
theorem sJ{w:Wd}{k:Nat}{l:List (List Int)}(h:w[k]?=some l):oK w k l=w.take (k+1)++List.replicate (w.length-(k+1)) []:=by
 unfold oK;rw[xC,h,show w.length-k-1=w.length-(k+1) by omega];simp
theorem SA{A B:Prop}(k:B)(h:ar B->A:=by intro q7;(first|refine bC ?_|refine gX ?_|(refine' ah ?hc ?_;(case hc=>fail)));exact q7.1):A:=h ⟨k⟩
theorem uU{a b c:Nat}(w:Wd)(J:WSz a b c w)(ha:a<=100)(hb:b<=100)(hc:c<=100):az prog 28 [jD w] [] (λd s=>∃v,d= .v v/\RW w v s):=by
 have hwk:=J.k;refine cP func28 ntmps28 λBB=>?_
 repeat' first|refine ao ?_|intro b;conv=>whnf
 refine Mk.go w.length rfl rfl rfl rfl rfl (by simp) (by omega) (by omega) (λo=>?_)
 repeat' first|refine ao ?_|intro b;conv=>whnf
 have E:RW (w.take 0++List.replicate (w.length-0) []) (.slice (some ⟨o,0,none⟩) w.length w.length) [(o,.cells 70 (List.replicate w.length (.v (.slice none 0 0))))]:=
  aN.made (R:=Kt) (x0:=[]) (aN.nil _ _) _ o (by unfold maxLen;omega)
 refine aR mixed ai (γ:=Nat×af) (λg=>[(4,iD g.1)]) (λg=>g.2) (λg=>g.1<=w.length/\RW (w.take g.1++List.replicate (w.length-g.1) []) (.slice (some ⟨o,0,none⟩) w.length w.length) g.2) (λg=>w.length-g.1) (0,_) (aj av) (Sc.refl _) ⟨zW _,E⟩ ?_;clear E;rintro⟨k,s⟩ ⟨hk,f⟩;simp only at hk f⊢;by_cases hkl:k<w.length
 .obtain⟨l,hl⟩:∃l,w[k]?=some l:=⟨_,zD hkl⟩
  have hl':w[((k:Nat):Int).toNat]?=some l:=hl;have hln:=J.n l (zG hl);rw[np hkl]at f
  repeat' first|refine ao ?_|intro b;conv=>whnf
  refine aR mixed ai (γ:=Nat×af) (λg=>[(5,iD g.1)]) (λg=>g.2) (λg=>g.1<=l.length/\RW (oK w k (l.take g.1)) (.slice (some ⟨o,0,none⟩) w.length w.length) g.2) (λg=>l.length-g.1) (0,s) (aj av) (Sc.refl _) ⟨zW _,f⟩ ?_;clear f;rintro⟨i,s⟩ ⟨hi,f⟩;simp only at hi f⊢;by_cases hil:i<l.length
  .obtain⟨r,P⟩:∃r,l[i]?=some r:=⟨_,zD hil⟩
   have hr':l[((i:Nat):Int).toNat]?=some r:=P;have L:r.length<=100:=xH (J.f l (zG hl) r (zG P)) hc;obtain⟨b0,X,e,u,t,τ,e0,I,S,U,F⟩:=aN.at f (Lg hkl (l.take i));rw[Cr hkl]at e0
   cases e0
   obtain⟨a1,ca1,rfl⟩:=aN.slice U;obtain⟨vs,s0,q,g1,V,g3⟩:=U.ex;have K:=V.len.1;rw[zR]at K
   repeat' first|refine SA ?_|intro b;conv=>whnf
   refine ja ?_;refine jt mixed ai rfl [0,1,2,3,4,7,8,9,10,11,12,13] 7 (i8 [5,6,14,16,18]) (.two 5 (.one 6 (.one 14 (.fst 15 (.one 16 (.fst 17 (.one 18 .done)))))) 6 (.two 5 (.one 14 (.fst 15 (.one 16 (.fst 17 (.one 18 .done))))) 14 (.fst 15 (.one 5 (.one 16 (.fst 17 (.one 18 .done))))))) (γ:=af) (λ_=>[]) (λg=>g) (λg=>RW (oK w k (l.take (i+1))) (.slice (some ⟨o,0,none⟩) w.length w.length) g) (by decide +kernel) ?_ ?_
   .repeat' first|refine ao ?_|intro b;conv=>whnf|(refine And.intro ?_ ?_<;>(conv=>whnf))|(refine Ld.cellm (tb:=70) (cs:=e) (I.mem_iff.2 yN) (by rw[dW];exact S) ?_)|(refine Ld.cellm (tb:=70) (cs:=e) (yW _ (I.mem_iff.2 yN)) (by rw[dW];exact S) ?_)|(refine Ap.go rfl rfl rfl rfl (ae.e0 _ _ (some ⟨b,0,none⟩)) (zH ([]++s)) (FE r) (zs:=r.map λn=>[iD n]) rfl (bn0 (c:=100) L (by decide)) (by simp;omega) (λz=>z++s) (λz=>zH _) (λT Q y O=>?_))|(refine Ap.go rfl rfl rfl rfl g1 (τ:=((o,aB.cells 70 e)::(q.flatten++(τ++y)))) (by refine gz λa=>?_;have e1:=Q9 I a;have e2:=Q9 g3 a;simp only[List.append_eq,List.nil_append,gy,hY,gO]at e1 e2⊢;omega) rfl (zs:=vs.map (λu=>[D.v u])++[[D.v (.slice T (r.map λn=>[iD n]).length Q)]]) rfl (bn1 (c:=1000) (by omega) (by decide)) (by simp;omega) (λz=>z++((o,aB.cells 70 e)::(q.flatten++(τ++y)))) (λz=>zH _) (λZ Y G M=>?_))
    all_goals
     have C:=uO V M (x:=r) O (s':=G++(q.flatten++y)) (zH _);rw[show l.take i++[r]=l.take (i+1) by rw[xC,P];rfl]at C;have j:=F _ _ _ ((o,.cells 70 (e.set k (.v (.slice Z (vs.map (λu=>[D.v u])++[[D.v (.slice T (r.map λn=>[iD n]).length Q)]]).length Y))))::((G++(q.flatten++y))++τ)) C (zH _);rw[Cq hkl]at j;refine Sv.cellm (tb:=70) (cs:=e) (cs':=e.set k (.v (.slice Z (vs.map (λu=>[D.v u])++[[D.v (.slice T (r.map λn=>[iD n]).length Q)]]).length Y))) (τ:=G++(q.flatten++(τ++y))) qM (by rw[dW];exact(zE.1 S).1) rfl (by rw[dW]) ?_
     repeat' first|refine ao ?_|intro b;conv=>whnf
     exact⟨_,(aj aQ),Sc.perm qM,j⟩
   .intro g hg
    repeat' first|refine ao ?_|intro b;conv=>whnf
    exact⟨(i+1,g),(aj av),Sc.refl _,⟨by simp only;omega,hg⟩,by simp only;omega⟩
  .obtain rfl:i=l.length:=by omega
   rw[yM,sJ hl]at f
   repeat' first|refine ao ?_|intro b;conv=>whnf
   exact⟨(k+1,s),(aj av),Sc.refl _,⟨by simp only;omega,f⟩,by simp only;omega⟩
 .obtain rfl:k=w.length:=by omega
  rw[yM,wH,List.replicate_zero,zZ]at f
  repeat' first|refine ao ?_|intro b;conv=>whnf
  exact Rt.same ⟨_,rfl,f⟩
end
section
abbrev bZ:=Nat->Nat->Int
def dr:Int:=1099511627776
def lU(j i k:Nat)(c:bZ):bZ:=λa b=>if a=i/\b=k/\c i j<dr/\c j k<dr then min (c i k) (c i j+c j k)else c a b
def bI(j i:Nat):Nat->bZ->bZ
 |0,c=>c
 |k+1,c=>lU j i k (bI j i k c)
def gn(m j:Nat):Nat->bZ->bZ
 |0,c=>c
 |i+1,c=>bI j i m (gn m j i c)
def eW(m:Nat):Nat->bZ->bZ
 |0,c=>c
 |j+1,c=>gn m j m (eW m j c)
theorem zC(j i k:Nat)(c:bZ)(a b:Nat):lU j i k c a b<=c a b:=by
 unfold lU;split
 .rename_i h;obtain⟨rfl,rfl,_⟩:=h;omega
 .omega
theorem si(j i:Nat)(c:bZ)(a b:Nat):∀k,bI j i k c a b<=c a b
 |0=>Int.le_refl _
 |k+1=>Int.le_trans (zC j i k _ a b) (si j i c a b k)
theorem qj(m j:Nat)(c:bZ)(a b:Nat):∀i,gn m j i c a b<=c a b
 |0=>Int.le_refl _
 |i+1=>Int.le_trans (si j i _ a b m) (qj m j c a b i)
theorem lI(m:Nat)(c:bZ)(a b:Nat):∀{j k:Nat},j<=k->eW m k c a b<=eW m j c a b
 |j,0,h=>by
  obtain rfl:j=0:=by omega
  exact Int.le_refl _
 |j,k+1,h=>by
  by_cases e:j=k+1
  .subst e;exact Int.le_refl _
  .exact Int.le_trans (qj m k _ a b m) (lI m c a b (by omega:j<=k))
def gk(j:Nat)(c:bZ):bZ:=λa b=>if c a j<dr/\c j b<dr then min (c a b) (c a j+c j b)else c a b
theorem mI{j:Nat}{c:bZ}(h:0<=c j j)(a:Nat):gk j c a j=c a j:=by
 unfold gk;split<;>omega
theorem mH{j:Nat}{c:bZ}(h:0<=c j j)(b:Nat):gk j c j b=c j b:=by
 unfold gk;split<;>omega
theorem mS{m j:Nat}(q:j<m){c d:bZ}(h:0<=c j j)(i:Nat)(r:∀a b,b<m->d a b=if a<i then gk j c a b else c a b):∀(k:Nat),k<=m->∀a b,b<m->bI j i k d a b=if a<i\/a=i/\b<k then gk j c a b else c a b
 |0,_,a,b,p=>by
  rw[bI,r a b p];by_cases h1:a<i
  .rw[if_pos h1,if_pos (.inl h1)]
  .rw[if_neg h1,if_neg (by omega)]
 |k+1,s,a,b,p=>by
  have l:=mS q h i r k (by omega);have o:bI j i k d i j=c i j:=by
   rw[l _ _ q];split
   .exact mI h i
   .rfl
  have n:bI j i k d j k=c j k:=by
   rw[l _ _ (by omega)];split
   .exact mH h k
   .rfl
  have f:bI j i k d i k=c i k:=by rw[l _ _ (by omega),if_neg (by omega)]
  show(if a=i/\b=k/\bI j i k d i j<dr/\bI j i k d j k<dr then min (bI j i k d i k) (bI j i k d i j+bI j i k d j k)else bI j i k d a b)=_;rw[o,n,f];by_cases e:a=i/\b=k
  .obtain⟨rfl,rfl⟩:=e;rw[if_pos (show a<a\/a=a/\b<b+1 from .inr ⟨rfl,by omega⟩)];by_cases g:c a j<dr/\c j b<dr
   .rw[if_pos ⟨rfl,rfl,g⟩];unfold gk;rw[if_pos g]
   .rw[if_neg (λh=>g h.2.2)];unfold gk;rw[if_neg g,f]
  .rw[if_neg (λh=>e ⟨h.1,h.2.1⟩),l _ _ p];by_cases h1:a<i\/a=i/\b<k
   .rw[if_pos h1,if_pos (by omega)]
   .rw[if_neg h1,if_neg (by omega)]
theorem sA{m j:Nat}(e:j<m){c:bZ}(h:0<=c j j):∀(i a b:Nat),b<m->gn m j i c a b=if a<i then gk j c a b else c a b
 |0,a,b,_=>by rw[gn,if_neg (by omega)]
 |i+1,a,b,d=>by
  rw[gn,mS e h i (λa b d=>sA e h i a b d) m (zT _) a b d];by_cases h1:a<i+1
  .rw[if_pos h1,if_pos (by omega)]
  .rw[if_neg h1,if_neg (by omega)]
structure MX(m j:Nat)(B:Int)(c:bZ):Prop where
 tri:∀a b q,a<m->b<m->q<j->c a q<dr->c q b<dr->c a b<=c a q+c q b
 bd:∀a b,a<m->b<m->c a b<dr -> -B<=c a b/\c a b<=B
 top:∀a b,a<m->b<m->c a b<=dr
theorem MX.step{m j:Nat}{B:Int}{c:bZ}(i:j<m)(s:0<=c j j)(D:2*B<dr)(t:0<=B)(h:MX m j B c):MX m (j+1) (2*B) (gn m j m c):=by
 have e:∀a b,a<m->b<m->gn m j m c a b=gk j c a b:=λa b f d=>by rw[sA i s m a b d,if_pos f]
 have o:∀a,a<m->gn m j m c a j=c a j:=λa f=>by rw[e a j f i,mI s]
 have w:∀b,b<m->gn m j m c j b=c j b:=λb d=>by rw[e j b i d,mH s]
 refine⟨λa b q f d C n p=>?_,λa b f d n=>?_,λa b f d=>?_⟩
 .by_cases r:q=j
  .subst r;rw[o a f]at n⊢;rw[w b d]at p⊢;rw[e a b f d,gk,if_pos ⟨n,p⟩];omega
  .have l:q<j:=by omega
   have k:q<m:=by omega
   rw[e a q f k]at n⊢;rw[e q b k d]at p⊢;rw[e a b f d];unfold gk at *;have t1:=h.tri a b q f d l;have t2:=h.tri j b q i d l;have t3:=h.tri a j q f i l;have t4:=h.tri j j q i i l;have x:=h.bd a q f k;have b2:=h.bd q b k d;have v:=h.bd a j f i;have F:=h.bd j q i k;have E:=h.bd q j k i;have u:=h.bd j b i d;have A:=h.top a b f d;have z:=h.top a j f i;have y:=h.top j b i d;unfold dr at *;split at n<;>split at p<;>(try rw[if_pos (by assumption)])<;>(try rw[if_neg (by assumption)])<;>split<;>omega
 .rw[e a b f d]at n⊢;have x:=h.bd a b f d;have v:=h.bd a j f i;have u:=h.bd j b i d;unfold gk at *;split at n
  .rename_i g;rw[if_pos g];omega
  .rename_i g;rw[if_neg g];omega
 .exact Int.le_trans (qj m j c a b m) (h.top a b f d)
theorem oA{m:Nat}{B:Int}{c:bZ}(h:0<=B)(g:2 ^ m*B<dr)(b:MX m 0 B c)(d:∀x,x<m->0<=eW m m c x x):∀(j:Nat),j<=m->MX m j (2 ^ j*B) (eW m j c)
 |0,_=>by rw[Int.pow_zero,Int.one_mul];exact b
 |j+1,f=>by
  have i:=oA h g b d j (by omega);have k:0<=eW m j c j j:=Int.le_trans (d j (by omega)) (lI m c j j (by omega));have p:(0:Int)<=2 ^ j*B:=Int.mul_nonneg (Int.le_of_lt (Int.pow_pos (by decide))) h;have a:(2:Int) ^ (j+1)*B<=2 ^ m*B:=Int.mul_le_mul_of_nonneg_right (by
   have:=Nat.pow_le_pow_right (n:=2) (by decide) f
   exact_mod_cast this) h
  have e:(2:Int) ^ (j+1)*B=2*(2 ^ j*B):=by rw[Int.pow_succ];rw[Int.mul_comm (2 ^ j) 2,Int.mul_assoc]
  rw[e]at a⊢;exact MX.step (by omega) k (by omega) p i
end
section
def cU(n k j:Nat):Nat:=if j<k then j else n
def fO(v:List Int)(k j:Nat):Int:=if j<k then v.getD j 0 else 0
def dP(c:bZ)(n k:Nat)(v:List Int):Nat->Int×Bool
 |0=>(-dr,false)
 |j+1=>if c (cU n k j) k<dr then(if(dP c n k v j).2=false\/(dP c n k v j).1<fO v k j-c (cU n k j) k then fO v k j-c (cU n k j) k else(dP c n k v j).1,true)else dP c n k v j
def er(c:bZ)(n k:Nat)(v:List Int):Nat->Int×Bool
 |0=>(dr,false)
 |j+1=>if c k (cU n k j)<dr then(if(er c n k v j).2=false\/fO v k j+c k (cU n k j)<(er c n k v j).1 then fO v k j+c k (cU n k j)else(er c n k v j).1,true)else er c n k v j
theorem X7{p:Prop}(h:p:=by
 rw[if_neg hf];refine⟨λj hj hjf=>?_,λh=>?_⟩
 .by_cases e:j=q
  .subst e;exact absurd hjf hf
  .exact h1 j (by omega) hjf
 .obtain⟨j,a,b,d⟩:=h2 h;exact⟨j,by omega,b,d⟩):p:=h
theorem X5{p:Prop}(h:p:=by
 by_cases e:j=q
 .subst e;simp only;split<;>omega
 .obtain⟨g1,g2⟩:=h1 j (by omega) hjf;simp only;rw[g1];split
  .rename_i h;rcases h with h|h
   .cases h
   .omega
  .exact g2):p:=h
theorem aW9(c:bZ)(n k:Nat)(v:List Int):∀(q:Nat),(∀j,j<q->c (cU n k j) k<dr->(dP c n k v q).2=true/\fO v k j-c (cU n k j) k<=(dP c n k v q).1) /\
  ((dP c n k v q).2=true->∃j,j<q/\c (cU n k j) k<dr/\(dP c n k v q).1=fO v k j-c (cU n k j) k)
 |0=>⟨λj h=>by omega,λh=>by cases h⟩
 |q+1=>by
  obtain⟨h1,h2⟩:=aW9 c n k v q;rw[dP];by_cases hf:c (cU n k q) k<dr
  .rw[if_pos hf];refine⟨λj hj hjf=>⟨rfl,?_⟩,λ_=>?_⟩
   .exact X5
   .by_cases g:(dP c n k v q).2=false\/(dP c n k v q).1<fO v k q-c (cU n k q) k
    .exact⟨q,by omega,hf,by simp only;rw[if_pos g]⟩
    .obtain⟨j,a,b,d⟩:=h2 (by
      cases f:(dP c n k v q).2 with
      |true=>rfl
      |false=>exact absurd (.inl f) g)
     exact⟨j,by omega,b,by simp only;rw[if_neg g];exact d⟩
  .exact X7
theorem aX0(c:bZ)(n k:Nat)(v:List Int):∀(q:Nat),(∀j,j<q->c k (cU n k j)<dr->(er c n k v q).2=true/\(er c n k v q).1<=fO v k j+c k (cU n k j)) /\
  ((er c n k v q).2=true->∃j,j<q/\c k (cU n k j)<dr/\(er c n k v q).1=fO v k j+c k (cU n k j))
 |0=>⟨λj h=>by omega,λh=>by cases h⟩
 |q+1=>by
  obtain⟨h1,h2⟩:=aX0 c n k v q;rw[er];by_cases hf:c k (cU n k q)<dr
  .rw[if_pos hf];refine⟨λj hj hjf=>⟨rfl,?_⟩,λ_=>?_⟩
   .exact X5
   .by_cases g:(er c n k v q).2=false\/fO v k q+c k (cU n k q)<(er c n k v q).1
    .exact⟨q,by omega,hf,by simp only;rw[if_pos g]⟩
    .obtain⟨j,a,b,d⟩:=h2 (by
      cases f:(er c n k v q).2 with
      |true=>rfl
      |false=>exact absurd (.inl f) g)
     exact⟨j,by omega,b,by simp only;rw[if_neg g];exact d⟩
  .exact X7
def oP(c:bZ)(n k:Nat)(v:List Int):Prop:=∀i j,i<=k->j<=k->c (cU n k i) (cU n k j)<dr->fO v k i-fO v k j<=c (cU n k i) (cU n k j)
structure rz(n:Nat)(B:Int)(c:bZ):Prop where
 cls:MX (n+1) (n+1) B c
 diag:∀x,x<n+1->0<=c x x
 fin:∀x,x<n->c x n<dr/\c n x<dr
 small:2*B<dr
theorem kK{n:Nat}{B:Int}{c:bZ}(h:rz n B c){k:Nat}(q:k<n){v:List Int}(p:oP c n k v) :
  (dP c n k v (k+1)).2=true/\(er c n k v (k+1)).2=true/\(dP c n k v (k+1)).1<=(er c n k v (k+1)).1 /\ -B<=(dP c n k v (k+1)).1/\(er c n k v (k+1)).1<=B:=by
 obtain⟨o,m⟩:=aW9 c n k v (k+1);obtain⟨w,u⟩:=aX0 c n k v (k+1);have e:cU n k k=n:=by unfold cU;rw[if_neg (by omega)]
 have x:fO v k k=0:=by unfold fO;rw[if_neg (by omega)]
 obtain⟨f1,f2⟩:=h.fin k q;obtain⟨l,y⟩:=o k (by omega) (by rw[e];exact f2);obtain⟨g,b2⟩:=w k (by omega) (by rw[e];exact f1);rw[e,x]at y b2;have s:=h.cls.bd n k (by omega) (by omega) f2;have r:=h.cls.bd k n (by omega) (by omega) f1;refine⟨l,g,?_,by omega,by omega⟩;obtain⟨i,D,f,C⟩:=m l;obtain⟨j,A,d,z⟩:=u g;have b:cU n k i<n+1:=by unfold cU;split<;>omega
 have a:cU n k j<n+1:=by unfold cU;split<;>omega
 have t:=h.cls.tri (cU n k i) (cU n k j) k b a (by omega) f d;have c1:=h.cls.bd _ k b (by omega) f;have F:=h.cls.bd k _ (by omega) a d;have E:=h.small;have:=p i j (by omega) (by omega) (by omega);omega
theorem wa{n:Nat}{B:Int}{c:bZ}(h:rz n B c){k:Nat}(G:k<n){v:List Int}(E:v.length=k)(C:oP c n k v){x:Int}(A:(dP c n k v (k+1)).1<=x)(z:x<=(er c n k v (k+1)).1):oP c n (k+1) (v++[x]):=by
 obtain⟨y,_⟩:=aW9 c n k v (k+1);obtain⟨F,_⟩:=aX0 c n k v (k+1);have d:∀i,i<=k+1->i≠k->∃q,q<=k/\cU n (k+1) i=cU n k q/\fO (v++[x]) (k+1) i=fO v k q:=λi r D=>by
  by_cases h1:i<k
  .refine⟨i,by omega,by unfold cU;rw[if_pos (by omega),if_pos h1],?_⟩;unfold fO;rw[if_pos (by omega),if_pos h1,List.getD_eq_getElem?_getD,List.getD_eq_getElem?_getD,yP (by omega)]
  .exact⟨k,zT _,by unfold cU;rw[if_neg (by omega),if_neg (by omega)],by unfold fO;rw[if_neg (by omega),if_neg (by omega)]⟩
 have b:cU n (k+1) k=k:=by unfold cU;rw[if_pos (by omega)]
 have a:fO (v++[x]) (k+1) k=x:=by
  unfold fO;rw[if_pos (by omega),List.getD_eq_getElem?_getD,yK (by omega),E,wH];rfl
 intro i j r o f;by_cases s:i=k
 .subst s;rw[b]at f⊢;rw[a];by_cases e:j=i
  .subst e;rw[b,a];have:=h.diag j (by omega);omega
  .obtain⟨q,m,l,g⟩:=d j o e;rw[l]at f⊢;rw[g];have:=(F q (by omega) f).2;omega
 .obtain⟨p,w,u,t⟩:=d i r s;rw[u]at f⊢;rw[t];by_cases e:j=k
  .subst e;rw[b]at f⊢;rw[a];have:=(y p (by omega) f).2;omega
  .obtain⟨q,m,l,g⟩:=d j o e;rw[l]at f⊢;rw[g];exact C p q w m f
end
section
open Go
def jy(m:Nat)(c:bZ)(i:Nat)(M:Int):Prop:=∀b,b<m -> -M<=c i b
def yh(m:Nat)(c:bZ)(M:Int):Prop:=∀a,a<m->jy m c a M
def lQ(c:bZ):Prop:=∀a b,c a b<=dr
theorem Gm{j i k:Nat}{c:bZ}(h:lQ c):lQ (lU j i k c):=λa b=>Int.le_trans (zC j i k c a b) (h a b)
theorem aW8{j i:Nat}{c:bZ}(h:lQ c):∀k,lQ (bI j i k c)
 |0=>h
 |k+1=>Gm (aW8 h k)
theorem kR{m j:Nat}{c:bZ}(h:lQ c):∀i,lQ (gn m j i c)
 |0=>h
 |i+1=>aW8 (kR h i) m
theorem oz{m:Nat}{c:bZ}(h:lQ c):∀j,lQ (eW m j c)
 |0=>h
 |j+1=>kR (oz h j) m
theorem QT(j i:Nat)(c:bZ):∀(k a b:Nat),a≠i->bI j i k c a b=c a b
 |0,_,_,_=>rfl
 |k+1,a,b,h=>by
  rw[bI];unfold lU;rw[if_neg (λd=>h d.1)];exact QT j i c k a b h
theorem kJ(j i:Nat)(c:bZ):∀(k b:Nat),k<=b->bI j i k c i b=c i b
 |0,_,_=>rfl
 |k+1,b,h=>by
  rw[bI];unfold lU;rw[if_neg (λa=>by omega)];exact kJ j i c k b (by omega)
theorem Bf{m j i:Nat}{c:bZ}{f M:Int}(e:i≠j)(d:j<m)(g:jy m c i f)(l:jy m c j M)(q:0<=f)(p:0<=M):∀k,k<=m -> -(f+M)<=bI j i k c i j/\jy m (bI j i k c) i (f+2*M)
 |0,_=>⟨by have:=g j d;rw[bI];omega,λb n=>by have:=g b n;rw[bI];omega⟩
 |k+1,u=>by
  obtain⟨t,s⟩:=Bf e d g l q p k (by omega);have r:bI j i k c j k=c j k:=QT j i c k j k (Ne.symm e);have o:bI j i k c i k=c i k:=kJ j i c k k (zT _);have v:=l k (by omega);have b2:=g k (by omega);rw[bI];unfold lU;rw[r,o];refine⟨?_,λb n=>?_⟩
  .by_cases a:k=j
   .subst a;rw[o]at *;split
    .have:=l k (by omega);omega
    .omega
   .rw[if_neg (λh=>a h.2.1.symm)];exact t
  .have:=s b n
   show -(f+2*M)<=if i=i/\b=k/\bI j i k c i j<dr/\c j k<dr then min (c i k) (bI j i k c i j+c j k)else bI j i k c i b
   split
   .rename_i h;obtain⟨_,rfl,_⟩:=h;omega
   .exact this
theorem sg{m j:Nat}{c:bZ}{M:Int}(d:j<m)(e:jy m c j M)(i:0<=M):∀k,k<=m -> -(2*M)<=bI j j k c j j/\jy m (bI j j k c) j (3*M)
 |0,_=>⟨by have:=e j d;rw[bI];omega,λb f=>by have:=e b f;rw[bI];omega⟩
 |k+1,o=>by
  obtain⟨n,l⟩:=sg d e i k (by omega);have g:bI j j k c j k=c j k:=kJ j j c k k (zT _);have p:=e k (by omega);rw[bI];unfold lU;rw[g];refine⟨?_,λb f=>?_⟩
  .by_cases a:k=j
   .subst a;rw[g]at *;split<;>omega
   .rw[if_neg (λh=>a h.2.1.symm)];exact n
  .have:=l b f
   show -(3*M)<=if j=j/\b=k/\bI j j k c j j<dr/\c j k<dr then min (c j k) (bI j j k c j j+c j k)else bI j j k c j b
   split
   .rename_i h;obtain⟨_,rfl,_⟩:=h;omega
   .exact this
theorem Oe{m j:Nat}{c:bZ}{M:Int}(e:j<m)(h:yh m c M)(o:0<=M):∀i,i<=m->(∀a,a<m->(i<=a->∀b,gn m j i c a b=c a b)/\jy m (gn m j i c) a (7*M))/\jy m (gn m j i c) j (3*M)
 |0,_=>⟨λa n=>⟨λ_ _=>rfl,λb d=>by have:=h a n b d;rw[gn];omega⟩,λb d=>by have:=h j e b d;rw[gn];omega⟩
 |i+1,t=>by
  obtain⟨q,r⟩:=Oe e h o i (by omega);have p:∀b,gn m j i c i b=c i b:=(q i (by omega)).1 (zT _);have f:jy m (gn m j i c) i M:=λb d=>by rw[p];exact h i (by omega) b d
  rw[gn];refine⟨λa n=>⟨λs b=>?_,λb d=>?_⟩,λb d=>?_⟩
  .rw[QT _ _ _ _ _ _ (by omega)];exact(q a n).1 (by omega) b
  .by_cases l:a=i
   .subst l;by_cases k:a=j
    .subst k;have:=(sg e f o m (zT _)).2 b d;omega
    .have:=(Bf k e f r o (by omega) m (zT _)).2 b d;omega
   .rw[QT _ _ _ _ _ _ l];exact(q a n).2 b d
  .by_cases g:j=i
   .subst g;exact(sg e f o m (zT _)).2 b d
   .rw[QT _ _ _ _ _ _ g];exact r b d
theorem TH{m j i k:Nat}{c:bZ}{M:Int}(d:j<m)(f:i<m)(e:k<=m)(h:yh m c M)(q:0<=M):yh m (bI j i k (gn m j i c)) (8*M):=by
 obtain⟨r,t⟩:=Oe d h q i (by omega);have p:∀b,gn m j i c i b=c i b:=(r i f).1 (zT _);have g:jy m (gn m j i c) i M:=λb l=>by rw[p];exact h i f b l
 intro a s b l;by_cases o:a=i
 .subst o;by_cases n:a=j
  .subst n;have:=(sg d g q k e).2 b l;omega
  .have:=(Bf n d g t q (by omega) k e).2 b l;omega
 .rw[QT _ _ _ _ _ _ o];have:=(r a s).2 b l;omega
theorem MI{m:Nat}{c:bZ}{M:Int}(h:yh m c M)(d:0<=M):∀j,j<=m->yh m (eW m j c) (8 ^ j*M)
 |0,_=>by rw[Int.pow_zero,Int.one_mul];exact h
 |j+1,k=>by
  have i:=MI h d j (by omega);have p:(0:Int)<=8 ^ j*M:=Int.mul_nonneg (Int.le_of_lt (Int.pow_pos (by decide))) d;obtain⟨g,_⟩:=Oe (by omega:j<m) i p m (zT _);intro a f b e;have:=(g a f).2 b e;rw[eW,Int.pow_succ,Int.mul_comm (8 ^ j) 8,Int.mul_assoc];omega
structure i6 where
 a:Int
 b:Int
 n:Int
abbrev QP(d:i6):List D:=[iD d.a,iD d.b,iD d.n]
abbrev mA(d:List i6):D:=.sl 3 (d.map QP)
structure rC(m:Nat)(ds:List i6):Prop where
 n:m<=10
 l:ds.length<=64
 v:∀d∈ds,(-1<=d.a/\d.a<m)/\(-1<=d.b/\d.b<m)/\d.a≠d.b/\(-2097152<=d.n/\d.n<=2097152)
theorem uY(n:Nat)(s:List i6)(h:rC n s):APure prog 146 [iD n,mA s] (iD 0):=by
 have h1:=h.n;have h2:=h.l;refine ap func146 ntmps146 λj=>?_
 repeat' first|refine aO ?_|intro b;conv=>whnf
 refine aR mixed ai (γ:=Nat) (λi=>[(5,iD i)]) (λi=>[]) (λi=>i<=s.length) (λi=>s.length-i) 0 (aj av) (Sc.refl _) (zW _) ?_;intro i hi;by_cases hil:i<s.length
 .obtain⟨y,a⟩:∃y,s[i]?=some y:=⟨_,zD hil⟩
  have hy:s[((i:Nat):Int).toNat]?=some y:=a;obtain⟨g,f,e,v⟩:=h.v y (zG a)
  repeat' first|refine aO ?_|intro b;conv=>whnf
  exact⟨i+1,(aj av),(Sc.sl (yG _ _)),by omega,by omega⟩
 .obtain rfl:i=s.length:=by omega
  repeat' first|refine aO ?_|intro b;conv=>whnf
  refine Rt.pure (zM iD ?_)
  rfl
def cn(n:Nat)(a:Int):Nat:=if a<0 then n else a.toNat
theorem sy(n:Nat)(a:Int):APure prog 190 [iD n,iD a] (iD (cn n a:Nat)):=by
 unfold cn;by_cases h:a<0
 .rw[if_pos h];refine ap func190 ntmps190 λb=>?_
  repeat refine aO ?_
  refine Rt.pure (zM iD ?_)
  rfl
 .rw[if_neg h];refine ap func190 ntmps190 λb=>?_
  repeat refine aO ?_
  refine Rt.pure (zM iD ?_);omega
theorem sn{n:Nat}{a:Int}(h:-1<=a/\a<n):cn n a<n+1:=by unfold cn;split<;>omega
end
end Go.Proofs.YtilnpcolgcmofaaGreatDoor
