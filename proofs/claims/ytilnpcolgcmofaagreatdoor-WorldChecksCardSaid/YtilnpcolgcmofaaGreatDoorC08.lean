/- A part of the proof. -/
import Derived.Test.YtilnpcolgcmofaaGreatDoorC07
import Derived.Laws.Cover3
import Derived.Laws.Small
import Derived.WideKeyEntry
import Derived.DeepKeys5
set_option maxRecDepth 100000
set_option maxHeartbeats 20000000
set_option linter.all false
namespace Go.Proofs.YtilnpcolgcmofaaGreatDoor
open Tryz
section
open Go Go.RowKit Go.Shelf
section
variable {P:Program} {r:Option Nat} {n:Nat} {df:Nat} {N:Nat} {Q:fG} {a:List D} {σ:ae} {w:World} {X:Nat->Prop} {ρ:Operand->D} {f:aP} {L:List Oper} {T:TypeId->Option TI}
variable{o:Oper}{x:Operand}
def AD{t c:TypeId}{y:Operand}{p q:Bool}(b:o.op= .binOp .neq t x y c)(hx:ρ x= .v (.bool p))(d:ρ y= .v (.bool q))(e:P.underlying t=some .bool):Yd P o ρ σ (.v (.bool (!(p==q)))):=by
 intro w X η h f;obtain⟨dst,op,l,pos,k,g⟩:=o;simp only at b;subst b;have j:=(h x (by simp[Op.operands])).val hx;have i:=(h y (by simp[Op.operands])).val d;refine ev (s:=do eqGuard .neq t x y (η x) (η y);binOp .neq t (η x) (η y)) (u:=.bool (!(p==q))) ?_ (Ex.refl w) (.v _);rw[j,i]
 show(do eqGuard .neq t x y (.bool p) (.bool q);(do pure (Value.bool (!(←Op.equal t (.bool p) (.bool q)))))).run P w=_;have a:(eqGuard .neq t x y (.bool p) (.bool q)).run P w= .ok () w:=rfl;simp only[Sem.run_bind,a,Result.andThen,run_equal_bool w t p q e,Sem.run_pure]
variable{p:Prop}
def Nl(h:p:=by
 have:=(hη yl (by simp[Op.operands])).val hyl;simp[Instr.sliceBounds,Instr.sliceBound,Result.andThen,this,asIntOf,h1]):p:=h
def au9(M:∀t i,T t=some i->aH P t=some i){t:TypeId}{lo d:Option Operand}{b f m c:Nat}{l h:Nat}{i:TI}{p:Nat×Bool×Nat×Nat}(B:o.op= .slice t x lo d none)(hx:ρ x= .v (.slice (some ⟨b,f,none⟩) m c))(I:T t=some i)(K:i.sl=some p)
  (q:(lo=none/\l=0)\/∃y k,lo=some y/\ρ y= .v (.int k (l:Int))) (r:(d=none/\h=m)\/∃y k,d=some y/\ρ y= .v (.int k (h:Int))) (h1:l<=h) (C:h<=c) (V:l<c):Yd P o ρ σ (.v (.slice (some ⟨b,f+l*p.2.2.1,none⟩) (h-l) (c-l))):=by
 intro w X η hη J;obtain⟨dst,op,Q,pos,O,g⟩:=o;simp only at B;subst B;obtain⟨e,W,F,N⟩:=p;obtain⟨H,z,_⟩:=sq (M t i I) K;have G:=(sj z w).2;have j:=(hη x (by simp[Op.operands])).val hx;refine ev (s:=Instr.sliceAt t (η x) (lo.map η) (d.map η) ((none:Option Operand).map η)) (u:=.slice (some ⟨b,f+l*F,none⟩) (h-l) (c-l)) ?_ (Ex.refl w) (.v _);rw[j];have n:c≠l:=by omega
 have L:(Instr.sliceBounds true m c (lo.map η) (d.map η) none).run P w= .ok (l,h,c) w:=by
  have U:((h:Int)).toNat=h:=rfl;have S:((l:Int)).toNat=l:=rfl;rcases q with⟨rfl,rfl⟩|⟨yl,kl,rfl,hyl⟩<;>rcases r with⟨rfl,rfl⟩|⟨A,R,rfl,a⟩
  .simp[Instr.sliceBounds,Result.andThen]
  .have:=(hη A (by simp[Op.operands])).val a;simp[Instr.sliceBounds,Instr.sliceBound,Result.andThen,this,asIntOf,C]
  .exact Nl
  .have E:=(hη yl (by simp[Op.operands])).val hyl;have D:=(hη A (by simp[Op.operands])).val a;simp[Instr.sliceBounds,Instr.sliceBound,Result.andThen,E,D,asIntOf,h1,C]
 simp only[Instr.sliceAt,Sem.run_bind,run_underlying H,Result.andThen,Instr.slice,Option.map_none,L,G,Sem.run_pure,if_neg n,Option.map_some,y3]
def M'(h:p:=by
 rw[xR]at hv;have hlt:=(zE.1 hv).1;rw[y3];simp[World.cell?,hob,hv]):p:=h
variable{tb:TypeId}{cs:List D}
def ce.copy(hT:∀t i,T t=some i->aH P t=some i){p:Operand}{t t2 e:TypeId}{i j:TI}{ag:Bool}{by_ b d dl dc jj:Nat}{new:List D}{K:aP->ae->Prop}
  (ho:o.op= .call { callee:=.builtin .copy,args:=#[p,x],argTypes:=#[t,t2] }) (hp:aN f p= .v (.slice (some ⟨b,d,none⟩) dl dc)) (ht:T t=some i) (hs:i.sl=some (e,ag,1,by_)) (hj:T e=some j) (hjs:j.size=1)
  (hb:σ[jj]?=some (b,.cells tb cs)) (hfit:d+new.length<=cs.length) (S:new.all cY=true) (hne:new≠[])
  (M:(∃s:List (List D),aN f x= .sl 1 s/\new=(s.take (Nat.min s.length dl)).flatten/\new.length=Nat.min s.length dl)\/(∃(G sl sc:Nat),aN f x= .v (.slice (some ⟨b,G,none⟩) sl sc)/\new=(cs.drop G).take (Nat.min sl dl)/\new.length=Nat.min sl dl))
  (kk:W (aX N o.dst (.v (.int .i64 new.length)) f (λf'=>K f' (σ.set jj (b,.cells tb (dQ cs d new)))))):ce P r n df L N o f σ K:=by
 refine⟨λrest Q a B hw hk=>?_⟩;refine nc hw (by rw[ho];rfl) λw X fr k=>?_;have A:=B.le p _ _ _ (k.fr.eval p);rw[hp]at A;have A:=A.val rfl;have m:=B.le x _ _ _ (k.fr.eval x);obtain⟨hu,hsz,_⟩:=sq (hT t i ht) hs;have J:(P.info? e).map (·.size)=some 1:=by
  obtain⟨inf,u,Z,_,_,q4,_⟩:=FC (hT e j hj);rw[Z];simp[←q4,hjs]
 obtain⟨_,ob,hob,vs,rfl,z⟩:=k.st.at_ b _ (zG hb);obtain⟨g,H,sl,sc,q,C,E,l⟩:∃(g:List Value)(H:Addr)(sl sc:Nat),fr.eval x= .slice (some H) sl sc/\bj w (ay σ X) new g/\g.length=Nat.min sl dl/\∀(j:Nat)v,g[j]?=some v->w.cell? (H.add j)=some v:=by
  rcases M with⟨s,h1,F,h3⟩|⟨G,sl,sc,h1,F,h3⟩
  .rw[h1]at m;obtain⟨a0,c,I,q,hrd,E,hcl⟩:=nK m (by omega);have hys:s≠[]:=λh=>by subst h;simp at F;exact hne F
   obtain⟨H,rfl,l⟩:=hcl hys;have hysk:∀y∈s,y.length=1:=(m.sl_inv.choose_spec.choose_spec.choose_spec).2.2.1;have hfl:(s.take (Nat.min s.length dl)).flatten=s.flatten.take (Nat.min s.length dl):=by
    have h4:(s.take (Nat.min s.length dl)).flatten.length=Nat.min s.length dl:=by rw[←F];exact h3
    have h5:s.flatten=(s.take (Nat.min s.length dl)).flatten++(s.drop (Nat.min s.length dl)).flatten:=by rw[←vW,vF]
    rw[h5,List.take_left' h4]
   refine⟨I.take (Nat.min s.length dl),H,s.length,c,q,by rw[F,hfl];exact hrd.take _,?_,λj v hv=>?_⟩
   .rw[zR,E];have:=Nat.min_le_left s.length dl;simp only[Nat.mul_one];exact vH this
   .rw[yX]at hv;split at hv
    .exact l j v hv
    .cases hv
  .rw[h1]at m;have q:=m.val rfl;have R:=(z.drop G).take (Nat.min sl dl);refine⟨(vs.drop G).take (Nat.min sl dl),⟨b,G,none⟩,sl,sc,q,by rw[F];exact R,by rw[R.len,←F,h3],λj v hv=>?_⟩;rw[yX]at hv;split at hv
   .exact M'
   .cases hv
 have U:g.length=new.length:=C.len;have O:=run_copy_row (P:=P) w t t2 o.type e b d dl dc H sl sc vs.toArray tb g hu J hob E l (by simp[z.len];omega) (aZ6 C S);have ee:(execOp fr.eval o).run P w= .ok (.value (goInt g.length)) (w.setRow b (vs.take d++g++vs.drop (d+g.length)).toArray):=by
  simp only[execOp,ho,resolve,invoke,builtin,Sem.run_bind,Sem.run_pure,Result.andThen,vD,List.map_cons,List.map_nil,A,q,O]
 rw[ee];obtain⟨Z,Y⟩:=aD4 (cur':=(vs.take d++g++vs.drop (d+g.length)).toArray) hob;have V:bj w (ay σ X) (dQ cs d new) (vs.take d++g++vs.drop (d+g.length)):=by
  unfold dQ;rw[U];exact((z.take d).append C).append (z.drop _)
 obtain⟨g1,g2,g3,g4⟩:=k.st.upd hb (k':=.cells tb (dQ cs d new)) Y Z ⟨_,rfl,V⟩;obtain⟨f',hs',h4⟩:=fT kk.h B;refine⟨.v (.int .i64 new.length),_,g2,?_,hk _ _ _ h4 hs'⟩;rw[←U];exact(⟨k.fr.keep Y.size g3 g4,g1,k.df.keep Y.size g3 g4⟩:St _ X df a _ fr).put (.v _) o.dst
variable{d:D}{K:D->Prop}
def Rs.c1(E:∀t i,T t=some i->aH P t=some i){o:Func}{j b:Nat}{t:TypeId}{c:TI}(h:o.results= #[.cell j t])(z:aN f (.tmp j)= .v (.pointer (some ⟨b,0,none⟩)))(B:(b,ax.cells tb [d])∈σ)(r:T t=some c)(m:c.agg=false)
  (k:W (K d)):Rs P N o f σ K:=by
 refine⟨_,λa C=>?_,k.h⟩;intro w X F A e;obtain⟨_,G,g,vs,rfl,s⟩:=e.at_ b _ B;obtain⟨n,H⟩:=N6 (E t c r) w;rw[m]at n;have x:=(lp A j).val (C.eq z (λh=>by cases h));obtain⟨u,q,p⟩:=s.get (j:=0) rfl;have l:w.cell? ⟨b,0,none⟩=some u:=by simp[World.cell?,g,q]
 have y:(loadVar t ⟨b,0,none⟩).run P w= .ok u w:=by
  have:=R0 (P:=P) (t:=t) n l;simp only[Instr.loadAt,Instr.sureAddr,Sem.run_bind,Sem.run_pure,Result.andThen]at this;exact this
 exact⟨u,by simp[results,h,x,asAddr,y,Result.andThen,-Array.getD_eq_getD_getElem?],p⟩
def Ld.cellm{b f:Nat}(e:(b,ax.cells tb cs)∈σ)(c:cs[f]?=some d)(h:W (K d)):Ld P o ρ σ b f false 1 K:=by
 obtain⟨j,a⟩:=yO e;exact Ld.cell j a c h
def Sv.cellm{b o:Nat}{K:ae->Prop}{cs':List D}{τ:ae}(f:σ.Perm ((b,.cells tb cs)::τ))(a:o<cs.length)(e:cY d=true)(c:cs.set o d=cs')(h:W (K ((b,.cells tb cs')::τ))):Sv σ b o [d] 1 K:=by
 refine Sv.perm f rfl a (by simp[e]) ?_ h;subst c;unfold dQ;rw[xW,if_pos a];simp
end
end
section
open Go Go.RowKit Go.Shelf
abbrev dZ(α:Type):=α->Value->ae->Prop
inductive cA{α:Type}(R:dZ α):List α->List Value->List ae->Prop
 |nil:cA R [] [] []
 |cons {x:α} {u:Value} {t:ae} {xs:List α} {vs:List Value} {ts:List ae} (h:R x u t) (k:cA R xs vs ts):cA R (x::xs) (u::vs) (t::ts)
section
variable {α:Type} {R:dZ α}
variable{xs:List α}{ts:List ae}
def cA.len{vs:List Value}(h:cA R xs vs ts):vs.length=xs.length/\ts.length=xs.length:=by
 induction h with
 |nil=>exact⟨rfl,rfl⟩
 |cons h k i=>simp[i.1,i.2]
def cA.at{vs:List Value}(h:cA R xs vs ts):∀{i:Nat}{x:α},xs[i]?=some x->∃u t τ,vs[i]?=some u/\R x u t/\ts.flatten.Perm (t++τ) /\
  ∀c d b,R c d b->∃a,cA R (xs.set i c) (vs.set i d) a/\a.flatten.Perm (b++τ):=by
 induction h with
 |nil=>intro i x hx;simp at hx
 | @cons y u t xs vs ts h k l=>
  intro i x hx
  cases i with
  |zero=>
   simp at hx;subst hx;exact⟨u,t,ts.flatten,rfl,h,by simp,λc d b e=>⟨b::ts,.cons e k,by simp⟩⟩
  |succ i=>
   simp at hx;obtain⟨f,t2,τ,q,o,n,m⟩:=l hx;refine⟨f,t2,t++τ,by simpa using q,o,?_,λc d b e=>?_⟩
   .rw[List.flatten_cons];refine(List.Perm.append_left t n).trans ?_;exact E6
   .obtain⟨a,j,g⟩:=m c d b e;refine⟨t::a,by simpa using cA.cons h j,?_⟩;rw[List.flatten_cons];refine(List.Perm.append_left t g).trans ?_;exact E6
def cA.append{ys:List α}{vs u:List Value}{s:List ae}(h:cA R xs vs ts)(k:cA R ys u s):cA R (xs++ys) (vs++u) (ts++s):=by
 induction h with
 |nil=>exact k
 |cons h _ i=>exact .cons h i
def cA.rep{x:α}{u:Value}{t:ae}(h:R x u t):∀n,cA R (List.replicate n x) (List.replicate n u) (List.replicate n t)
 |0=>.nil
 |n+1=>by rw[List.replicate_succ,List.replicate_succ,List.replicate_succ];exact .cons h (cA.rep h n)
structure aC(e:TypeId)(R:dZ α)(xs:List α)(v:Value)(s:ae):Prop where
 ex:∃(vs:List Value)(s0:ae)(ts:List ae),ab e 1 (vs.map λu=>[D.v u]) v s0/\cA R xs vs ts/\s.Perm (s0++ts.flatten)
variable{s:ae}
def aC.perm{e:TypeId}{v:Value}{s':ae}(h:aC e R xs v s)(p:s'.Perm s):aC e R xs v s':=by
 obtain⟨vs,a,t,d,c,b⟩:=h.ex;exact⟨vs,a,t,d,c,p.trans b⟩
def aC.slice{e:TypeId}{v:Value}(h:aC e R xs v s):∃a c,v= .slice a xs.length c:=by
 obtain⟨vs,f,t,d,b,g⟩:=h.ex;obtain⟨a,c,e⟩:=d.slice;rw[zL,b.len.1]at e;exact⟨a,c,e⟩
def EC(vs:List Value):(vs.map λu=>[D.v u]).flatten=vs.map D.v:=by
 induction vs with
 |nil=>rfl
 |cons v vs i=>simp[i]
variable{xs:List (List D)}
def ab.block{e:TypeId}{k:Nat}{v:Value}(h:ab e k xs v s)(a:xs≠[]):∃b c j,v= .slice (some ⟨b,0,none⟩) xs.length c/\s=[(b,.cells e (xs.flatten++j))]/\xs.length<=c/\c<=maxLen/\xs.length*k+j.length=c*k/\∀d∈j,d=D.any:=by
 rcases h.is with⟨_,h,_⟩|h
 .exact absurd h a
 .exact h
def wL:=@List.map_set
variable{x:α}{i:Nat}
def aC.at{e:TypeId}{xs:List α}{v:Value}(h:aC e R xs v s)(hx:xs[i]?=some x) :
  ∃b c n u t τ,v= .slice (some ⟨b,0,none⟩) xs.length c/\s.Perm ((b,.cells e n)::(t++τ))/\n[i]?=some (.v u)/\R x u t /\
   ∀d a f k,R d a f->k.Perm ((b,.cells e (n.set i (.v a)))::(f++τ))->aC e R (xs.set i d) v k:=by
 obtain⟨vs,M,L,G,m,o⟩:=h.ex;obtain⟨u,t,τ,p,K,J,I⟩:=m.at hx;have l:=(zE.1 p).1;obtain⟨b,c,j,rfl,rfl,A,w,r,q⟩:=G.block (λh=>by
  have:=zM List.length h;simp at this;subst this;simp at l)
 rw[EC]at o;refine⟨b,c,vs.map D.v++j,u,t,τ,by rw[zL,m.len.1],?_,?_,K,λd a f k H F=>?_⟩
 .exact o.trans (List.Perm.cons _ J)
 .rw[yP (by simpa using l),qA,p];rfl
 .obtain⟨g,C,B⟩:=I d a f H;refine⟨vs.set i a,[(b,.cells e ((vs.set i a).map D.v++j))],g,⟨λy E=>by obtain⟨z,_,rfl⟩:=xM.1 E;rfl,.inr ⟨b,c,j,by simp[m.len.1],by rw[EC],by simpa using A,w,by simpa using r,q⟩⟩,C,?_⟩;refine F.trans ?_;rw[List.set_append_left _ _ (by simpa using l),wL];exact List.Perm.cons _ B.symm
def GY(R:dZ α)(d:α->D):Prop:=∀x u t τ w X,R x u t->aW w X (t++τ)->Rd w (ay τ X) (d x) u
def ui{β:Type}(e:TypeId)(k:Nat)(g:β->List D):GY (λ(l:List β)v s=>ab e k (l.map g) v s) (λl=>.sl k (l.map g)):=λ_ _ _ _ _ _ h a=>LB h a
def NU{w:World}{X:Nat->Prop}{t:ae}{d:D}{u:Value}(h:Rd w (ay s X) d u)(a:∀b,b∈aT t->b∈aT s):Rd w (ay t X) d u:=
 h.keep (zT _) (λb _ n o=>n (o.imp id (a b))) (λ_ _ _=>rfl)
def bc7{e:TypeId}{c:α->D}(S:GY R c):GY (aC e R) (λl=>.sl 1 (l.map λx=>[c x])):=by
 intro l v s τ w X h G;obtain⟨vs,g,F,V,I,U⟩:=h.ex;have H:(s++τ).Perm (g++(F.flatten++τ)):=by rw[←zV];exact U.append_right _
 have r:=G.perm H;have o:=LB V r;obtain⟨a,E,f,e1,p,hk,T,O⟩:=o.sl_inv;have m:∀b,b∈aT τ->b∈aT (F.flatten++τ):=λb C=>by rw[en];exact yW _ C
 have n:vs.length=l.length:=I.len.1;rw[e1,zL,n,show l.length=(l.map λx=>[c x]).length by simp];refine .sl 1 _ a E f (by simpa [n]using p) (λy k=>by obtain⟨z,_,rfl⟩:=xM.1 k;rfl) (λi y k=>?_) (λi y k j d B=>?_)
 .have Q:i<vs.length:=by have:=(zE.1 k).1;simpa [n]using this
  obtain⟨b,q,M,L,K,J⟩:=T i [.v vs[i]] (by rw[qA,zD Q];rfl);exact⟨b,q,M,λP=>L (P.imp id (m b)),K,J⟩
 .rw[qA,xN]at k;obtain⟨x,hx,rfl⟩:=k
  cases j with
  |succ j=>simp at B
  |zero=>
   simp at B;subst B;obtain⟨u,t,τ',Z,Y,W,g4⟩:=I.at hx;have N:=(O i [.v u] (by rw[qA,Z];rfl) 0 _ rfl).val rfl;rw[N];have A:(s++τ).Perm (t++(g++τ'++τ)):=by
    refine H.trans ?_;refine(List.Perm.append_left g (W.append_right τ)).trans ?_;simp only[zV];rw[←zV g t,←zV t g];exact yT.append_right _
   have:=S x u t (g++τ'++τ) w X Y (G.perm A);exact NU this (λb C=>by rw[en];exact yW _ C)
def Vs.frz{d:α->D}(f:GY R d){v:Value}{σ τ:ae}(h:R x v s)(p:σ.Perm (s++τ)):Vs σ (.v v) τ (d x):=
 ⟨λw X u a r=>by
  have:=r.val rfl;subst this;exact⟨(a.perm p).sub (wI _ _),f x _ s τ w X h (a.perm p)⟩,λb c=>y5 p b (by rw[en];exact yW _ c)⟩
def aC.made{e:TypeId}{x0:α}(f:R x0 (.slice none 0 0) [])(m b:Nat)(a:m<=maxLen):aC e R (List.replicate m x0) (.slice (some ⟨b,0,none⟩) m m) [(b,.cells e (List.replicate m (.v (.slice none 0 0))))]:=by
 refine⟨List.replicate m (.slice none 0 0),[(b,.cells e (List.replicate m (.v (.slice none 0 0))))],List.replicate m [],⟨λy h=>by obtain⟨z,_,rfl⟩:=xM.1 h;rfl,.inr ⟨b,m,[],by simp,by rw[EC];simp,by simp,a,by simp,λd c=>by cases c⟩⟩,cA.rep f m,by simp⟩
def aC.nil(e:TypeId)(R:dZ α):aC e R [] (.slice none 0 0) []:=⟨[],[],[],ab.nil _ _,.nil,by simp⟩
def E7{p:Prop}(h:p:=by
 rw[Al (k:=k) (λy hy=>h.len y (xG hy)),zR,vH (by omega)]):p:=h
def yZ:=@List.mem_or_eq_of_mem_set
def ab.put{e:TypeId}{k:Nat}{b n cap:Nat}{cs:List D}(h:ab e k xs (.slice (some ⟨b,0,none⟩) n cap) [(b,.cells e cs)]){x':List D}(f:i<xs.length)(hx:x'.length=k):ab e k (xs.set i x') (.slice (some ⟨b,0,none⟩) n cap) [(b,.cells e (dQ cs (i*k) x'))]:=by
 have d:xs≠[]:=λe=>by subst e;simp at f
 obtain⟨A,g,j,z,x,o,m,l,q⟩:=h.block d
 cases z
 have w:cs=xs.flatten++j:=by simpa using x
 refine⟨λy hy=>?_,.inr ⟨b,cap,j,by simp,?_,by simpa using o,m,by simpa using l,q⟩⟩
 .rcases yZ hy with s|rfl
  .exact h.len y s
  .exact hx
 .have r:=Al h.len;have a:dQ cs (i*k) x'=(xs.set i x').flatten++j:=by
   rw[w];have v:xs=xs.take i++xs[i]::xs.drop (i+1):=by rw[List.getElem_cons_drop,vF]
   have u:xs.set i x'=xs.take i++x'::xs.drop (i+1):=by rw[xW,if_pos f]
   have t:(xs.take i).flatten.length=i*k:=E7;have c:xs[i].length=k:=h.len _ (wE f);rw[u]
   conv=>lhs;rw[v]
   unfold dQ;simp only[vW,List.flatten_cons,zV];rw[←t,List.take_left',List.drop_append,List.drop_of_length_le (by omega)]
   .simp only[List.nil_append,zV]
    congr 2
    rw[show(xs.take i).flatten.length+x'.length-(xs.take i).flatten.length=x'.length by omega,hx,←c,List.drop_left']
    rfl
   .rfl
  rw[a]
def ab.get{e:TypeId}{k:Nat}{v:Value}(h:ab e k xs v s){x:List D}(hx:xs[i]?=some x):∃b c l,v= .slice (some ⟨b,0,none⟩) xs.length c/\s=[(b,.cells e l)]/\∀j,j<k->l[i*k+j]?=x[j]?:=by
 have a:xs≠[]:=λe=>by subst e;simp at hx
 obtain⟨b,c,f,n,m,r,p,o,q⟩:=h.block a;refine⟨b,c,_,n,m,λj g=>?_⟩;have:=aN9 h.len hx g;have d:j<x.length:=by rw[h.len x (zG hx)];exact g
 rw[yP,this];exact(zE.1 (this.trans (zD d))).1
end
def YH:D->Bool
 |.v _=>true
 |.any=>true
 |_=>false
def ax.flat:ax->Prop
 |.cells _ c=>∀d∈c,YH d=true
 |.obj _=>True
 |.mp _ _ _=>False
def mT(s:ae):Prop:=∀p∈s,ax.flat p.2
def ED{w w':World}{O b:Nat->Prop}{d:D}{u:Value}(h:Rd w O d u)(a:YH d=true):Rd w' b d u:=by
 cases d<;>first|(have:=h.val rfl;subst this;exact .v _)|exact .any u|cases a
variable{s:ae}
def mT.append{t:ae}(h:mT s)(k:mT t):mT (s++t):=λp a=>(zO.1 a).elim (h p) (k p)
def mT.perm{t:ae}(h:mT s)(a:t.Perm s):mT t:=λp q=>h p (a.mem_iff.1 q)
def mT.row{e:TypeId}{k:Nat}{xs:List (List D)}{v:Value}(h:ab e k xs v s)(i:∀x∈xs,∀d∈x,YH d=true):mT s:=by
 rcases h.is with⟨_,_,rfl⟩|⟨b,m,j,_,rfl,_,_,_,g⟩
 .exact λp a=>by cases a
 .intro p a;rw[zN]at a;subst a;intro d l;rcases zO.1 l with f|f
  .obtain⟨x,hx,c⟩:=List.mem_flatten.1 f;exact i x hx d c
  .rw[g d f];rfl
def mT.rows{α:Type}{R:dZ α}(g:∀x u t,R x u t->mT t){e:TypeId}{xs:List α}{v:Value}(h:aC e R xs v s):mT s:=by
 obtain⟨vs,m,l,c,j,b⟩:=h.ex;refine mT.perm (mT.append (mT.row c λx hx d a=>?_) ?_) b
 .obtain⟨u,_,rfl⟩:=xM.1 hx;rw[zN]at a;subst a;rfl
 .clear b c h
  induction j with
  |nil=>exact λp f=>by cases f
  |cons h k i=>rw[List.flatten_cons];exact(g _ _ _ h).append i
def az.peek{P:Program}{f:FuncId}{L v:List D}{σ:ae}{R:D->ae->Prop}(T:kf σ L v)(K:az P f v [] R)(A:∀d s,R d s->uk d=true/\mT s) :
  az P f L σ (λd σ'=>∃s,σ'=s++σ/\R d s):=by
 refine⟨K.ent,λw X vs S l=>?_⟩;have p:=T.rd l S;have q:aW w (λ_=>False) []:=⟨List.nodup_nil,λb k U=>(by cases U),λb a=>a.elim,l.gok.mono (λb a=>by rcases a with a|a;exact a.elim;cases a)⟩
 refine(K.run w (λ_=>False) vs ⟨p.len,λj d u F y=>(p.at_ j d u F y).keep (zT _) (λb _ _ g=>by rcases g with g|g;exact g.elim;cases g) (λ_ _ _=>rfl)⟩ q).mono ?_;rintro e M ⟨u,d,s,F,y,Y,E,n⟩;obtain⟨f1,f2⟩:=A d s y;have hx:Ex w M:=⟨n.keep.os,n.keep.tape,n.keep.output,n.keep.size,λb a _=>n.keep.block b a (λV=>by cases V)⟩
 have i:∀b,b∈aT s->w.heap.size<=b:=λb a=>by
  rcases n.new b a with h|h
  .cases h
  .exact h
 have O:∀b,b<w.heap.size->¬ay σ X b->¬ay (s++σ) X b:=λb a J g=>by
  rcases g with g|g
  .exact J (.inl g)
  .rw[en,zO]at g;rcases g with g|g
   .have:=i b g;omega
   .exact J (.inr g)
 refine⟨u,d,s++σ,F,⟨s,rfl,y⟩,l8 Y f1,⟨?_,λb k B=>?_,λb a=>yI (l.xlt b a) hx.size,?_⟩,⟨⟨hx.os,hx.tape,hx.output,hx.size,λb a _=>hx.block b a⟩,λb a=>?_⟩⟩
 .rw[en,wR];exact⟨E.nodup,l.nodup,λb C c m e=>by subst e;have:=i b C;have:=l.lt m;omega⟩
 .rcases zO.1 B with h|h
  .obtain⟨_,o,m,x⟩:=E.at_ b k h;refine⟨λW=>by have:=i b (RT h);have:=l.xlt b W;omega,o,m,?_⟩;have r:=f2 _ h
   cases k with
   |cells t Z=>
    obtain⟨vs,Q,I⟩:=x;exact⟨vs,Q,I.len,λj d u H N=>ED (I.at_ j d u H N) (r d (zG H))⟩
   |obj ok=>exact x
   |mp P k G=>exact r.elim
  .obtain⟨C,o,m,x⟩:=l.at_ b k h;have z:=(zX.1 m).1;exact⟨C,o,(hx.block b z).trans m,tK hx.size O (λb a _=>hx.block b a) x⟩
 .refine l.gok.keep hx.size O (λb a _=>hx.block b a) (λb a=>?_);rcases a with a|a
  .exact yI (l.xlt b a) hx.size
  .rw[en,zO]at a;rcases a with a|a
   .exact E.lt a
   .exact yI (l.lt a) hx.size
 .rw[en,zO]at a;rcases a with a|a
  .exact .inr (i b a)
  .exact .inl a
def Pk.frz{α:Type}{R:dZ α}{d:α->D}(f:GY R d){x:α}{v:Value}{σ τ:ae}(h:R x v s)(p:σ.Perm (s++τ)):Pk σ (.v v) (d x):=
 ⟨λw X u a r=>by have:=r.val rfl;subst this;exact(f x _ s τ w X h (a.perm p)).stable⟩
end
section
open Go Go.RowKit Go.Shelf
section
variable {β:Type} {g:β->D}
abbrev iI(e:TypeId)(g:β->D):dZ (List β):=λl v s=>ab e 1 (l.map λb=>[g b]) v s
def Ih{cs:List D}{o:Nat}(h:o<cs.length)(d:D):dQ cs o [d]=cs.set o d:=by
 unfold dQ;rw[xW,if_pos h];simp
def aZ0{e:TypeId}{l:List β}{u:Value}{s:ae}(h:iI e g l u s){i:Nat}{b:β}(j:l[i]?=some b) :
  ∃d a c,u= .slice (some ⟨d,0,none⟩) l.length a/\s=[(d,.cells e c)]/\c[i]?=some (g b)/\∀f,iI e g (l.set i f) u [(d,.cells e (c.set i (g f)))]:=by
 have o:=(zE.1 j).1;obtain⟨d,a,c,n,q,p⟩:=ab.get h (show(l.map λb=>[g b])[i]?=some [g b] by rw[qA,j];rfl);have m:=p 0 (by omega);simp only[Nat.mul_one,Nat.add_zero]at m;have k:c[i]?=some (g b):=by rw[m];rfl
 rw[zL]at n;subst n q;refine⟨d,a,c,rfl,rfl,k,λf=>?_⟩;have:=ab.put h (i:=i) (x':=[g f]) (by simpa using o) rfl;rw[Nat.mul_one,Ih (zE.1 k).1]at this
 show ab e 1 ((l.set i f).map λb=>[g b]) _ _;rw[wL];exact this
end
def aR(j:Nat):0+((j:Nat):Int).toNat*1=j:=by simp
end
section
open Go Go.RowKit Go.Shelf Go.Maps Go.MapKept
open Go.ChangeMaps (setBlock modify_eq_set heap_setBlock_same heap_setBlock_other)
section
open Classical in
noncomputable local instance:DecidableEq (Nat×ax):=λ_ _=>propDecidable _
noncomputable def ct (a:Nat×ax) (l:ae):Nat:=l.count a
noncomputable def ct1 (a x:Nat×ax):Nat:=[x].count a
def de(a:Nat×ax):ct a []=0:=by simp[ct]
def cU(a x:Nat×ax)(l:ae):ct a (x::l)=ct1 a x+ct a l:=by
 unfold ct ct1;rw[show x::l=[x]++l from rfl,List.count_append]
def dn(a:Nat×ax)(l m:ae):ct a (l++m)=ct a l+ct a m:=by simp[ct]
def pD{l m:ae}(h:l.Perm m)(a:Nat×ax):ct a l=ct a m:=by unfold ct;exact h.count_eq a
def cV{l m:ae}(h:∀a,ct a l=ct a m):l.Perm m:=List.perm_iff_count.2 h
end
def bo(P:Program)(k:TypeId)(f:Value->Option Value)(o:Obj):Prop:=∃e c n,o= .map e c/\gn P k e c n f
def zp(P:Program)(k:TypeId)(f:Value->Option Value)(y s:Value)(o:Obj):Prop:=∃a c n,o= .map a c/\gn P k a c n f/\∃e∈a.toList,e.key=y/\s=goInt e.born
def zp.is{P:Program}{k:TypeId}{f:Value->Option Value}{y s:Value}{o:Obj}(h:zp P k f y s o):bo P k f o:=by
 obtain⟨e,c,n,b,a,_⟩:=h;exact⟨e,c,n,b,a⟩
def g7(d:D)(kv:Value):Prop:=∀(w:World)(O:Nat->Prop)(u:Value),Rd w O d u->u=kv
def g7.v(x:Value):g7 (.v x) x:=λ_ _ _ h=>h.val rfl
section
variable {P:Program} {r:Option Nat} {n:Nat} {df:Nat} {N:Nat} {σ τ:ae} {ρ:Operand->D} {f:aP} {L:List Oper} {k t e:TypeId} {F:Value->Option Value} {b:Nat} {kv z:Value} {kl:Lit}
variable{ok:Obj->Prop}
def tL{w:World}{X:Nat->Prop}(h:aW w X σ)(a:(b,ax.obj ok)∈σ):∃o,w.heap[b]?=some o/\ok o:=by
 obtain⟨_,o,d,c⟩:=h.at_ b _ a;exact⟨o,d,c⟩
variable{o:Oper}{m:Operand}
def ve{y:Operand}(i:o.op= .lookup t m y false)(x:ρ m= .v (.map (some b)))(A:g7 (ρ y) kv)(B:(b,ax.obj ok)∈σ)(f:∀o,ok o->bo P k F o)
  (K:Keyed P k) (u:P.underlying t=some (.map k e)) (r:∀w,(zeroValue e).run P w= .ok z w) (a:keyOf P k kv=some kl):Yd P o ρ σ (.v ((F kv).getD z)):=by
 intro w X η h d;obtain⟨dst,op,H,pos,G,g⟩:=o;simp only at i;subst i;have D:=(h m (by simp[Op.operands])).val x;have C:=A _ _ _ (h y (by simp[Op.operands]));obtain⟨I,l,j⟩:=tL d B;obtain⟨E,c,p,rfl,q⟩:=f _ j;exact ev (s:=Instr.lookup t (η m) (η y) false) (by rw[D,C];exact cb.look (n:=p) ⟨E,c,l,q⟩ K u (r w) a) (Ex.refl w) (.v _)
def E9{p:Prop}(h:p:=by
 obtain⟨f',hs',h4⟩:=fT (kk w.heap.size).h hsp;exact⟨_,_,g2,(hst.mv g2 g1).put (.v _) o.dst,hk _ _ _ h4 hs'⟩):p:=h
variable{K:aP->ae->Prop}
def ce.makeMap(d:o.op= .makeMap t none)(kk:∀b,W (aX N o.dst (.v (.map (some b))) f (λf'=>K f' ((b,.obj (bo P k λ_=>none))::σ)))):ce P r n df L N o f σ K:=by
 refine⟨λc Q a hsp e hk=>?_⟩;refine nc e (by rw[d];rfl) λw X g hst=>?_;have e0:(execOp g.eval o).run P w= .ok (.value (.map (some w.heap.size))) (w.alloc (.map #[] 0)):=by
  simp only[execOp,d]
  rfl
 rw[e0];have z:bo P k (λ_=>none) (.map #[] 0):=⟨#[],0,0,rfl,⟨by simp,stamped_empty 0,by simp,by simp,by simp⟩⟩
 obtain⟨g1,g2,i⟩:=hst.st.new (.map #[] 0) (.obj (bo P k λ_=>none)) z;exact E9
def lV{w w':World}{s:ae}(p:σ.Perm τ)(h:Mv w τ w' s):Mv w σ w' s:=h.wider (λb a=>(y5 p b a))
def ce.obj(I:jM o.op=true)(y:σ.Perm ((b,ax.obj ok)::τ))
  (h:∀(w:World)(q:Act)(X:Nat->Prop)(s:Obj),(∀x,Rd w (ay σ X) (aN f x) (q.eval x))->w.heap[b]?=some s->ok s ->
   ∃(d:D)(u:Value)(e:Obj->Prop)(k:World)(j:Obj),((execOp q.eval o).run P w= .ok (.value u) k\/((execOp q.eval o).run P w= .ok .skip k/\u=undef/\d= .v undef))/\(∀w O,Rd w O d u)/\ba (λx=>x=b) w k/\k.heap[b]?=some j/\e j/\aX N o.dst d f (λE=>K E ((b,.obj e)::τ))):ce P r n df L N o f σ K:=by
 refine⟨λA Q a p H B=>?_⟩;refine nc H I λw X q t=>?_;have c:=t.perm y;obtain⟨s,G,F⟩:=tL c.st (yN);obtain⟨d,u,e,k,j,m,T,S,R,M,J⟩:=h w q X s (λx=>p.le x _ _ _ (t.fr.eval x)) G F;obtain⟨U,z,W,V⟩:=c.st.upd (i:=0) (k':=.obj e) rfl S R M;obtain⟨E,l,C⟩:=fT J p;have g:=(c.mv z U).put (T k _) o.dst;rcases m with m|⟨m,rfl,rfl⟩
 .rw[m];exact⟨d,_,lV y z,g,B _ _ _ C l⟩
 .rw[m];exact⟨_,lV y z,g,B _ _ _ C l⟩
def ce.mapUpdate{y x:Operand}{a:Value}(l:o.op= .mapUpdate t m y x)(D:aN f m= .v (.map (some b)))(E:g7 (aN f y) kv)(hx:aN f x= .v a)(G:σ.Perm ((b,ax.obj (bo P k F))::τ))
  (S:Keyed P k) (C:P.underlying t=some (.map k e)) (d:keyOf P k kv=some kl) (B:W (aX N o.dst (.v undef) f (λO=>K O ((b,.obj (bo P k (dC F kv a)))::τ)))):ce P r n df L N o f σ K:=by
 refine ce.obj (by rw[l];rfl) G λw U X T h i g=>?_;obtain⟨Q,c,A,rfl,q⟩:=g;obtain⟨p,M,⟨j,R,J,I⟩,H⟩:=cb.update (v:=a) (n:=A) ⟨Q,c,i,q⟩ S C d;refine⟨.v undef,undef,bo P k (dC F kv a),p,_,.inr ⟨?_,rfl,rfl⟩,λ_ _=>.v _,H,J,⟨j,R,_,rfl,I⟩,B.h⟩;have z:=(h m).val D;have u:=E _ _ _ (h y);have s:=(h x).val hx;simp only[execOp,l,z,u,s]
 show(do let _ ←Instr.mapUpdate t (.map (some b)) kv a;pure Next.skip).run P w=_;simp only[Sem.run_bind,M,Result.andThen,Sem.run_pure]
def ce.mapEntry{key:Operand}(s:o.op= .mapEntry t m key)(R:aN f m= .v (.map (some b)))(T:g7 (aN f key) kv)(U:σ.Perm ((b,ax.obj ok)::τ))(q:∀o,ok o->bo P k F o)
  (p:Keyed P k) (I:P.underlying t=some (.map k e)) (Q:∀w,(zeroValue e).run P w= .ok z w) (a:keyOf P k kv=some kl) (H:∀st,W (aX N o.dst (.tup [.v ((F kv).getD z),.v st]) f (λV=>K V ((b,.obj (zp P k (dC F kv ((F kv).getD z)) kv st))::τ)))):ce P r n df L N o f σ K:=by
 refine ce.obj (by rw[s];rfl) U λw fr X Z i d l=>?_;obtain⟨B,c,G,rfl,E⟩:=q _ l;have D:=(i m).val R;have C:=T _ _ _ (i key);have tup:∀(x y:Value)w O,Rd w O (.tup [.v x,.v y]) (.tuple #[x,y]):=λx y w O=>by
  have J:=bj.cons (w:=w) (O:=O) (Rd.v x) (bj.cons (Rd.v y) bj.nil);exact Rd.tup [.v x,.v y] _ J.len J.at_
 rcases E.look p a w with⟨u,A,g⟩|⟨j,e0,u,g,M,A⟩
 .refine⟨.tup [.v z,.v (goInt c)],.tuple #[z,goInt c],zp P k (dC F kv z) kv (goInt c),setBlock w b (.map (B.push ⟨kv,z,c⟩) (c+1)),_,.inl ?_,λw O=>tup _ _ w O,ba.setBlock d,heap_setBlock_same d _,⟨_,_,G+1,rfl,E.push a g,⟨kv,z,c⟩,by simp,rfl,rfl⟩,?_⟩
  .simp only[execOp,s,D,C]
   show(do let v ←Instr.mapEntry t (.map (some b)) kv;pure (Next.value v)).run P w=_;simp[Instr.mapEntry,run_underlying I,MapKept.run_getObj_map d,p.check w false a,u,Q,MapKept.run_setObj_map _ d,Result.andThen,setBlock]
  .have:=(H (goInt c)).h;rw[A]at this;exact this
 .have S:B[j]?=some e0:=by simpa using g
  have Y:=E.modify (v:=e0.val) a g M (λe=>{ e with key:=kv }) (λ_=>rfl) rfl rfl;refine⟨.tup [.v e0.val,.v (goInt e0.born)],.tuple #[e0.val,goInt e0.born],zp P k (dC F kv e0.val) kv (goInt e0.born),setBlock w b (.map (B.modify j λe=>{ e with key:=kv }) c),_,.inl ?_,λw O=>tup _ _ w O,ba.setBlock d,heap_setBlock_same d _,⟨_,_,G,rfl,Y,{ e0 with key:=kv },?_,rfl,rfl⟩,?_⟩
  .simp only[execOp,s,D,C]
   show(do let v ←Instr.mapEntry t (.map (some b)) kv;pure (Next.value v)).run P w=_;simp[Instr.mapEntry,run_underlying I,MapKept.run_getObj_map d,p.check w false a,u,S,M,p.stays w a,MapKept.run_setObj_map _ d,Result.andThen,setBlock]
  .rw[Array.toList_modify,modify_eq_set _ _ _ _ g];exact List.mem_set (zE.1 g).1 _
  .have:=(H (goInt e0.born)).h;rw[A]at this;exact this
def Fo{s:Array MapEntry}{c n:Nat}(E:gn P k s c n F){e0:MapEntry}{j:Nat}(h:s.toList[j]?=some e0):s.findIdx? (λe=>((e.born:Nat):Int)==((e0.born:Nat):Int))=some j:=by
 rw[WideElems.findIdx_arr];exact WideElems.findIdx_born ((stamped_iff s c).1 E.stamped).2.1 h
def ce.entryStore{st x:Operand}{a s:Value}(l:o.op= .entryStore t m st x)(G:aN f m= .v (.map (some b)))(D:aN f st= .v s)(hx:aN f x= .v a)(H:σ.Perm ((b,ax.obj (zp P k F kv s))::τ))
  (y:keyOf P k kv=some kl) (C:W (aX N o.dst (.v undef) f (λI=>K I ((b,.obj (bo P k (dC F kv a)))::τ)))):ce P r n df L N o f σ K:=by
 refine ce.obj (by rw[l];rfl) H λw Q X O d h g=>?_;obtain⟨J,c,B,rfl,E,e0,i,p,rfl⟩:=g;obtain⟨j,q⟩:=yO i;have M:=E.modify (v:=a) y q p (λe=>{ e with val:=a }) (λ_=>rfl) p rfl;refine⟨.v undef,undef,bo P k (dC F kv a),setBlock w b (.map (J.modify j λe=>{ e with val:=a }) c),_,.inr ⟨?_,rfl,rfl⟩,λ_ _=>.v _,ba.setBlock h,heap_setBlock_same h _,⟨_,_,B,rfl,M⟩,C.h⟩;have A:=(d m).val G;have z:=(d st).val D;have u:=(d x).val hx;simp only[execOp,l,A,z,u]
 show(do let _ ←Instr.entryStore t (.map (some b)) (goInt e0.born) a;pure Next.skip).run P w=_;simp[Instr.entryStore,MapKept.run_getObj_map h,asInt,asIntOf,goInt,Fo E q,MapKept.run_setObj_map _ h,Result.andThen,setBlock]
end
end
section
open Go Go.RowKit Go.Shelf
section
variable {P:Program} {r:Option Nat} {n:Nat} {df:Nat} {N:Nat} {σ:ae} {f:aP} {L:List Oper} {T:TypeId->Option TI} {Q:ik}
def aH3{ρ:Operand->D}{k t e:TypeId}{F:Value->Option Value}{b:Nat}{kv z u:Value}{kl:Lit}{o:Oper}{m y:Operand}{ok:Obj->Prop}(g:o.op= .lookup t m y false)(i:ρ m= .v (.map (some b)))(j:g7 (ρ y) kv)(l:(b,ax.obj ok)∈σ)(a:∀o,ok o->bo P k F o)
  (K:Maps.Keyed P k) (f:P.underlying t=some (.map k e)) (c:∀w,(zeroValue e).run P w= .ok z w) (h:keyOf P k kv=some kl) (d:(F kv).getD z=u):Yd P o ρ σ (.v u):=by
 subst d;exact ve g i j l a K f c h
def MH(h:List Nat)(i:Nat):Bool:=!h.any (Nat.beq i)
def QR{o:Array Oper}{E:Nat->Bool}{L c:List D->ae->Prop}(h:∀a σ,L a σ->c a σ):∀{t:ne}{a:List D}{σ:ae},iv P r n df o E L t a σ->iv P r n df o E c t a σ
 |.done,_,_,b=>h _ _ b
 |.one _ _,_,_,b=>cK (λ_ _=>QR h) b
 |.two _ _ _ _,_,_,b=>⟨cK (λ_ _=>QR h) b.1,cK (λ_ _=>QR h) b.2⟩
 |.three _ _ _ _ _ _,_,_,b=>⟨cK (λ_ _=>QR h) b.1,cK (λ_ _=>QR h) b.2.1,cK (λ_ _=>QR h) b.2.2⟩
def MU{p:Prop}(h:p:=by
 obtain⟨rfl,f',h1,h2⟩:=h';have:=QL hT hB.2 h2 h1;exact QR (λa σ h=>⟨rfl,h⟩) this):p:=h
def Lz(m:P.follows .mixedOrders=true)(hT:∀t i,T t=some i->aH P t=some i){id:Nat}{O:Array Oper}(d:O=L.toArray)(s:List Nat)(u:Nat)(t:ne){γ:Type}(ps:γ->aP)(S:γ->ae)(I:γ->Prop)
  (hB:(Nat.beq (s.length+u) L.length&&kJ .any L.toArray (MH s) u t s (Array.replicate L.length false)&&z8 (MH s) t)=true)
  (h:W (iw P T N L (MH s) σ s (λf1=>Kt P T r n df N L (λf' σ'=>∃g,ei f' (ie (.region id O true) f (ps g))/\S g=σ'/\I g) t f1 σ) f))
  (k:∀g,I g->W (GT (ie (.region id O true) f (ps g)) λF=>Q .normal F (S g))):Lp P r n df N (.region id O true) Q f σ:=by
 subst d;simp only[zJ]at hB;refine⟨λa b=>?_⟩;refine NO (aL2 (Q:=λe c σ'=>e= .normal/\∃f',Sp N c f'/\∃g,ei f' (ie (.region id L.toArray true) f (ps g))/\S g=σ'/\I g) (MH s) s u t m (yH hB.1.1) hB.1.2 (az6 (λc σ' h'=>?_) (Ri hT h.h b))) ?_
 .exact MU
 .rintro e c σ' ⟨rfl,f',h1,g,h2,rfl,j⟩;exact⟨_,h1.sub h2,QS (k g j).h⟩
end
end
section
open Go Go.RowKit Go.Shelf
section
variable {P:Program} {r:Option Nat} {n:Nat} {df:Nat} {N:Nat} {σ:ae} {f:aP} {L:List Oper} {T:TypeId->Option TI} {Q:ik}
variable{c:Code}
def JG(m:P.follows .mixedOrders=true)(b:∀t i,T t=some i->aH P t=some i)(h:W (m5 P T r n df N c Q f σ)):Lp P r n df N c Q f σ:=⟨λa s=>NP m b h.h s⟩
def tU{τ:ae}(p:σ.Perm τ)(k:Lp P r n df N c Q f τ):Lp P r n df N c Q f σ:=⟨λa s=>aO1 (λw X b h=>h.perm p) (λx hx=>y5 p x hx) (k.run a s)⟩
def xI:=@List.getElem?_set_self
def wN:=@List.getElem?_set_ne
variable{d d':D}
def pW{τ:ae}{i:Nat}(G:gV f i=some d)(H:d ≠ .any)(h:Vs σ d τ d')(k:Lp P r n df N c Q ((i,d')::f) τ):Lp P r n df N c Q f σ:=by
 refine⟨λa s=>?_⟩;have o:a[i]?=some d:=by
  rcases s.at_ i d G with l|l
  .exact absurd l H
  .exact l
 have m:=(zE.1 o).1;refine aO1 (b:=a.set i d') (τ:=τ) (λw X K t=>?_) h.sub (k.run (a.set i d') ⟨by rw[yR];exact s.len,λj e g=>?_⟩)
 .obtain⟨u,B,C⟩:=t.fr.at_ i d o;obtain⟨J,I⟩:=h.run w X u t.st C;refine⟨⟨by rw[yR];exact t.fr.size,λj e g=>?_⟩,J,t.df.keep (zT _) (λx _ F E=>F (E.imp id (h.sub x))) (λ_ _ _=>rfl)⟩;by_cases y:i=j
  .subst y;rw[xI m]at g
   cases g
   exact⟨u,B,I⟩
  .rw[wN y]at g;obtain⟨v,A,z⟩:=t.fr.at_ j e g;exact⟨v,A,NU z h.sub⟩
 .simp only[gV]at g
  cases p:Nat.beq i j with
  |true=>
   rw[p]at g;have:=yH p;subst this;simp only[cond_true,xB]at g;subst g;exact .inr (xI m)
  |false=>
   rw[p]at g;have q:i≠j:=λe=>by subst e;simp at p
   rcases s.at_ j e g with l|l
   .exact .inl l
   .exact .inr (by rw[wN q];exact l)
def ce.box{o:Oper}{t:TypeId}{x:Operand}{cs:List D}{K:aP->ae->Prop}(d:o.op= .box t x)(hx:aN f x= .agg cs)(kk:∀b,W (aX N o.dst (.v (.pointer (some ⟨b,0,none⟩))) f (λf'=>K f' ((b,.cells t cs)::σ)))):ce P r n df L N o f σ K:=by
 refine⟨λc Q a hsp g hk=>?_⟩;refine nc g (by rw[d];rfl) λw X j hst=>?_;have e:=hsp.le x _ _ _ (hst.fr.eval x);rw[hx]at e;obtain⟨vs,i,s⟩:=e.agg_inv;have e0:(execOp j.eval o).run P w= .ok (.value (.pointer (some ⟨w.heap.size,0,none⟩))) (w.alloc (.cells vs.toArray t)):=by
  simp only[execOp,d,i]
  rfl
 rw[e0];obtain⟨g1,g2,k⟩:=hst.st.new (.cells vs.toArray t) (.cells t cs) ⟨vs,rfl,s⟩;exact E9
def Vd(σ τ:ae)(d d':D):Prop:=∀(w:World)(X:Nat->Prop)(u:Value),aW w X σ->Rd w (ay σ X) d u->Rd w (ay τ X) d' u
def Vd.same{σ τ:ae}(s:∀b,b∈aT τ->b∈aT σ)(d:D):Vd σ τ d d:=λ_ _ _ _ h=>NU h s
def Vd.vs{σ τ:ae}(h:Vs σ d τ d'):Vd σ τ d d':=λw X u s r=>(h.run w X u s r).2
inductive lu(σ τ:ae):List D->List D->Prop
 |nil:lu σ τ [] []
 |cons {d d':D} {l l':List D} (h:Vd σ τ d d') (k:lu σ τ l l'):lu σ τ (d::l) (d'::l')
inductive pK(σ τ:ae):List (List D)->List (List D)->Prop
 |nil:pK σ τ [] []
 |cons {d d':List D} {l l':List (List D)} (h:lu σ τ d d') (k:pK σ τ l l'):pK σ τ (d::l) (d'::l')
variable{l:List D}
def lu.len{σ τ:ae}{a:List D}(h:lu σ τ l a):a.length=l.length:=by induction h with|nil=>rfl|cons _ _ i=>simp[i]
def pK.len{σ τ:ae}{l a:List (List D)}(h:pK σ τ l a):a.length=l.length:=by induction h with|nil=>rfl|cons _ _ i=>simp[i]
def lu.same{σ τ:ae}(h:∀b,b∈aT τ->b∈aT σ):∀l:List D,lu σ τ l l
 |[]=>.nil
 |d::l=>.cons (Vd.same h d) (lu.same h l)
def pK.same{σ τ:ae}(h:∀b,b∈aT τ->b∈aT σ):∀l:List (List D),pK σ τ l l
 |[]=>.nil
 |d::l=>.cons (lu.same h d) (pK.same h l)
def lu.at_{σ τ:ae}{c:List D}(h:lu σ τ l c):∀{j:Nat}{b:D},c[j]?=some b->∃d,l[j]?=some d/\Vd σ τ d b:=by
 induction h with
 |nil=>intro j b h;simp at h
 |cons h k i=>
  intro j b a
  cases j with
  |zero=>simp at a;subst a;exact⟨_,rfl,h⟩
  |succ j=>simp at a;obtain⟨d,f,e⟩:=i a;exact⟨d,by simpa using f,e⟩
def pK.at_{σ τ:ae}{l c:List (List D)}(h:pK σ τ l c):∀{j:Nat}{b:List D},c[j]?=some b->∃d,l[j]?=some d/\lu σ τ d b:=by
 induction h with
 |nil=>intro j b h;simp at h
 |cons h k i=>
  intro j b a
  cases j with
  |zero=>simp at a;subst a;exact⟨_,rfl,h⟩
  |succ j=>simp at a;obtain⟨d,f,e⟩:=i a;exact⟨d,by simpa using f,e⟩
def Vd.sl{σ τ:ae}(v:∀b,b∈aT τ->b∈aT σ){k:Nat}{xs x:List (List D)}(h:pK σ τ xs x):Vd σ τ (.sl k xs) (.sl k x):=by
 intro w X u t A;obtain⟨a,l,f,J,p,C,G,r⟩:=A.sl_inv;rw[J,←h.len];refine .sl k _ a l f (by rw[h.len];exact p) (λy c=>?_) (λi y c=>?_) (λi y c j d F=>?_)
 .obtain⟨i,E⟩:=yO c;obtain⟨z,e,g⟩:=h.at_ E;rw[g.len];exact C z (zG e)
 .obtain⟨z,e,g⟩:=h.at_ c;obtain⟨b,o,s,n,m,q⟩:=G i z e;exact⟨b,o,s,λB=>n (B.imp id (v b)),m,q⟩
 .obtain⟨z,e,g⟩:=h.at_ c;obtain⟨d0,I,H⟩:=g.at_ F;exact H w X _ t (r i z e j d0 I)
def Vd.agg{σ τ:ae}{a:List D}(h:lu σ τ l a):Vd σ τ (.agg l) (.agg a):=by
 intro w X u t r;obtain⟨vs,rfl,v⟩:=r.agg_inv;refine .agg _ _ (by rw[h.len];exact v.len) (λj d u c b=>?_);obtain⟨d0,f,e⟩:=h.at_ c;exact e w X u t (v.at_ j d0 u f b)
def Vd.tup{σ τ:ae}{a:List D}(h:lu σ τ l a):Vd σ τ (.tup l) (.tup a):=by
 intro w X u t r;obtain⟨vs,rfl,v⟩:=r.tup_inv;refine .tup _ _ (by rw[h.len];exact v.len) (λj d u c b=>?_);obtain⟨d0,f,e⟩:=h.at_ c;exact e w X u t (v.at_ j d0 u f b)
def Vs.vd{σ τ:ae}(p:∃ρ,σ.Perm (ρ++τ))(h:Vd σ τ d d'):Vs σ d τ d':=by
 obtain⟨ρ,p⟩:=p;exact⟨λw X u s r=>⟨(s.perm p).sub (wI _ _),h w X u s r⟩,λb a=>y5 p b (by rw[en];exact yW _ a)⟩
end
end
section
open Go
def dP(n:Int):Prop:=-9223372036854775808<=n/\n<=9223372036854775807
def IZ(a:Int):Int:=if a<0 then -(a+1)else a
def bV(a n:Int):Int:=if n<1 then 0 else(IZ a).tmod n
def aB(xs:List Int)(i n:Int):Int:=if i<0\/xs.length<=i then 0 else bV (xs.getD i.toNat 0) n
def fA(a n:Int):0<=bV a n/\(1<=n->bV a n<n)/\(n<1->bV a n=0):=by
 unfold bV;have p:0<=IZ a:=by unfold IZ;split<;>omega
 split
 .exact⟨by omega,λh=>by omega,λ_=>rfl⟩
 .refine⟨Int.tmod_nonneg _ p,λh=>Int.tmod_lt_of_pos _ (by omega),λh=>by omega⟩
def ek(xs:List Int)(i n:Int):0<=aB xs i n/\(1<=n->aB xs i n<n):=by
 unfold aB;split
 .exact⟨by omega,λh=>by omega⟩
 .have:=fA (xs.getD i.toNat 0) n;exact⟨this.1,this.2.1⟩
def gv(a n:Int)(b:dP a):APure prog 19 [iD a,iD n] (iD (bV a n)):=by
 obtain⟨h1,h2⟩:=b;refine ap func19 ntmps19 λe=>?_
 repeat' first|refine aV ?_|(refine aZ ?_;constructor<;>intro hc)
 all_goals
  refine Rt.pure (zM iD ?_);unfold bV IZ;simp[*]
def eH(xs:List Int):Prop:=(∀x∈xs,dP x)/\xs.length<=140737488355328
def Ti{A B:Prop}(k:B)(h:ar B->A:=by intro q7;(first|refine bh ?_|refine aE ?_|(refine' aj ?hc ?_;(case hc=>exact HA)));exact q7.1):A:=h ⟨k⟩
def R8(xs:List Int)(hx:eH xs)(i n:Int):APure prog 29 [bv xs,iD i,iD n] (iD (aB xs i n)):=by
 have l:=hx.2;by_cases h0:i<0
 .have HA:=True.intro;refine ap func29 ntmps29 λe=>?_
  repeat refine Ti ?_
  refine Rt.pure (zM iD ?_);unfold aB;rw[if_pos (.inl h0)]
 .by_cases h1:i.toNat<xs.length
  .obtain⟨a,b⟩:∃a,xs[i.toNat]?=some a:=⟨_,zD h1⟩
   have HA:=gv a n (hx.1 a (zG b));refine ap func29 ntmps29 λe=>?_
   repeat refine Ti ?_
   refine Rt.pure (zM iD ?_);unfold aB;rw[if_neg (by omega)];simp[List.getD_eq_getElem?_getD,b]
  .have HA:=True.intro;refine ap func29 ntmps29 λe=>?_
   repeat refine Ti ?_
   refine Rt.pure (zM iD ?_);unfold aB;rw[if_pos (by omega)]
abbrev aF(b:Nat)(xs:List Int)(pos:Int):Nat×ax:=(b,.cells 89 [bv xs,iD pos])
abbrev ptr(b:Nat):D:=.v (.pointer (some ⟨b,0,none⟩))
def az.imp{P:Program}{f:FuncId}{args:List D}{σ:ae}{R a:D->ae->Prop}(h:az P f args σ R)(k:∀d s,R d s->a d s):az P f args σ a:=
 ⟨h.ent,λw X vs v b=>(h.run w X vs v b).mono λe j⟨u,d,s,i,c,g⟩=>⟨u,d,s,i,k d s c,g⟩⟩
def eP(xs:List Int)(hx:eH xs)(b:Nat)(pos n:Int)(p:0<=pos/\pos<=1000000000):az prog 30 [ptr b,iD n] [aF b xs pos] (λd σ=>d=iD (aB xs pos n)/\σ=[aF b xs (pos+1)]):=by
 have HA:=R8 xs hx (pos+1-1) n;refine dB func30 ntmps30 λa=>?_
 repeat refine Ti ?_
 refine Rt.same ⟨?_,rfl⟩;rw[show pos+1-1=pos by omega]
def FF(xs:List Int)(hx:eH xs)(b:Nat)(pos n:Int)(h:0<=pos/\pos<=1000000000):az prog 30 [ptr b,iD n] [aF b xs pos] (λd σ=>∃r,d=iD r/\(0<=r/\(1<=n->r<n))/\σ=[aF b xs (pos+1)]):=
 (eP xs hx b pos n h).imp λd s⟨c,a⟩=>⟨_,c,ek xs pos n,a⟩
end
section
open Go
def Gt(l:List Int):List (List D):=l.map λn=>[iD n]
variable{x:ak}{i:Int}
def aJ9{f:an}(h:f.kind≠6\/bi x f.of<=i):KM x i f=true:=by
 simp only[KM];rcases h with h|h<;>simp[h]
def aK0{f:an}(h:f.kind=6)(a:i<bi x f.of):KM x i f=false:=by
 simp only[KM,h];simp;omega
def aP4(x:ak)(i:Int)(f:an)(o:Nat)(k:aq)(a:bi x f.of=o)(h:x.kz[o]?=some k):Ai x i f=uO x o i f k.fields k.fields.length:=by
 rw[←a];exact nV x i f k (by rw[a];simp[dN,h])
def be6(σ:ae)(k:Nat):Vs σ (.v (.slice none 0 0)) σ (.sl k []):=Vs.le (gC k)
def sk5{A B:Prop}(k:B)(h:ar B->A:=by intro q7;(first|refine bh ?_|refine aE ?_|(refine' aj ?hc ?_;(case hc=>first|exact aI3 _ _ _|exact An _ _ (by assumption)|exact nd _ _ (by assumption)|exact FA _ _ _ (by assumption) (by assumption))));exact q7.1):A:=h ⟨k⟩
def uE{p:Prop}(h:p:=by
 rw[hno (by omega)];exact Rt.vs (Vs.tup (fF.cons (Vs.refl _ _) (fF.cons (be6 _ _) (fF.nil _))))):p:=h
def aZ8(x:ak)(i j:Int)(f:an)(hl:x.kz.length<=1000000)(K:∀k∈x.kz,k.fields.length<=1000000)(C:fieldAt x i j=some f):APure prog 132 [aw x,iD i,iD j] (.tup [iD (gJ x i f).1,bv (gJ x i f).2]):=by
 refine ap func132 ntmps132 λO=>?_;obtain⟨h0,h1,k,M,I⟩:=GH C;have G:=az4 x f.of;have hno:f.kind≠6\/bi x f.of<=i->gJ x i f=(-1,[]):=λh=>by unfold gJ;rw[aJ9 h];rfl
 repeat' first|refine sk5 ?_|intro b;conv=>whnf|refine bg.mk λy hy=>?_|(refine aZ ?_;constructor<;>intro hc)
 .exact uE
 .obtain⟨e,rfl⟩:∃e,e=y:=⟨_,rfl⟩
  have l:=hy;clear hy;have L:f.kind=6:=by omega
  have r:=aK0 (x:=x) (i:=i) L (by omega);obtain⟨o,u⟩:=Int.eq_ofNat_of_zero_le (show 0<=bi x f.of by omega);rw[u]at l;have l:x.kz[o]?=some e:=l;have S:gJ x i f=((o:Int),uO x o i f e.fields e.fields.length):=by
   unfold gJ;rw[r,aP4 x i f o e u l,u];rfl
  have J:=K e (zG l);rw[u];refine gD mixed ai (γ:=Nat×Value×ae) (λg=>[(10,.v g.2.1),(12,iD g.1)]) (λg=>(b,.cells 81 (aA f))::g.2.2) (λg=>g.1<=e.fields.length/\ab 3 1 (Gt (uO x o i f e.fields g.1)) g.2.1 g.2.2) (λg=>e.fields.length-g.1) (0,.slice none 0 0,[]) rfl rfl ⟨zW _,ab.nil _ _⟩ ?_;rintro⟨q,v,s⟩ ⟨F,w⟩;simp only at F w⊢
  repeat' first|refine sk5 ?_|intro b;conv=>whnf|refine bg.mk λy hy=>?_|(refine aZ ?_;constructor<;>intro hc)
  .have n:FB x o i f y q=true:=by simp[FB,seq, *]
   have t:=at3 x o i f e.fields q y hy;rw[n,if_pos rfl]at t;have D:=aJ8 x o i f e.fields (q+1);refine Ap.go rfl rfl rfl rfl w (GN _ _) rfl (zs:=Gt (uO x o i f e.fields (q+1))) (by rw[t];simp only[Gt,yB];rfl) (by simp[Gt];omega) (by simp[Gt];omega) (λz=>_::z) (N5 _) (λa c z E=>?_)
   repeat' first|refine sk5 ?_|intro b;conv=>whnf|refine bg.mk λy hy=>?_
   exact⟨(q+1,_,z),rfl,rfl,⟨by simp only;omega,E⟩,by simp only;omega⟩
  iterate 3
   have n:FB x o i f y q=false:=by simp[FB,seq, *]
   have t:=at3 x o i f e.fields q y hy;rw[n,if_neg (by simp),zZ]at t;exact⟨(q+1,v,s),rfl,rfl,⟨by simp only;omega,by simp only;rw[t];exact w⟩,by simp only;omega⟩
  .obtain rfl:q=e.fields.length:=by omega
   rw[S];exact Rt.vs (Vs.tup (fF.cons (Vs.refl _ _) (fF.cons (Vs.row w (GN _ _)) (fF.nil _))))
 .exact uE
def ou(o:Int):List Int->Int×Int
 |[n]=>(o,n)
 |_=>(-1,-1)
def j8(x:ak)(i j:Int):Int×Int:=match fieldAt x i j with
 |none=>(-1,-1)
 |some f=>ou (gJ x i f).1 (gJ x i f).2
variable{o:Int}{l:List Int}
def qo{j:Int}{f:an}(h:fieldAt x i j=some f)(s:gJ x i f=(o,l)):j8 x i j=ou o l:=by
 simp only[j8,h,s]
def oq(h:l.length≠1):ou o l=(-1,-1):=by
 match l,h with
 |[],_=>rfl
 |[a],h=>exact absurd rfl h
 |a::b::r,_=>rfl
def sk6{A B:Prop}(k:B)(h:ar B->A:=by intro q7;(first|refine bh ?_|refine aE ?_|(refine' aj ?hc ?_;(case hc=>first|exact aI3 _ _ _|exact HS)));exact q7.1):A:=h ⟨k⟩
def aV4(x:ak)(i j:Int)(hl:x.kz.length<=1000000)(g:∀k∈x.kz,k.fields.length<=1000000):APure prog 154 [aw x,iD i,iD j] (.tup [iD (j8 x i j).1,iD (j8 x i j).2]):=by
 refine ap func154 ntmps154 λn=>?_
 cases a:fieldAt x i j with
 |none=>
  have e:jq x i j=false:=by simp[jq,a]
  repeat' first|refine sk6 ?_|(refine aZ ?_;constructor<;>intro hc)
  exact Rt.pure (by simp only[j8,a])
 |some f=>
  have e:jq x i j=true:=by simp[jq,a]
  have HS:=aZ8 x i j f hl g a;rcases hs:gJ x i f with⟨o,l⟩
  have r:=qo a hs;rw[hs]at HS;simp only at HS;by_cases hl1:l.length=1
  .obtain⟨m,rfl⟩:=List.length_eq_one_iff.1 hl1
   repeat' first|refine sk6 ?_|(refine aZ ?_;constructor<;>intro hc)
   exact Rt.pure (by rw[r];rfl)
  .have b:j8 x i j=(-1,-1):=by rw[r,oq hl1]
   repeat' first|refine sk6 ?_|(refine aZ ?_;constructor<;>intro hc)
   exact Rt.pure (by rw[b])
end
section
open Go Go.Maps Go.MapKept
abbrev RI:dZ (List Int):=λl v s=>ab 3 1 (l.map λn=>[iD n]) v s
abbrev uX:dZ (List (List Int)):=aC 22 RI
abbrev RW:dZ Wd:=aC 70 uX
def YE:GY RI bv:=ui _ _ _
def Ep:GY uX gc:=bc7 YE
def GW:GY RW fI:=bc7 Ep
def FY(l:List Int):((l.map λb=>[iD b]).all λy=>y.all cY)=true:=by rw[yA];intro y h;obtain⟨b,_,rfl⟩:=xM.1 h;rfl
structure Snd(x:ak):Prop where
 no:dJ x=[]
 vld:LC x
 up:∀r∈bJ x,0<=r.up/\r.up<r.kind/\r.kind<x.kz.length
def aY3(x:ak)(k i:Int)(h:0<=aG x k i):aG x k i<k:=by
 unfold aG at h⊢;have y:∀f,0<=refUp x k f->refUp x k f<k:=λf h=>by
  unfold refUp at h⊢;split
  .assumption
  .rename_i n;rw[if_neg n]at h;omega
 split
 .rename_i e;rw[e]at h;simp at h
 .rename_i f e;rw[e]at h;simp only at h;split
  .rename_i b;rw[if_pos b]at h
   cases u:Sj x k i f with
   |none=>rw[u]at h;simp[yt]at h
   |some g=>rw[u]at h;exact y g h
  .rename_i b;rw[if_neg b]at h;split
   .rename_i a;rw[if_pos a]at h;exact y f h
   .rename_i a;rw[if_neg a]at h;omega
def tO{k f r e:Int}(h:one k f r e=[]):e=0:=by
 unfold one at h;split at h
 .assumption
 .cases h
def aY2{α:Type}{q:Nat}{g:Nat->List α}(h:am q g=[])(i:Nat)(a:i<q):g i=[]:=by
 unfold am at h;rw[List.flatMap_eq_nil_iff]at h;exact h i (xT.2 a)
def vN:=@List.append_eq_nil_iff
variable{x:ak}
def RX(h:dJ x=[]){k:Nat}{kd:aq}{i:Nat}{f:an}(b:x.kz[k]?=some kd)(c:kd.fields[i]?=some f):¬bb kd f.name<i/\cP x k i f=0:=by
 unfold dJ at h;split at h
 .simp only[vN]at h;have e:=aY2 h.1.2 k (zE.1 b).1;simp only[eu,b,vN]at e;have d:=aY2 e.2 i (zE.1 c).1;simp only[fU,c]at d;have a:=tO d;unfold m' at a;split at a
  .omega
  .exact⟨by assumption,a⟩
 .cases h
def wb(h:dJ x=[]):fD x=0:=by
 unfold dJ at h;split at h
 .assumption
 .cases h
def Ft(h:dJ x=[]):Snd x:=by
 refine⟨h,lB (wb h),λr d=>?_⟩;obtain⟨kd,f,c,i,g,e,_⟩:=aN5 d;have a:=(RX h c i).2;have b:0<=aG x r.kind r.field:=by
  unfold cP at a;rw[if_neg (by omega),if_neg (by omega),if_pos g]at a;split at a
  .cases a
  .omega
 rw[e];exact⟨b,aY3 x _ _ b,(zE.1 c).1⟩
structure Ws(w:Wd):Prop where
 nk:w.length<=1000
 nr:∀l∈w,l.length<=1000
 nf:∀l∈w,∀r∈l,r.length<=1000
def aM5(h:LC x):(bJ x).length<=6000:=by
 have b:=fa (λk=>n8 x k (λk a=>by have:=h.nf k a;omega)) x.kz.length;have:=h.nk;unfold bJ;omega
def D0:laidOutB prog=true:=by kernel_rfl
def rV:prog.cellsOf 3=1:=by kernel_rfl
def bc2(n:Nat){a:Int}(h:(Lit.int .i64 a).wf=true):prog.keyLits (n+1) 3 [.int .i64 a]=some [.int .i64 a]:=by
 simp only[Program.keyLits,underlying3,h];simp
def aW8:Keyed prog 3:=int_keyed underlying3
def uf{a:Int}(h:(Lit.int .i64 a).wf=true):keyOf prog 3 (.int .i64 a)=some (.int .i64 a):=keyOf_int_mk underlying3 h
def iY{a:Int}(b:-9223372036854775808<=a)(h:a<=9223372036854775807):(Lit.int .i64 a).wf=true:=by
 have c:IntKind.i64.min= -9223372036854775808:=rfl;have e:IntKind.i64.max=9223372036854775807:=rfl;simp[Lit.wf,c,e,b,h]
def part{α:Type}(x0:α)(xs:List α)(j:Nat):List α:=xs.take j++List.replicate (xs.length-j) x0
def Mk.go{T:TypeId->Option TI}{σ:ae}{t e:TypeId}{i j:TI}{g:Bool}{a c:Nat}{z:ZV}{K:D->ae->Prop}(m:Nat)(r:T t=some i)(q:i.sl=some (e,g,1,a))(p:T e=some j)(o:j.zero=[z])(n:j.size=1)(d:c=m)(f:a*m<=281474976710656)(l:m<=1000000000)
  (k:∀b,W (K (.v (.slice (some ⟨b,0,none⟩) m m)) ((b,.cells e (List.replicate m (.v (zv z))))::σ))):Mk T σ t (.v (.int .i64 c)) (.v (.int .i64 c)) K:=by
 subst d;exact⟨e,i,j,g,a,c,z,r,q,p,o,n,rfl,rfl,f,l,λb=>(k b).h⟩
def bb9:Keyed prog 124:=Keyed.of_law (deep_law_laid D0 (m:=3) (by omega) (wY (by kernel_rfl)) (by kernel_rfl) (by rw[underlying124]))
def DP:prog.keyType 124=true:=by kernel_rfl
def JI(a b c:Int):Value:=.agg #[.int .i64 a,.int .i64 b,.int .i64 c]
def oG:prog.cellsOf 124=3:=by kernel_rfl
def xm(a b c:Int):(JI a b c).formed prog 124=true:=by
 simp[JI,Value.formed,underlying124,oG]
def rB{a b c:Int}(f:(Lit.int .i64 a).wf=true)(e:(Lit.int .i64 b).wf=true)(d:(Lit.int .i64 c).wf=true):∃l,keyOf prog 124 (JI a b c)=some l:=by
 unfold keyOf;rw[underlying124];simp only[DP,xm,Bool.and_self,if_true];have:∃n,prog.types.size=n+1:=⟨prog.types.size-1,by have:0<prog.types.size:=wY (by kernel_rfl);omega⟩
 obtain⟨n,h⟩:=this;rw[h];have:prog.keyLits (n+1+1) 124 (JI a b c).cells.toList=some [.int .i64 a,.int .i64 b,.int .i64 c]:=by
  unfold Program.keyLits;simp[JI,Value.cells,underlying124,oG,rV,bc2 n f,bc2 n e,bc2 n d]
 rw[this];exact⟨_,rfl⟩
def JH{a b c d e f:Int}(h:JI a b c=JI d e f):a=d/\b=e/\c=f:=by
 simp only[JI,Value.agg.injEq]at h;have:=zM Array.toList h;simp at this;exact this
def pB0(x y z:Value):g7 (.agg [.v x,.v y,.v z]) (.agg #[x,y,z]):=λw O u h=>by
 obtain⟨vs,rfl,d⟩:=h.agg_inv;have l:=d.len
 match vs,l with
 |[a,b,c],_=>
  have f:=(d.at_ 0 _ _ rfl rfl).val rfl;have e:=(d.at_ 1 _ _ rfl rfl).val rfl;have q:=(d.at_ 2 _ _ rfl rfl).val rfl;rw[f,e,q]
end
end Go.Proofs.YtilnpcolgcmofaaGreatDoor
