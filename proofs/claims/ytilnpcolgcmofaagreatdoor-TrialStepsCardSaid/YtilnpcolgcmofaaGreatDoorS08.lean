/- A part of the proof: Ns Ar Tab Dat Nt. -/
import Derived.Test.YtilnpcolgcmofaaGreatDoorS07
import Derived.Lib.BufferWrite
import Derived.Lib.AppendStr
import Derived.Deep.AppendSrc
import Derived.Laws.IdiomStrings
set_option maxRecDepth 100000
set_option maxHeartbeats 20000000
set_option linter.all false
namespace Go.Proofs.YtilnpcolgcmofaaGreatDoor
open Tryz
section
open Go Go.RowKit Go.Shelf
abbrev fk(α:Type):=α->Value->af->Prop
inductive da{α:Type}(R:fk α):List α->List Value->List af->Prop
 |nil:da R [] [] []
 |cons {x:α} {u:Value} {t:af} {xs:List α} {vs:List Value} {ts:List af} (h:R x u t) (k:da R xs vs ts):da R (x::xs) (u::vs) (t::ts)
section
variable {α:Type} {R:fk α}
theorem da.len{xs:List α}{vs:List Value}{t:List af}(h:da R xs vs t):vs.length=xs.length/\t.length=xs.length:=by
 induction h with
 |nil=>exact⟨rfl,rfl⟩
 |cons h k i=>simp[i.1,i.2]
theorem da.at{xs:List α}{vs:List Value}{s:List af}(h:da R xs vs s):∀{i:Nat}{x:α},xs[i]?=some x->∃u t τ,vs[i]?=some u/\R x u t/\s.flatten.Perm (t++τ) /\
  ∀c d b,R c d b->∃a,da R (xs.set i c) (vs.set i d) a/\a.flatten.Perm (b++τ):=by
 induction h with
 |nil=>intro i x hx;simp at hx
 | @cons y u t xs vs s h k l=>
  intro i x hx
  cases i with
  |zero=>
   simp at hx;subst hx;exact⟨u,t,s.flatten,rfl,h,by simp,λc d b e=>⟨b::s,.cons e k,by simp⟩⟩
  |succ i=>
   simp at hx;obtain⟨f,t2,τ,q,o,n,m⟩:=l hx;refine⟨f,t2,t++τ,by simpa using q,o,?_,λc d b e=>?_⟩
   .rw[List.flatten_cons];refine(List.Perm.append_left t n).trans ?_;exact DT
   .obtain⟨a,j,g⟩:=m c d b e;refine⟨t::a,by simpa using da.cons h j,?_⟩;rw[List.flatten_cons];refine(List.Perm.append_left t g).trans ?_;exact DT
theorem da.append{xs ys:List α}{vs u:List Value}{t s:List af}(h:da R xs vs t)(k:da R ys u s):da R (xs++ys) (vs++u) (t++s):=by
 induction h with
 |nil=>exact k
 |cons h _ i=>exact .cons h i
theorem da.rep{x:α}{u:Value}{t:af}(h:R x u t):∀n,da R (List.replicate n x) (List.replicate n u) (List.replicate n t)
 |0=>.nil
 |n+1=>by rw[List.replicate_succ,List.replicate_succ,List.replicate_succ];exact .cons h (da.rep h n)
structure bw(e:TypeId)(R:fk α)(xs:List α)(v:Value)(s:af):Prop where
 ex:∃(vs:List Value)(s0:af)(ts:List af),ae e 1 (vs.map λu=>[D.v u]) v s0/\da R xs vs ts/\s.Perm (s0++ts.flatten)
theorem bw.perm{e:TypeId}{xs:List α}{v:Value}{s a:af}(h:bw e R xs v s)(p:a.Perm s):bw e R xs v a:=by
 obtain⟨vs,b,t,f,d,c⟩:=h.ex;exact⟨vs,b,t,f,d,p.trans c⟩
theorem bw.slice{e:TypeId}{xs:List α}{v:Value}{s:af}(h:bw e R xs v s):∃a c,v= .slice a xs.length c:=by
 obtain⟨vs,f,t,d,b,g⟩:=h.ex;obtain⟨a,c,e⟩:=d.slice;rw[zL,b.len.1]at e;exact⟨a,c,e⟩
theorem C4(vs:List Value):(vs.map λu=>[D.v u]).flatten=vs.map D.v:=by
 induction vs with
 |nil=>rfl
 |cons v vs i=>simp[i]
theorem ae.block{e:TypeId}{k:Nat}{xs:List (List D)}{v:Value}{s:af}(h:ae e k xs v s)(a:xs≠[]):∃b c j,v= .slice (some ⟨b,0,none⟩) xs.length c/\s=[(b,.cells e (xs.flatten++j))]/\xs.length<=c/\c<=maxLen/\xs.length*k+j.length=c*k/\∀d∈j,d=D.any:=by
 rcases h.is with⟨_,h,_⟩|h
 .exact absurd h a
 .exact h
def wL:=@List.map_set
theorem bw.at{e:TypeId}{xs:List α}{v:Value}{s:af}(h:bw e R xs v s){i:Nat}{x:α}(hx:xs[i]?=some x) :
  ∃b c n u t τ,v= .slice (some ⟨b,0,none⟩) xs.length c/\s.Perm ((b,.cells e n)::(t++τ))/\n[i]?=some (.v u)/\R x u t /\
   ∀d a f k,R d a f->k.Perm ((b,.cells e (n.set i (.v a)))::(f++τ))->bw e R (xs.set i d) v k:=by
 obtain⟨vs,M,L,G,m,o⟩:=h.ex;obtain⟨u,t,τ,p,K,J,I⟩:=m.at hx;have l:=(zE.1 p).1;obtain⟨b,c,j,rfl,rfl,A,w,r,q⟩:=G.block (λh=>by
  have:=zM List.length h;simp at this;subst this;simp at l)
 rw[C4]at o;refine⟨b,c,vs.map D.v++j,u,t,τ,by rw[zL,m.len.1],?_,?_,K,λd a f k H F=>?_⟩
 .exact o.trans (List.Perm.cons _ J)
 .rw[yP (by simpa using l),qA,p];rfl
 .obtain⟨g,C,B⟩:=I d a f H;refine⟨vs.set i a,[(b,.cells e ((vs.set i a).map D.v++j))],g,⟨λy E=>by obtain⟨z,_,rfl⟩:=xM.1 E;rfl,.inr ⟨b,c,j,by simp[m.len.1],by rw[C4],by simpa using A,w,by simpa using r,q⟩⟩,C,?_⟩;refine F.trans ?_;rw[List.set_append_left _ _ (by simpa using l),wL];exact List.Perm.cons _ B.symm
def Kg(R:fk α)(d:α->D):Prop:=∀x u t τ w X,R x u t->aU w X (t++τ)->Rd w (ay τ X) (d x) u
theorem sI{β:Type}(e:TypeId)(k:Nat)(g:β->List D):Kg (λ(l:List β)v s=>ae e k (l.map g) v s) (λl=>.sl k (l.map g)):=λ_ _ _ _ _ _ h a=>Mn h a
theorem L8{w:World}{X:Nat->Prop}{s t:af}{d:D}{u:Value}(h:Rd w (ay s X) d u)(a:∀b,b∈aQ t->b∈aQ s):Rd w (ay t X) d u:=
 h.keep (zT _) (λb _ n o=>n (o.imp id (a b))) (λ_ _ _=>rfl)
theorem nj{e:TypeId}{c:α->D}(S:Kg R c):Kg (bw e R) (λl=>.sl 1 (l.map λx=>[c x])):=by
 intro l v s τ w X h G;obtain⟨vs,g,F,V,I,U⟩:=h.ex;have H:(s++τ).Perm (g++(F.flatten++τ)):=by rw[←zV];exact U.append_right _
 have r:=G.perm H;have o:=Mn V r;obtain⟨a,E,f,e1,p,hk,T,O⟩:=o.sl_inv;have m:∀b,b∈aQ τ->b∈aQ (F.flatten++τ):=λb C=>by rw[eW];exact yW _ C
 have n:vs.length=l.length:=I.len.1;rw[e1,zL,n,show l.length=(l.map λx=>[c x]).length by simp];refine .sl 1 _ a E f (by simpa [n]using p) (λy k=>by obtain⟨z,_,rfl⟩:=xM.1 k;rfl) (λi y k=>?_) (λi y k j d B=>?_)
 .have Q:i<vs.length:=by have:=(zE.1 k).1;simpa [n]using this
  obtain⟨b,q,M,L,K,J⟩:=T i [.v vs[i]] (by rw[qA,zD Q];rfl);exact⟨b,q,M,λP=>L (P.imp id (m b)),K,J⟩
 .rw[qA,xN]at k;obtain⟨x,hx,rfl⟩:=k
  cases j with
  |succ j=>simp at B
  |zero=>
   simp at B;subst B;obtain⟨u,t,τ',Z,Y,W,g4⟩:=I.at hx;have N:=(O i [.v u] (by rw[qA,Z];rfl) 0 _ rfl).val rfl;rw[N];have A:(s++τ).Perm (t++(g++τ'++τ)):=by
    refine H.trans ?_;refine(List.Perm.append_left g (W.append_right τ)).trans ?_;simp only[zV];rw[←zV g t,←zV t g];exact yT.append_right _
   have:=S x u t (g++τ'++τ) w X Y (G.perm A);exact L8 this (λb C=>by rw[eW];exact yW _ C)
theorem Vs.frz{d:α->D}(f:Kg R d){x:α}{v:Value}{s σ τ:af}(h:R x v s)(p:σ.Perm (s++τ)):Vs σ (.v v) τ (d x):=
 ⟨λw X u a r=>by
  have:=r.val rfl;subst this;exact⟨(a.perm p).sub (wI _ _),f x _ s τ w X h (a.perm p)⟩,λb c=>wy p b (by rw[eW];exact yW _ c)⟩
theorem bw.made{e:TypeId}{x0:α}(f:R x0 (.slice none 0 0) [])(m b:Nat)(a:m<=maxLen):bw e R (List.replicate m x0) (.slice (some ⟨b,0,none⟩) m m) [(b,.cells e (List.replicate m (.v (.slice none 0 0))))]:=by
 refine⟨List.replicate m (.slice none 0 0),[(b,.cells e (List.replicate m (.v (.slice none 0 0))))],List.replicate m [],⟨λy h=>by obtain⟨z,_,rfl⟩:=xM.1 h;rfl,.inr ⟨b,m,[],by simp,by rw[C4];simp,by simp,a,by simp,λd c=>by cases c⟩⟩,da.rep f m,by simp⟩
theorem bw.nil(e:TypeId)(R:fk α):bw e R [] (.slice none 0 0) []:=⟨[],[],[],ae.nil _ _,.nil,by simp⟩
def yZ:=@List.mem_or_eq_of_mem_set
theorem ae.put{e:TypeId}{k:Nat}{xs:List (List D)}{b n c:Nat}{cs:List D}(h:ae e k xs (.slice (some ⟨b,0,none⟩) n c) [(b,.cells e cs)]){i:Nat}{x':List D}(l:i<xs.length)(hx:x'.length=k):ae e k (xs.set i x') (.slice (some ⟨b,0,none⟩) n c) [(b,.cells e (ft cs (i*k) x'))]:=by
 have g:xs≠[]:=λe=>by subst e;simp at l
 obtain⟨B,m,j,A,z,r,p,o,q⟩:=h.block g
 cases A
 have x:cs=xs.flatten++j:=by simpa using z
 refine⟨λy d=>?_,.inr ⟨b,c,j,by simp,?_,by simpa using r,p,by simpa using o,q⟩⟩
 .rcases yZ d with u|rfl
  .exact h.len y u
  .exact hx
 .have s:=E4 h.len;have a:ft cs (i*k) x'=(xs.set i x').flatten++j:=by
   rw[x];have w:xs=xs.take i++xs[i]::xs.drop (i+1):=by rw[List.getElem_cons_drop,vF]
   have v:xs.set i x'=xs.take i++x'::xs.drop (i+1):=by rw[xW,if_pos l]
   have t:(xs.take i).flatten.length=i*k:=by
    rw[E4 (k:=k) (λy d=>h.len y (xG d)),zR,vH (by omega)]
   have f:xs[i].length=k:=h.len _ (wE l);rw[v]
   conv=>lhs;rw[w]
   unfold ft;simp only[vW,List.flatten_cons,zV];rw[←t,List.take_left',List.drop_append,List.drop_of_length_le (by omega)]
   .simp only[List.nil_append,zV]
    congr 2
    rw[show(xs.take i).flatten.length+x'.length-(xs.take i).flatten.length=x'.length by omega,hx,←f,List.drop_left']
    rfl
   .rfl
  rw[a]
theorem ae.get{e:TypeId}{k:Nat}{xs:List (List D)}{v:Value}{s:af}(h:ae e k xs v s){i:Nat}{x:List D}(hx:xs[i]?=some x):∃b c l,v= .slice (some ⟨b,0,none⟩) xs.length c/\s=[(b,.cells e l)]/\∀j,j<k->l[i*k+j]?=x[j]?:=by
 have a:xs≠[]:=λe=>by subst e;simp at hx
 obtain⟨b,c,f,n,m,r,p,o,q⟩:=h.block a;refine⟨b,c,_,n,m,λj g=>?_⟩;have:=aL6 h.len hx g;have d:j<x.length:=by rw[h.len x (zG hx)];exact g
 rw[yP,this];exact(zE.1 (this.trans (zD d))).1
end
def flA:D->Bool
 |.v _=>true
 |.any=>true
 |_=>false
def aE.flat:aE->Prop
 |.cells _ c=>∀d∈c,flA d=true
 |.obj _=>True
 |.mp _ _ _=>False
def oz(s:af):Prop:=∀p∈s,aE.flat p.2
theorem OJ{w w':World}{O b:Nat->Prop}{d:D}{u:Value}(h:Rd w O d u)(a:flA d=true):Rd w' b d u:=by
 cases d<;>first|(have:=h.val rfl;subst this;exact .v _)|exact .any u|cases a
theorem oz.append{s t:af}(h:oz s)(k:oz t):oz (s++t):=λp a=>(zO.1 a).elim (h p) (k p)
theorem oz.perm{s t:af}(h:oz s)(a:t.Perm s):oz t:=λp q=>h p (a.mem_iff.1 q)
theorem oz.row{e:TypeId}{k:Nat}{xs:List (List D)}{v:Value}{s:af}(h:ae e k xs v s)(i:∀x∈xs,∀d∈x,flA d=true):oz s:=by
 rcases h.is with⟨_,_,rfl⟩|⟨b,m,j,_,rfl,_,_,_,g⟩
 .exact λp a=>by cases a
 .intro p a;rw[zN]at a;subst a;intro d l;rcases zO.1 l with f|f
  .obtain⟨x,hx,c⟩:=List.mem_flatten.1 f;exact i x hx d c
  .rw[g d f];rfl
theorem oz.rows{α:Type}{R:fk α}(g:∀x u t,R x u t->oz t){e:TypeId}{xs:List α}{v:Value}{s:af}(h:bw e R xs v s):oz s:=by
 obtain⟨vs,m,l,c,j,b⟩:=h.ex;refine oz.perm (oz.append (oz.row c λx hx d a=>?_) ?_) b
 .obtain⟨u,_,rfl⟩:=xM.1 hx;rw[zN]at a;subst a;rfl
 .clear b c h
  induction j with
  |nil=>exact λp f=>by cases f
  |cons h k i=>rw[List.flatten_cons];exact(g _ _ _ h).append i
theorem XL{p:Prop}(h:p:=by
 have hfk:=f2 _ h
 cases k with
 |cells t cs=>
  obtain⟨vs,q1,q2⟩:=h3;exact⟨vs,q1,q2.len,λj d u r1 r2=>OJ (q2.at_ j d u r1 r2) (hfk d (zG r1))⟩
 |obj ok=>exact h3
 |mp P k G=>exact hfk.elim):p:=h
theorem az.peek{P:Program}{f:FuncId}{I v:List D}{σ:af}{R:D->af->Prop}(L:jn σ I v)(H:az P f v [] R)(z:∀d s,R d s->sJ d=true/\oz s) :
  az P f I σ (λd σ'=>∃s,σ'=s++σ/\R d s):=by
 refine⟨H.ent,λw X vs K l=>?_⟩;have q:=L.rd l K;have r:aU w (λ_=>False) []:=⟨List.nodup_nil,λb k M=>(by cases M),λb a=>a.elim,l.gok.mono (λb a=>by rcases a with a|a;exact a.elim;cases a)⟩
 refine(H.run w (λ_=>False) vs ⟨q.len,λj d u E x=>(q.at_ j d u E x).keep (zT _) (λb _ _ g=>by rcases g with g|g;exact g.elim;cases g) (λ_ _ _=>rfl)⟩ r).mono ?_;rintro e J ⟨u,d,s,E,x,S,C,n⟩;obtain⟨f1,f2⟩:=z d s x;have hx:Ex w J:=⟨n.keep.os,n.keep.tape,n.keep.output,n.keep.size,λb a _=>n.keep.block b a (λN=>by cases N)⟩
 have i:∀b,b∈aQ s->w.heap.size<=b:=λb a=>by
  rcases n.new b a with h|h
  .cases h
  .exact h
 have O:∀b,b<w.heap.size->¬ay σ X b->¬ay (s++σ) X b:=λb a F g=>by
  rcases g with g|g
  .exact F (.inl g)
  .rw[eW,zO]at g;rcases g with g|g
   .have:=i b g;omega
   .exact F (.inr g)
 refine⟨u,d,s++σ,E,⟨s,rfl,x⟩,kU S f1,⟨?_,λb k A=>?_,λb a=>yI (l.xlt b a) hx.size,?_⟩,⟨⟨hx.os,hx.tape,hx.output,hx.size,λb a _=>hx.block b a⟩,λb a=>?_⟩⟩
 .rw[eW,wR];exact⟨C.nodup,l.nodup,λb B c m e=>by subst e;have:=i b B;have:=l.lt m;omega⟩
 .rcases zO.1 A with h|h
  .obtain⟨_,o,m,h3⟩:=C.at_ b k h;refine⟨λQ=>by have:=i b (Qu h);have:=l.xlt b Q;omega,o,m,?_⟩;exact XL
  .obtain⟨B,o,m,h3⟩:=l.at_ b k h;have y:=(zX.1 m).1;exact⟨B,o,(hx.block b y).trans m,r9 hx.size O (λb a _=>hx.block b a) h3⟩
 .refine l.gok.keep hx.size O (λb a _=>hx.block b a) (λb a=>?_);rcases a with a|a
  .exact yI (l.xlt b a) hx.size
  .rw[eW,zO]at a;rcases a with a|a
   .exact C.lt a
   .exact yI (l.lt a) hx.size
 .rw[eW,zO]at a;rcases a with a|a
  .exact .inr (i b a)
  .exact .inl a
theorem Pk.frz{α:Type}{R:fk α}{d:α->D}(f:Kg R d){x:α}{v:Value}{s σ τ:af}(h:R x v s)(p:σ.Perm (s++τ)):Pk σ (.v v) (d x):=
 ⟨λw X u a r=>by have:=r.val rfl;subst this;exact(f x _ s τ w X h (a.perm p)).stable⟩
end
section
open Go Go.RowKit Go.Shelf
section
variable {P:Program} {σ:af} {ρ:Operand->D} {T:TypeId->Option TI}
theorem bN(C:∀t i,T t=some i->aD P t=some i){o:Oper}{t:TypeId}{x a:Operand}{b f n k m:Nat}{kk:IntKind}{j:Int}{F:Bool}{i:TI}(c:o.op= .indexAddr t x a)(hx:ρ x= .v (.pointer (some ⟨b,f,none⟩)))(A:ρ a= .v (.int kk j))(p:T t=some i)(B:i.arr=some (n,F,k))(y:j=(m:Int))(r:m<n):Yd P o ρ σ (.v (.pointer (some ⟨b,f+m*k,none⟩))):=by
 subst y;intro w X η h q;obtain⟨dst,I,H,pos,G,g⟩:=o;simp only at c;subst c;have E:=(h x (by simp[Op.operands])).val hx;have D:=(h a (by simp[Op.operands])).val A;obtain⟨e,l,z⟩:=aK4 (C t i p) B;have d:=(qP z w).2;refine dC (s:=Instr.indexAt t (η x) (η a)) (u:=.pointer (some ⟨b,f+m*k,none⟩)) ?_ (Ex.refl w) (.v _);rw[E,D];simp[Instr.indexAt,Instr.sureAddr,asIntOf,run_underlying l,Result.andThen,d,x4,r]
theorem aV3(H:∀t i,T t=some i->aD P t=some i){o:Oper}{t:TypeId}{x a:Operand}{n m:Nat}{kk:IntKind}{j:Int}{cs:List D}{d:D}{i:TI}(k:o.op= .index t x a)(hx:ρ x= .agg cs)(E:ρ a= .v (.int kk j))(r:T t=some i)(G:i.arr=some (n,false,1))(C:j=(m:Int))(B:m<n)(F:cs[m]?=some d):Yd P o ρ σ d:=by
 subst C;intro w X η h y;obtain⟨dst,L,K,pos,J,g⟩:=o;simp only at k;subst k;have l:=h x (by simp[Op.operands]);rw[hx]at l;have I:=(h a (by simp[Op.operands])).val E;obtain⟨e,q,z⟩:=aK4 (H t i r) G;have f:=qP z w;obtain⟨vs,p,A⟩:=l.agg_inv;obtain⟨u,b,c⟩:=A.get F;refine dC (s:=Instr.index t (η x) (η a)) (u:=u) ?_ (Ex.refl w) c;rw[p,I];simp[Instr.index,Go.part,asIntOf,run_underlying q,Result.andThen,f.1,f.2,B,b]
end
def bx(l:List Nat):ByteArray:=⟨(l.map UInt8.ofNat).toArray⟩
abbrev cW(l:List Nat):D:=.v (.string (bx l))
theorem jT(l:List Nat):(bx l).size=l.length:=by unfold bx;rw[ByteArray.size];simp
theorem aS0{l:List Nat}(h:∀d∈l,d<256):Lib.byteCells (bx l).data.toList=l.map λ(d:Nat)=>Value.int .u8 (d:Int):=by
 unfold bx Lib.byteCells;simp only[vA];refine List.map_congr_left λd a=>?_;have:=h d a;simp[UInt8.toNat_ofNat'];omega
section
variable {P:Program} {σ:af} {ρ:Operand->D}
theorem yj{o:Oper}{s d e:TypeId}{x:Operand}{l:List Nat}(z:o.op= .convert s d x)(hx:ρ x= .sl 1 (l.map λ(b:Nat)=>[D.v (.int .u8 (b:Int))]))(J:∀c∈l,c<256)(G:P.underlying s=some (.slice e))(F:P.underlying e=some (.int .u8))(E:P.underlying d=some .string):Yd P o ρ σ (cW l):=by
 intro w X η m H;obtain⟨dst,Q,O,pos,N,g⟩:=o;simp only at z;subst z;have h:=m x (by simp[Op.operands]);rw[hx]at h;obtain⟨a,p,vs,r,n,R,B,I⟩:=h.sl_inv;rw[zL]at r n;refine dC (s:=convert s d (η x)) (u:=.string (bx l)) ?_ (Ex.refl w) (.v _);rw[r]
 cases l with
 |nil=>
  rw[List.length_nil,run_convert_bytes_string w s d e a 0 p G F E]
  cases a<;>simp[Conv.bytesToString,loadCells,loadCellsFrom,Result.andThen,bx]<;>rfl
 |cons c f=>
  obtain⟨b,k,rfl,_⟩:=B 0 _ rfl;have:=run_convert_bytes_back (P:=P) w s d e ⟨b,k,none⟩ p ((c::f).map UInt8.ofNat) G F E (λj A=>by
   rw[zL]at A;have i:(c::f)[j]?=some (c::f)[j]:=zD A;have t:=J _ (zG i);have y:((c::f).map λ(b:Nat)=>[D.v (.int .u8 (b:Int))])[j]?=some [D.v (.int .u8 (((c::f)[j]:Nat):Int))]:=by rw[qA,i];rfl
   obtain⟨S,q,M,_,_,L⟩:=B j _ y
   cases M
   have C:=L 0 (by omega);have K:=(I j _ y 0 _ rfl).val rfl;rw[x4];simp only[Nat.mul_one,Nat.add_zero]at C;rw[C,K];simp only[List.getElem_map,UInt8.toNat_ofNat'];rw[wO (by simpa using t)])
  rw[zL]at this;exact this
theorem yk{o:Oper}{s d e:TypeId}{x:Operand}{l:List Nat}(u:o.op= .convert s d x)(hx:ρ x=cW l)(B:∀c∈l,c<256)(G:P.underlying s=some .string)(F:P.underlying d=some (.slice e))(E:P.underlying e=some (.int .u8)):Yd P o ρ σ (.sl 1 (l.map λ(b:Nat)=>[D.v (.int .u8 (b:Int))])):=by
 intro w X η f t;obtain⟨dst,J,I,pos,H,g⟩:=o;simp only at u;subst u;have h:=(f x (by simp[Op.operands])).val hx;have n:=run_bytes_of_string (P:=P) w s d e (bx l) G F E;have j:=grownCap_ge w (bx l).size 0 e;generalize grownCap w (bx l).size 0 e=p at *;have k:Ex w (w.drew.alloc (.cells (bytesRow (bx l) p) e ((bytesRow (bx l) p).size,(bytesRow (bx l) p).size+1))):=by
  have:=Ex.refl w;exact Ex.alloc (Ex.drew this)
 refine dC (s:=convert s d (η x)) (by rw[h];exact n) k ?_;have r:∀(q c:Nat),l[q]?=some c->(bytesRow (bx l) p)[q]?=some (.int .u8 (c:Int)):=λq c a=>by
  have i:q<l.length:=(zE.1 a).1;have C:=B c (zG a);unfold bytesRow;rw[vV (by simp[bx];exact i)];simp[bx,a,UInt8.toNat_ofNat'];omega
 have:=Rd.sl (w:=w.drew.alloc (.cells (bytesRow (bx l) p) e ((bytesRow (bx l) p).size,(bytesRow (bx l) p).size+1))) (O:=ay σ X) 1 (l.map λ(b:Nat)=>[D.v (.int .u8 (b:Int))]) (some ⟨w.heap.size,0,none⟩) p (λq _=>(bytesRow (bx l) p).getD q undef) (by rw[zL,←jT];exact j) (λx hx=>by
   obtain⟨c,_,rfl⟩:=xM.1 hx
   rfl) (λq x hx=>⟨w.heap.size,0,rfl,QN t (zT _),by simp,λc C=>by
   obtain rfl:c=0:=by omega
   rw[qA]at hx
   cases a:l[q]? with
   |none=>rw[a]at hx;cases hx
   |some z=>
    have:=r q z a;simp only[xD,Nat.mul_one,Nat.add_zero];have A:=heap_alloc_new w.drew (.cells (bytesRow (bx l) p) e ((bytesRow (bx l) p).size,(bytesRow (bx l) p).size+1));rw[show w.drew.heap.size=w.heap.size from rfl]at A;have m:(w.drew.alloc (.cells (bytesRow (bx l) p) e ((bytesRow (bx l) p).size,(bytesRow (bx l) p).size+1))).cell? ⟨w.heap.size,q,none⟩=(bytesRow (bx l) p)[q]?:=by
     unfold World.cell?;rw[A]
     rfl
    rw[m];simp[this]⟩) (λq x hx c d y=>by
   rw[qA]at hx
   cases a:l[q]? with
   |none=>rw[a]at hx;cases hx
   |some z=>
    rw[a]at hx
    cases hx
    have:=r q z a
    cases c with
    |zero=>
     cases y
     simp only[Array.getD_eq_getD_getElem?,this,Option.getD_some];exact .v _
    |succ c=>cases y)
 rw[zL,←jT]at this;exact this
end
section
variable {P:Program} {w:World} {X:Nat->Prop}
theorem n5{t u ty e:TypeId}{i:TypeInfo}(k:P.underlying t=some (.slice e))(o:P.underlying u=some .string)(m:P.info? e=some i)(z:i.zero=some (.int .u8 0))(h:i.size=1)(y:i.bytes=1){b n c:Nat}{vs:Array Value}{st:ByteArray}(f:w.heap[b]?=some (.cells vs e (0,0)))(r:vs.size=c)(s:n<=c)(x:n+st.size<=1000000000){v:Value}{w':World}
  (a:(Builtin.append_ #[t,u] ty #[.slice (some ⟨b,0,none⟩) n c,.string st]).run P w= .ok v w'):v.ownBlock=some b\/v.ownBlock=some w.heap.size:=by
 have S:Src P i.size u (.string st) st.size (Go.byteCells st) w:=by rw[h];exact Src.ofString w o st
 by_cases hroom:n+st.size<=c
 .have g:=run_append_room_src (P:=P) w t u ty e i k m b 0 n c (.string st) st.size _ S hroom (λj l=>by
   rw[byteCells_length]at l;simp[World.cell?,f];rw[h];omega) (λj l=>Lib.frozen_of_heap f _)
  rw[g]at a
  cases a
  exact .inl rfl
 .have g:=run_append_grow_src (P:=P) w t u ty e i _ k m z (some ⟨b,0,none⟩) n c (vs.toList.take n) (by
   refine run_firstCells_some w.drew i.size n ⟨b,0,none⟩ n c _ (by rw[h,zR,Array.length_toList];omega) (λj q d=>?_);rw[yX]at d;split at d
   .rw[x4];have p:w.drew.heap[b]?=some (.cells vs e (0,0)):=f;unfold World.cell?;rw[p]
    simpa using d
   .cases d) (.string st) st.size _ S (by omega) (by omega) (growslice_fits (by omega) (by rw[y];omega))
  rw[g]at a
  cases a
  exact .inr rfl
theorem kT(l:List Nat):(l.map λ(d:Nat)=>[D.v (.int .u8 (d:Int))]).flatten=l.map λ(d:Nat)=>D.v (.int .u8 (d:Int)):=by
 induction l with
 |nil=>rfl
 |cons d l i=>rw[List.map_cons,List.flatten_cons,i];rfl
theorem Ly{p:Prop}(h:p:=by
 simp only[aQ,List.map_cons,List.map_nil,zN]at ho;subst ho;exact(zX.1 hg).1):p:=h
def zY:=@List.length_replicate
theorem qG{s:af}{t tx ty e:TypeId}{i:TypeInfo}{l:List Nat}{xs:List (List D)}{v:Value}(S:P.underlying t=some (.slice e))(R:P.underlying tx=some .string)(hi:P.info? e=some i)(hz:i.zero=some (.int .u8 0))(f:i.size=1)(hby:i.bytes=1)
  (hr:ae e 1 xs v s) (V:xs≠[]) (L:aU w X s) (hl:∀d∈l,d<256) (hm:xs.length+l.length<=1000000000) :
  ∃v' A s',(Builtin.append_ #[t,tx] ty #[v,.string (bx l)]).run P w= .ok v' A/\ae e 1 (xs++l.map λ(d:Nat)=>[D.v (.int .u8 (d:Int))]) v' s'/\aU A X s'/\Mv w s A s':=by
 obtain⟨b,K,j,rfl,rfl,H,hcap,hj,_⟩:=hr.block V;obtain⟨_,o,g2,vs,rfl,g3⟩:=L.at_ b (.cells e (xs.flatten++j)) (by simp);have n:=E4 hr.len;have F:vs.length=K:=by rw[g3.len,zI,n,hj];omega
 have T:=g3.take (xs.length*1);rw[←n,List.take_left]at T;have hxl:xs.flatten.length=xs.length:=by rw[n,Nat.mul_one]
 have U:w.ownsRow 0 e 1 (.slice (some ⟨b,0,none⟩) xs.length K) xs.length (vs.take xs.flatten.length):=
  ⟨by rw[zR,hxl,F,Nat.mul_one];exact vH H,.inr ⟨b,K,vs.toArray,rfl,zW _,g2,H,hcap,by simpa using F,by simp[n]⟩⟩
 obtain⟨v',A,B,k,c,_⟩:=Lib.run_append_own_string (P:=P) w 0 t tx ty e i S R hi hz f hby _ _ _ U (bx l) (by rw[jT];unfold maxLen;omega) (by rw[jT];omega) (zW _);have hblk:=n5 S R hi hz f hby g2 (by simpa using F) H (by rw[jT];exact hm) B;have a:aW (λb'=>b'∈aQ [(b,aE.cells e (xs.flatten++j))]) w A:=⟨c.os,c.tape,c.output,c.size,λb' hb M=>c.block b' hb (λe=>M (by cases e;simp[aQ]))⟩
 have hcs:Lib.strCells (bx l)=l.map λ(d:Nat)=>Value.int .u8 (d:Int):=aS0 hl;rw[jT]at k;have G:bb w (ay [(b,aE.cells e (xs.flatten++j))] X) (l.map λ(d:Nat)=>[D.v (.int .u8 (d:Int))]).flatten (Lib.strCells (bx l)):=by
  rw[hcs];have e1:=kT l;rw[e1];refine⟨by simp,λq d u h1 h2=>?_⟩;rw[qA]at h1 h2
  cases hq:l[q]? with
  |none=>rw[hq]at h1;cases h1
  |some z=>rw[hq]at h1 h2;cases h1;cases h2;exact .v _
 rcases k.2 with⟨_,h0⟩|⟨g,cap',r,rfl,_,hg,C,J,Z,htk⟩
 .exfalso;have:0<xs.length:=xS.2 V;omega
 .have I:g=b\/g=w.heap.size:=by
   rcases hblk with h|h
   .cases h;exact .inl rfl
   .cases h;exact .inr rfl
  have hbl:b<w.heap.size:=(zX.1 g2).1;generalize Q:(l.map λ(d:Nat)=>[D.v (.int .u8 (d:Int))])=N at *;have m:N.length=l.length:=by rw[←Q,zL]
  have O:∀y∈N,y.length=1:=λy hy=>by
   rw[←Q]at hy;obtain⟨d,_,rfl⟩:=xM.1 hy
   rfl
  have W:∀y∈xs++N,y.length=1:=λy hy=>by
   rcases zO.1 hy with h|h
   .exact hr.len y h
   .exact O y h
  have Y:=E4 W;rw[zI,m]at Y;have hXb:¬X g:=by
   rcases I with h|h
   .subst h;exact(L.at_ g (.cells e (xs.flatten++j)) (by simp)).1
   .intro hx;have:=L.xlt g hx;omega
  have hO:∀x,x<w.heap.size->¬ay [(b,aE.cells e (xs.flatten++j))] X x->¬ay [(g,aE.cells e ((xs++N).flatten++List.replicate (r.toList.drop ((xs.length+l.length)*1)).length .any))] X x:=by
   intro x hx M ho;rcases ho with ho|ho
   .exact M (.inl ho)
   .simp only[aQ,List.map_cons,List.map_nil,zN]at ho;subst ho;rcases I with h|h
    .subst h;exact M (.inr (by simp[aQ]))
    .omega
  have hS:∀x,x<w.heap.size->¬ay [(b,aE.cells e (xs.flatten++j))] X x->A.heap[x]?=w.heap[x]?:=λx hx M=>a.block x hx (λhm=>M (.inr hm));refine⟨_,A,[(g,.cells e ((xs++N).flatten++List.replicate (r.toList.drop ((xs.length+l.length)*1)).length .any))],B,⟨W,.inr ⟨g,cap',_,by rw[zI,m],rfl,by rw[zI,m];exact C,J,?_,λd hd=>(List.mem_replicate.1 hd).2⟩⟩,⟨by simp[aQ],?_,λb hb=>yI (L.xlt b hb) a.size,?_⟩,⟨a,?_⟩⟩
  .simp only[zI,m,zY,List.length_drop,Array.length_toList,Z];have:=xZ 1 C;omega
  .intro b' kk hbk;simp only[zN,vY]at hbk;obtain⟨rfl,rfl⟩:=hbk;refine⟨hXb,_,hg,r.toList,by simp,?_⟩;have E:=((T.append G).keep a.size hO hS).append (kC (w:=A) (r.toList.drop ((xs.length+l.length)*1)));rw[←vW,←htk,vF]at E;exact E
  .refine L.gok.keep a.size hO hS ?_;intro x ho;rcases ho with ho|ho
   .exact yI (L.xlt x ho) a.size
   .exact Ly
  .intro b' hb';simp only[aQ,List.map_cons,List.map_nil,zN]at hb';subst hb';rcases I with h|h
   .subst h;exact .inl (by simp[aQ])
   .exact .inr (by omega)
end
section
variable {P:Program} {r:Option Nat} {n:Nat} {df:Nat} {N:Nat} {σ:af} {a:List D} {f:aM} {T:TypeId->Option TI} {L:List Oper} {Q:gJ} {ρ:Operand->D}
theorem Xl{p:Prop}(h:p:=by
 simp only[execOp,ho,resolve,invoke,builtin,Sem.run_bind,Sem.run_pure,Result.andThen,vD,List.map_cons,List.map_nil,hpv,hxv,g1]):p:=h
theorem ci.apstr{o:Oper}{p x:Operand}{t E e:TypeId}{i:TypeInfo}{l:List Nat}{xs:List (List D)}{v:Value}{s τ:af}{K:aM->af->Prop}
  (ho:o.op= .call { callee:=.builtin .append,args:=#[p,x],argTypes:=#[t,E] }) (V:aK f p= .v v) (hx:aK f x=cW l) (u:P.underlying t=some (.slice e)) (q:P.underlying E=some .string) (hi:P.info? e=some i) (S:i.zero=some (.int .u8 0)) (g:i.size=1) (A:i.bytes=1)
  (U:ae e 1 xs v s) (z:xs≠[]) (m:σ.Perm (s++τ)) (Z:∀d∈l,d<256) (Y:xs.length+l.length<=1000000000)
  (R:∀j k,ae e 1 (xs++l.map λ(d:Nat)=>[D.v (.int .u8 (d:Int))]) j k->W (aR N o.dst (.v j) f (λJ=>K J (k++τ)))):ci P r n df L N o f σ K:=by
 refine⟨λF Q a c T hk=>?_⟩;refine Ji m ?_;refine oM T (by rw[ho];rfl) λw X I b=>?_;have hpv:=c.le p _ _ _ (b.fr.eval p);rw[V]at hpv;have hpv:=hpv.val rfl;have hxv:=c.le x _ _ _ (b.fr.eval x);rw[hx]at hxv;have hxv:=hxv.val rfl;obtain⟨j,C,k,g1,g2,g3,B⟩:=qG (ty:=o.type) u q hi S g A U z b.st.left Z Y;have ee:(execOp I.eval o).run P w= .ok (.value j) C:=Xl;rw[ee];obtain⟨O,M,H,G⟩:=stays b.st g3 B;obtain⟨J,y,h4⟩:=fE (R j k g2).h c;exact⟨_,_,M,(⟨b.fr.keep B.keep.size H G,O,b.df.keep B.keep.size H G⟩:St C X df a (k++τ) I).put (.v _) o.dst,hk _ _ _ h4 y⟩
end
end
section
open Go
abbrev TO:=Option TI
theorem Pb{t n:Nat}(h:¬t<n):Nat.blt t n=false:=by
 rw[Bool.eq_false_iff];intro b;rw[wT]at b;exact h b
def gz:TO:=some ⟨false,1,[],none,none,[],false⟩
def aS:TO:=some ⟨false,1,[],none,none,[.fn],false⟩
def tt2:TO:=some ⟨false,1,[],none,none,[.int .i64],false⟩
def tt3:TO:=some ⟨false,1,[],none,none,[.bool],false⟩
def ZP:TO:=some ⟨false,1,[],none,none,[.int .u8],false⟩
def tt5:TO:=some ⟨true,4,[(0,false,1),(1,false,1),(2,false,1),(3,false,1)],none,none,[.int .i64,.int .i64,.bool,.int .u8],false⟩
def tt6:TO:=some ⟨false,1,[],none,none,[.str],true⟩
def tt7:TO:=some ⟨false,1,[],none,none,[.int .u64],false⟩
def tt8:TO:=some ⟨true,2,[(0,false,1),(1,false,1)],none,none,[.str,.int .u64],false⟩
def Qe:TO:=some ⟨false,1,[],none,none,[.ptr],false⟩
def RA:TO:=some ⟨true,1,[(0,false,1)],none,none,[.ptr],false⟩
def zj:TO:=some ⟨false,1,[],none,none,[.ifc],false⟩
def MW:TO:=some ⟨false,1,[],none,none,[.int .i32],false⟩
def bm6:TO:=some ⟨false,1,[],some (3,false,1,8),none,[.sl],false⟩
def bm5:TO:=some ⟨false,1,[],some (78,true,4,56),none,[.sl],false⟩
def bm4:TO:=some ⟨false,1,[],some (93,true,3,64),none,[.sl],false⟩
def bm3:TO:=some ⟨false,1,[],some (96,true,5,72),none,[.sl],false⟩
def Rz:TO:=some ⟨true,4,[(0,false,1),(1,false,1),(2,false,1),(3,false,1)],none,none,[.int .i64,.sl,.sl,.sl],false⟩
def bm2:TO:=some ⟨false,1,[],some (150,true,5,56),none,[.sl],false⟩
def F6:TO:=some ⟨true,3,[(0,false,1),(1,false,1),(2,false,1)],none,none,[.str,.sl,.sl],false⟩
def Ry:TO:=some ⟨false,1,[],some (70,false,1,24),none,[.sl],false⟩
def bm1:TO:=some ⟨false,1,[],some (33,false,1,24),none,[.sl],false⟩
def bm0:TO:=some ⟨false,1,[],some (27,true,4,80),none,[.sl],false⟩
def bl9:TO:=some ⟨false,1,[],some (107,true,4,32),none,[.sl],false⟩
def bl8:TO:=some ⟨false,1,[],some (108,true,4,32),none,[.sl],false⟩
def bl7:TO:=some ⟨true,3,[],none,some (3,false,1),[.int .i64,.int .i64,.int .i64],false⟩
def bl6:TO:=some ⟨false,1,[],some (83,true,4,32),none,[.sl],false⟩
def bl5:TO:=some ⟨false,1,[],some (50,false,1,24),none,[.sl],false⟩
def MV:TO:=some ⟨true,3,[(0,false,1),(1,false,1),(2,false,1)],none,none,[.bool,.int .i64,.int .i64],false⟩
def Rx:TO:=some ⟨false,1,[],some (136,true,4,32),none,[.sl],false⟩
def Rv:TO:=some ⟨true,1,[(0,false,1)],none,none,[.sl],false⟩
def bl4:TO:=some ⟨false,1,[],some (49,true,3,24),none,[.sl],false⟩
def bl3:TO:=some ⟨false,1,[],some (22,false,1,24),none,[.sl],false⟩
def bl2:TO:=some ⟨false,1,[],some (81,true,8,120),none,[.sl],false⟩
def Rr:TO:=some ⟨true,4,[(0,false,1),(1,false,1),(2,false,1),(3,false,1)],none,none,[.str,.int .i64,.int .i64,.sl],false⟩
def bl1:TO:=some ⟨false,1,[],some (9,false,1,16),none,[.sl],false⟩
def Rq:TO:=some ⟨true,8,[(0,false,1),(1,false,1),(2,false,1),(3,false,1),(4,false,1),(5,false,1),(6,false,1),(7,false,1)],none,none,[.str,.str,.str,.int .i64,.int .i64,.int .i64,.sl,.sl],false⟩
def l1:TO:=some ⟨true,4,[(0,false,1),(1,false,1),(2,false,1),(3,false,1)],none,none,[.int .i64,.int .i64,.int .i64,.int .i64],false⟩
def Rp:TO:=some ⟨true,2,[(0,false,1),(1,false,1)],none,none,[.sl,.int .i64],false⟩
def bl0:TO:=some ⟨false,1,[],some (94,true,2,16),none,[.sl],false⟩
def bk9:TO:=some ⟨true,2,[],none,some (2,false,1),[.int .i64,.int .i64],false⟩
def bk8:TO:=some ⟨true,5,[(0,false,1),(1,false,1),(2,false,1),(3,false,1),(4,false,1)],none,none,[.str,.str,.str,.str,.int .i64],false⟩
def F5:TO:=some ⟨false,1,[],none,none,[.map],false⟩
def bk7:TO:=some ⟨false,1,[],some (124,true,3,24),none,[.sl],false⟩
def Rn:TO:=some ⟨true,9,[(0,true,4),(4,false,1),(5,false,1),(6,false,1),(7,false,1),(8,false,1)],none,none,[.int .i64,.sl,.sl,.sl,.sl,.sl,.map,.map,.sl],false⟩
def F0:TO:=some ⟨true,3,[(0,false,1),(1,false,1),(2,false,1)],none,none,[.int .i64,.int .i64,.int .i64],false⟩
def bk6:TO:=some ⟨false,1,[],some (128,true,4,32),none,[.sl],false⟩
def zi:TO:=some ⟨true,2,[(0,false,1),(1,false,1)],none,none,[.int .i64,.int .i64],false⟩
def bk5:TO:=some ⟨false,1,[],some (5,false,1,1),none,[.sl],false⟩
def Rm:TO:=some ⟨true,5,[(0,false,1),(1,false,1),(2,false,1),(3,false,1),(4,false,1)],none,none,[.str,.str,.int .i64,.int .i64,.int .i64],false⟩
def bk4:TO:=some ⟨false,1,[],some (156,true,4,32),none,[.sl],false⟩
def bk3:TO:=some ⟨false,1,[],some (57,false,1,8),none,[.sl],false⟩
def bk2:TO:=some ⟨false,1,[],some (4,false,1,1),none,[.sl],false⟩
def bk1:TO:=some ⟨false,1,[],some (250,true,4,32),none,[.sl],false⟩
def bk0:TO:=some ⟨false,1,[],some (255,true,3,24),none,[.sl],false⟩
def Rl:TO:=some ⟨true,2,[(0,false,1),(1,false,1)],none,none,[.bool,.int .i64],false⟩
def bj9:TO:=some ⟨true,1,[(0,false,1)],none,none,[.fn],false⟩
def Rk:TO:=some ⟨true,14,[(0,true,4),(4,false,1),(5,false,1),(6,true,8)],none,none,[.int .i64,.sl,.sl,.sl,.int .i64,.int .i64,.str,.str,.str,.int .i64,.int .i64,.int .i64,.sl,.sl],false⟩
def Rj:TO:=some ⟨true,12,[],none,some (12,false,1),[.bool,.bool,.bool,.bool,.bool,.bool,.bool,.bool,.bool,.bool,.bool,.bool],false⟩
def bj8:TO:=some ⟨true,8,[],none,some (8,false,1),[.int .i64,.int .i64,.int .i64,.int .i64,.int .i64,.int .i64,.int .i64,.int .i64],false⟩
def Ri:TO:=some ⟨true,4,[(0,false,1),(1,false,1),(2,false,1),(3,false,1)],none,none,[.int .i64,.int .i64,.int .i64,.bool],false⟩
def FZ:TO:=some ⟨true,6,[(0,false,1),(1,false,1),(2,false,1),(3,false,1),(4,false,1),(5,false,1)],none,none,[.str,.sl,.int .i64,.int .i64,.int .i64,.int .i64],false⟩
def bj7:TO:=some ⟨false,1,[],some (211,true,2,16),none,[.sl],false⟩
def bj6:TO:=some ⟨true,4,[(0,false,1),(1,true,3)],none,none,[.str,.int .i64,.int .i64,.int .i64],false⟩
def bj5:TO:=some ⟨true,36,[],none,some (9,true,4),[.str,.int .i64,.int .i64,.int .i64,.str,.int .i64,.int .i64,.int .i64,.str,.int .i64,.int .i64,.int .i64,.str,.int .i64,.int .i64,.int .i64,.str,.int .i64,.int .i64,.int .i64,.str,.int .i64,.int .i64,.int .i64,.str,.int .i64,.int .i64,.int .i64,.str,.int .i64,.int .i64,.int .i64,.str,.int .i64,.int .i64,.int .i64],false⟩
def bj4:TO:=some ⟨true,2,[(0,false,1),(1,false,1)],none,none,[.ptr,.sl],false⟩
def bj3:TO:=some ⟨false,1,[],some (20,false,1,16),none,[.sl],false⟩
def bj2:TO:=some ⟨true,9,[],none,some (9,false,1),[.str,.str,.str,.str,.str,.str,.str,.str,.str],false⟩
def bj1:TO:=some ⟨true,16,[],none,some (16,false,1),[.int .u8,.int .u8,.int .u8,.int .u8,.int .u8,.int .u8,.int .u8,.int .u8,.int .u8,.int .u8,.int .u8,.int .u8,.int .u8,.int .u8,.int .u8,.int .u8],false⟩
def bj0:TO:=some ⟨true,32,[],none,some (32,false,1),[.int .u8,.int .u8,.int .u8,.int .u8,.int .u8,.int .u8,.int .u8,.int .u8,.int .u8,.int .u8,.int .u8,.int .u8,.int .u8,.int .u8,.int .u8,.int .u8,.int .u8,.int .u8,.int .u8,.int .u8,.int .u8,.int .u8,.int .u8,.int .u8,.int .u8,.int .u8,.int .u8,.int .u8,.int .u8,.int .u8,.int .u8,.int .u8],false⟩
def bi9:TO:=some ⟨true,24,[],none,some (24,false,1),[.int .u8,.int .u8,.int .u8,.int .u8,.int .u8,.int .u8,.int .u8,.int .u8,.int .u8,.int .u8,.int .u8,.int .u8,.int .u8,.int .u8,.int .u8,.int .u8,.int .u8,.int .u8,.int .u8,.int .u8,.int .u8,.int .u8,.int .u8,.int .u8],false⟩
def bi8:TO:=some ⟨false,1,[],none,none,[.int .u32],false⟩
def bi7:TO:=some ⟨true,8,[],none,some (8,false,1),[.int .u32,.int .u32,.int .u32,.int .u32,.int .u32,.int .u32,.int .u32,.int .u32],false⟩
def bi6:TO:=some ⟨true,64,[],none,some (64,false,1),[.int .u32,.int .u32,.int .u32,.int .u32,.int .u32,.int .u32,.int .u32,.int .u32,.int .u32,.int .u32,.int .u32,.int .u32,.int .u32,.int .u32,.int .u32,.int .u32,.int .u32,.int .u32,.int .u32,.int .u32,.int .u32,.int .u32,.int .u32,.int .u32,.int .u32,.int .u32,.int .u32,.int .u32,.int .u32,.int .u32,.int .u32,.int .u32,.int .u32,.int .u32,.int .u32,.int .u32,.int .u32,.int .u32,.int .u32,.int .u32,.int .u32,.int .u32,.int .u32,.int .u32,.int .u32,.int .u32,.int .u32,.int .u32,.int .u32,.int .u32,.int .u32,.int .u32,.int .u32,.int .u32,.int .u32,.int .u32,.int .u32,.int .u32,.int .u32,.int .u32,.int .u32,.int .u32,.int .u32,.int .u32],false⟩
def bi5:TO:=some ⟨true,20,[],none,some (20,false,1),[.int .u64,.int .u64,.int .u64,.int .u64,.int .u64,.int .u64,.int .u64,.int .u64,.int .u64,.int .u64,.int .u64,.int .u64,.int .u64,.int .u64,.int .u64,.int .u64,.int .u64,.int .u64,.int .u64,.int .u64],false⟩
def bi4:TO:=some ⟨true,65,[],none,some (65,false,1),[.int .u8,.int .u8,.int .u8,.int .u8,.int .u8,.int .u8,.int .u8,.int .u8,.int .u8,.int .u8,.int .u8,.int .u8,.int .u8,.int .u8,.int .u8,.int .u8,.int .u8,.int .u8,.int .u8,.int .u8,.int .u8,.int .u8,.int .u8,.int .u8,.int .u8,.int .u8,.int .u8,.int .u8,.int .u8,.int .u8,.int .u8,.int .u8,.int .u8,.int .u8,.int .u8,.int .u8,.int .u8,.int .u8,.int .u8,.int .u8,.int .u8,.int .u8,.int .u8,.int .u8,.int .u8,.int .u8,.int .u8,.int .u8,.int .u8,.int .u8,.int .u8,.int .u8,.int .u8,.int .u8,.int .u8,.int .u8,.int .u8,.int .u8,.int .u8,.int .u8,.int .u8,.int .u8,.int .u8,.int .u8,.int .u8],false⟩
def bi3:TO:=some ⟨true,64,[],none,some (64,false,1),[.int .u8,.int .u8,.int .u8,.int .u8,.int .u8,.int .u8,.int .u8,.int .u8,.int .u8,.int .u8,.int .u8,.int .u8,.int .u8,.int .u8,.int .u8,.int .u8,.int .u8,.int .u8,.int .u8,.int .u8,.int .u8,.int .u8,.int .u8,.int .u8,.int .u8,.int .u8,.int .u8,.int .u8,.int .u8,.int .u8,.int .u8,.int .u8,.int .u8,.int .u8,.int .u8,.int .u8,.int .u8,.int .u8,.int .u8,.int .u8,.int .u8,.int .u8,.int .u8,.int .u8,.int .u8,.int .u8,.int .u8,.int .u8,.int .u8,.int .u8,.int .u8,.int .u8,.int .u8,.int .u8,.int .u8,.int .u8,.int .u8,.int .u8,.int .u8,.int .u8,.int .u8,.int .u8,.int .u8,.int .u8],false⟩
def Rh:TO:=some ⟨true,4,[(0,false,1),(1,false,1),(2,false,1),(3,false,1)],none,none,[.ptr,.ptr,.ptr,.str],false⟩
def bi2:TO:=some ⟨true,0,[],none,some (0,false,1),[],false⟩
def Q9:TO:=some ⟨true,0,[(0,true,0)],none,none,[],false⟩
def Q8:TO:=some ⟨true,11,[(0,false,1),(1,false,1),(2,false,1),(3,false,1),(4,false,1),(5,false,1),(6,false,1),(7,false,1),(8,false,1),(9,false,1),(10,false,1)],none,none,[.int .u64,.int .u64,.int .u32,.int .u8,.int .u8,.int .u8,.int .u8,.fn,.ptr,.int .i32,.int .i32],false⟩
def zr(t:Nat):TO:=bif Nat.blt t 399 then(bif Nat.blt t 199 then(bif Nat.blt t 99 then(bif Nat.blt t 49 then(bif Nat.blt t 24 then(bif Nat.blt t 12 then(bif Nat.blt t 6 then(bif Nat.blt t 3 then(bif Nat.blt t 1 then(gz)else(bif Nat.blt t 2 then(aS)else(tt2)))else(bif Nat.blt t 4 then(tt2)else(bif Nat.blt t 5 then(tt3)else(ZP))))else(bif Nat.blt t 9 then(bif Nat.blt t 7 then(ZP)else(tt5))else(tt6)))else(bif Nat.blt t 18 then(bif Nat.blt t 15 then(bif Nat.blt t 13 then(tt7)else(tt8))else(Qe))else(bif Nat.blt t 21 then(bif Nat.blt t 19 then(RA)else(bif Nat.blt t 20 then(RA)else(zj)))else(bif Nat.blt t 22 then(MW)else(bif Nat.blt t 23 then(bm6)else(bm5))))))else(bif Nat.blt t 36 then(bif Nat.blt t 30 then(bif Nat.blt t 27 then(bif Nat.blt t 25 then(bm4)else(bif Nat.blt t 26 then(bm3)else(Rz)))else(bif Nat.blt t 28 then(Rz)else(bif Nat.blt t 29 then(aS)else(bm2))))else(bif Nat.blt t 33 then(bif Nat.blt t 31 then(F6)else(bif Nat.blt t 32 then(F6)else(Ry)))else(bif Nat.blt t 34 then(Ry)else(bif Nat.blt t 35 then(gz)else(aS)))))else(bif Nat.blt t 42 then(bif Nat.blt t 39 then(bif Nat.blt t 37 then(aS)else(bif Nat.blt t 38 then(aS)else(bm1)))else(bif Nat.blt t 40 then(aS)else(bif Nat.blt t 41 then(bm0)else(aS))))else(bif Nat.blt t 45 then(bif Nat.blt t 43 then(bl9)else(bif Nat.blt t 44 then(aS)else(bl8)))else(aS)))))else(bif Nat.blt t 74 then(bif Nat.blt t 61 then(bif Nat.blt t 55 then(bif Nat.blt t 52 then(bif Nat.blt t 50 then(bl7)else(bif Nat.blt t 51 then(bl6)else(aS)))else(bif Nat.blt t 53 then(aS)else(bif Nat.blt t 54 then(bl5)else(aS))))else(bif Nat.blt t 58 then(bif Nat.blt t 56 then(MV)else(bif Nat.blt t 57 then(MV)else(tt2)))else(bif Nat.blt t 59 then(gz)else(bif Nat.blt t 60 then(aS)else(Rx)))))else(bif Nat.blt t 67 then(bif Nat.blt t 64 then(bif Nat.blt t 62 then(Rx)else(bif Nat.blt t 63 then(aS)else(MV)))else(bif Nat.blt t 65 then(gz)else(aS)))else(bif Nat.blt t 70 then(bif Nat.blt t 68 then(Rv)else(bif Nat.blt t 69 then(Rv)else(bl4)))else(bif Nat.blt t 72 then(bif Nat.blt t 71 then(bl3)else(aS))else(aS)))))else(bif Nat.blt t 86 then(bif Nat.blt t 80 then(bif Nat.blt t 77 then(bif Nat.blt t 75 then(aS)else(bif Nat.blt t 76 then(aS)else(bl2)))else(bif Nat.blt t 78 then(Rr)else(bif Nat.blt t 79 then(Rr)else(bl1))))else(bif Nat.blt t 83 then(bif Nat.blt t 81 then(Rq)else(bif Nat.blt t 82 then(Rq)else(l1)))else(bif Nat.blt t 84 then(l1)else(aS))))else(bif Nat.blt t 92 then(bif Nat.blt t 89 then(bif Nat.blt t 87 then(aS)else(bif Nat.blt t 88 then(Qe)else(Rp)))else(bif Nat.blt t 90 then(Rp)else(bif Nat.blt t 91 then(aS)else(bl0))))else(bif Nat.blt t 95 then(bif Nat.blt t 93 then(F6)else(bif Nat.blt t 94 then(F6)else(bk9)))else(bif Nat.blt t 97 then(bk8)else(bif Nat.blt t 98 then(gz)else(aS))))))))else(bif Nat.blt t 149 then(bif Nat.blt t 124 then(bif Nat.blt t 111 then(bif Nat.blt t 105 then(bif Nat.blt t 102 then(bif Nat.blt t 100 then(gz)else(aS))else(bif Nat.blt t 103 then(gz)else(aS)))else(bif Nat.blt t 108 then(bif Nat.blt t 106 then(aS)else(l1))else(bif Nat.blt t 109 then(l1)else(bif Nat.blt t 110 then(Qe)else(gz)))))else(bif Nat.blt t 117 then(bif Nat.blt t 114 then(aS)else(bif Nat.blt t 115 then(F5)else(aS)))else(bif Nat.blt t 120 then(bif Nat.blt t 118 then(aS)else(bif Nat.blt t 119 then(bk7)else(F5)))else(bif Nat.blt t 122 then(bif Nat.blt t 121 then(F5)else(Rn))else(bif Nat.blt t 123 then(Rn)else(F0))))))else(bif Nat.blt t 136 then(bif Nat.blt t 130 then(bif Nat.blt t 127 then(bif Nat.blt t 125 then(F0)else(bif Nat.blt t 126 then(bk6)else(aS)))else(bif Nat.blt t 128 then(l1)else(bif Nat.blt t 129 then(l1)else(aS))))else(aS))else(bif Nat.blt t 142 then(bif Nat.blt t 139 then(bif Nat.blt t 137 then(l1)else(bif Nat.blt t 138 then(aS)else(zi)))else(bif Nat.blt t 140 then(zi)else(bif Nat.blt t 141 then(gz)else(aS))))else(bif Nat.blt t 145 then(aS)else(bif Nat.blt t 147 then(bif Nat.blt t 146 then(gz)else(aS))else(bif Nat.blt t 148 then(bk5)else(aS)))))))else(bif Nat.blt t 174 then(bif Nat.blt t 161 then(bif Nat.blt t 155 then(bif Nat.blt t 152 then(bif Nat.blt t 150 then(Rm)else(bif Nat.blt t 151 then(Rm)else(aS)))else(bif Nat.blt t 153 then(aS)else(bif Nat.blt t 154 then(aS)else(bk4))))else(bif Nat.blt t 158 then(bif Nat.blt t 156 then(aS)else(bif Nat.blt t 157 then(l1)else(aS)))else(aS)))else(bif Nat.blt t 167 then(bif Nat.blt t 164 then(aS)else(bif Nat.blt t 165 then(bk3)else(bif Nat.blt t 166 then(aS)else(bk2))))else(bif Nat.blt t 170 then(aS)else(bif Nat.blt t 172 then(bif Nat.blt t 171 then(gz)else(aS))else(aS)))))else(bif Nat.blt t 186 then(bif Nat.blt t 180 then(aS)else(bif Nat.blt t 183 then(aS)else(bif Nat.blt t 184 then(zj)else(bif Nat.blt t 185 then(zj)else(zi)))))else(bif Nat.blt t 192 then(bif Nat.blt t 189 then(bif Nat.blt t 187 then(gz)else(aS))else(bif Nat.blt t 190 then(aS)else(bif Nat.blt t 191 then(gz)else(aS))))else(bif Nat.blt t 195 then(bif Nat.blt t 193 then(bk1)else(bif Nat.blt t 194 then(gz)else(aS)))else(aS)))))))else(bif Nat.blt t 299 then(bif Nat.blt t 249 then(bif Nat.blt t 224 then(bif Nat.blt t 211 then(bif Nat.blt t 205 then(bif Nat.blt t 202 then(bif Nat.blt t 200 then(aS)else(bif Nat.blt t 201 then(aS)else(gz)))else(bif Nat.blt t 203 then(aS)else(bif Nat.blt t 204 then(bk0)else(aS))))else(bif Nat.blt t 208 then(aS)else(bif Nat.blt t 209 then(aS)else(bif Nat.blt t 210 then(aS)else(Rl)))))else(bif Nat.blt t 217 then(bif Nat.blt t 214 then(bif Nat.blt t 212 then(Rl)else(bif Nat.blt t 213 then(aS)else(bj9)))else(bif Nat.blt t 215 then(gz)else(bif Nat.blt t 216 then(F5)else(Rk))))else(bif Nat.blt t 220 then(bif Nat.blt t 218 then(Rk)else(bif Nat.blt t 219 then(gz)else(aS)))else(aS))))else(bif Nat.blt t 236 then(bif Nat.blt t 230 then(bif Nat.blt t 227 then(bif Nat.blt t 225 then(aS)else(bif Nat.blt t 226 then(aS)else(Rj)))else(bif Nat.blt t 228 then(Rj)else(aS)))else(bif Nat.blt t 233 then(aS)else(bif Nat.blt t 234 then(aS)else(bif Nat.blt t 235 then(aS)else(gz)))))else(bif Nat.blt t 242 then(aS)else(bif Nat.blt t 245 then(bif Nat.blt t 243 then(aS)else(bif Nat.blt t 244 then(bj8)else(aS)))else(aS)))))else(bif Nat.blt t 274 then(bif Nat.blt t 261 then(bif Nat.blt t 255 then(bif Nat.blt t 252 then(bif Nat.blt t 250 then(Ri)else(bif Nat.blt t 251 then(Ri)else(aS)))else(bif Nat.blt t 253 then(aS)else(bif Nat.blt t 254 then(aS)else(F0))))else(bif Nat.blt t 258 then(bif Nat.blt t 256 then(F0)else(bif Nat.blt t 257 then(gz)else(aS)))else(bif Nat.blt t 259 then(gz)else(bif Nat.blt t 260 then(aS)else(FZ)))))else(bif Nat.blt t 267 then(bif Nat.blt t 264 then(bif Nat.blt t 262 then(FZ)else(aS))else(bif Nat.blt t 265 then(aS)else(bif Nat.blt t 266 then(aS)else(FZ))))else(bif Nat.blt t 270 then(bif Nat.blt t 268 then(FZ)else(aS))else(bif Nat.blt t 272 then(aS)else(bif Nat.blt t 273 then(bj7)else(aS))))))else(bif Nat.blt t 286 then(bif Nat.blt t 280 then(aS)else(bif Nat.blt t 283 then(bif Nat.blt t 281 then(aS)else(bif Nat.blt t 282 then(aS)else(gz)))else(bif Nat.blt t 284 then(aS)else(bif Nat.blt t 285 then(aS)else(bj6)))))else(bif Nat.blt t 292 then(bif Nat.blt t 289 then(bif Nat.blt t 287 then(bj5)else(aS))else(aS))else(aS)))))else(bif Nat.blt t 349 then(bif Nat.blt t 324 then(bif Nat.blt t 311 then(bif Nat.blt t 305 then(bif Nat.blt t 302 then(bif Nat.blt t 300 then(gz)else(bif Nat.blt t 301 then(aS)else(zi)))else(bif Nat.blt t 303 then(zi)else(aS)))else(aS))else(bif Nat.blt t 317 then(bif Nat.blt t 314 then(aS)else(bif Nat.blt t 315 then(Qe)else(bj4)))else(bif Nat.blt t 320 then(bif Nat.blt t 318 then(zj)else(bif Nat.blt t 319 then(zj)else(gz)))else(bif Nat.blt t 322 then(aS)else(bif Nat.blt t 323 then(bj3)else(aS))))))else(bif Nat.blt t 336 then(bif Nat.blt t 330 then(bif Nat.blt t 327 then(aS)else(bif Nat.blt t 328 then(gz)else(aS)))else(aS))else(bif Nat.blt t 342 then(bif Nat.blt t 339 then(bif Nat.blt t 337 then(gz)else(aS))else(aS))else(bif Nat.blt t 345 then(aS)else(bif Nat.blt t 347 then(bif Nat.blt t 346 then(aS)else(bj2))else(bif Nat.blt t 348 then(aS)else(Qe)))))))else(bif Nat.blt t 374 then(bif Nat.blt t 361 then(bif Nat.blt t 355 then(bif Nat.blt t 352 then(bif Nat.blt t 350 then(aS)else(bj1))else(aS))else(bif Nat.blt t 358 then(bif Nat.blt t 356 then(aS)else(bif Nat.blt t 357 then(aS)else(Qe)))else(aS)))else(bif Nat.blt t 367 then(bif Nat.blt t 364 then(bif Nat.blt t 362 then(aS)else(bif Nat.blt t 363 then(aS)else(bj0)))else(bif Nat.blt t 365 then(aS)else(bif Nat.blt t 366 then(aS)else(bi9))))else(bif Nat.blt t 370 then(bif Nat.blt t 368 then(tt7)else(aS))else(bif Nat.blt t 372 then(bif Nat.blt t 371 then(gz)else(aS))else(bif Nat.blt t 373 then(bi8)else(bi7))))))else(bif Nat.blt t 386 then(bif Nat.blt t 380 then(bif Nat.blt t 377 then(bif Nat.blt t 375 then(aS)else(bif Nat.blt t 376 then(bi6)else(aS)))else(bif Nat.blt t 378 then(aS)else(bif Nat.blt t 379 then(aS)else(bi5))))else(bif Nat.blt t 383 then(bif Nat.blt t 381 then(bi4)else(bif Nat.blt t 382 then(tt7)else(aS)))else(bif Nat.blt t 384 then(aS)else(bif Nat.blt t 385 then(bi3)else(Rh)))))else(bif Nat.blt t 392 then(bif Nat.blt t 389 then(bif Nat.blt t 387 then(Rh)else(bif Nat.blt t 388 then(bi2)else(Q9)))else(bif Nat.blt t 390 then(Q9)else(bif Nat.blt t 391 then(aS)else(ZP))))else(bif Nat.blt t 395 then(bif Nat.blt t 393 then(ZP)else(bif Nat.blt t 394 then(aS)else(MW)))else(bif Nat.blt t 397 then(bif Nat.blt t 396 then(MW)else(Q8))else(bif Nat.blt t 398 then(Q8)else(aS))))))))))else none
theorem Gf:((List.range 399).all λt=>decide (aD prog t=zr t))=true:=by kernel_rfl
theorem ai(t:TypeId)(i:TI)(h:zr t=some i):aD prog t=some i:=by
 by_cases ht:t<399
 .have:=yA.1 Gf t (xT.2 ht);rw[wY this];exact h
 .unfold zr at h;rw[Pb ht]at h
  cases h
theorem mixed:prog.follows .mixedOrders=true:=by kernel_rfl
end
section
open Go
abbrev iD(n:Int):D:=.v (.int .i64 n)
abbrev bD(b:Bool):D:=.v (.bool b)
abbrev sD(s:ByteArray):D:=.v (.string s)
def bi(xs:List Int):D:=.sl 1 (xs.map λx=>[iD x])
def gA(xs:List ByteArray):D:=.sl 1 (xs.map λx=>[sD x])
def aH(f:am):List D:=[sD f.name,sD f.of,sD f.up,iD f.kind,iD f.lo,iD f.hi,gA f.words,bi f.wz]
def xn(xs:List am):D:=.sl 8 (xs.map aH)
def bv(k:au):List D:=[sD k.name,iD k.lo,iD k.hi,xn k.fields]
def Nb(xs:List au):D:=.sl 4 (xs.map bv)
def dt(m:Int×Int):List D:=[iD m.1,iD m.2]
def dT(x:bW):List D:=[sD x.name,gA x.tz,.sl 2 (x.mz.map dt)]
def EX(xs:List bW):D:=.sl 3 (xs.map dT)
def dG(x:cF):List D:=[sD x.name,sD x.kind,sD x.a,sD x.b,iD x.n]
def M'(xs:List cF):D:=.sl 5 (xs.map dG)
def uh(x:ak):List D:=[iD x.vz,Nb x.kz,EX x.lz,M' x.rules]
abbrev ax(x:ak):D:=.agg (uh x)
abbrev fz(x:au):D:=.agg (bv x)
abbrev bM(x:am):D:=.agg (aH x)
abbrev dj(x:bW):D:=.agg (dT x)
abbrev eH(x:cF):D:=.agg (dG x)
end
section
open Go Go.RowKit Go.Shelf
section
variable {β:Type} {g:β->D}
abbrev g8(e:TypeId)(g:β->D):fk (List β):=λl v s=>ae e 1 (l.map λb=>[g b]) v s
theorem Gu{cs:List D}{o:Nat}(h:o<cs.length)(d:D):ft cs o [d]=cs.set o d:=by
 unfold ft;rw[xW,if_pos h];simp
theorem aW2{e:TypeId}{l:List β}{u:Value}{s:af}(h:g8 e g l u s){i:Nat}{b:β}(j:l[i]?=some b) :
  ∃d a c,u= .slice (some ⟨d,0,none⟩) l.length a/\s=[(d,.cells e c)]/\c[i]?=some (g b)/\∀f,g8 e g (l.set i f) u [(d,.cells e (c.set i (g f)))]:=by
 have o:=(zE.1 j).1;obtain⟨d,a,c,n,q,p⟩:=ae.get h (show(l.map λb=>[g b])[i]?=some [g b] by rw[qA,j];rfl);have m:=p 0 (by omega);simp only[Nat.mul_one,Nat.add_zero]at m;have k:c[i]?=some (g b):=by rw[m];rfl
 rw[zL]at n;subst n q;refine⟨d,a,c,rfl,rfl,k,λf=>?_⟩;have:=ae.put h (i:=i) (x':=[g f]) (by simpa using o) rfl;rw[Nat.mul_one,Gu (zE.1 k).1]at this
 show ae e 1 ((l.set i f).map λb=>[g b]) _ _;rw[wL];exact this
end
theorem eP(j:Nat):0+((j:Nat):Int).toNat*1=j:=by simp
end
end Go.Proofs.YtilnpcolgcmofaaGreatDoor
