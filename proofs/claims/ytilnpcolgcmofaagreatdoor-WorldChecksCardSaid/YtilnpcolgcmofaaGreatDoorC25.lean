/- A part of the proof. -/
import Derived.Test.YtilnpcolgcmofaaGreatDoorC24
set_option maxRecDepth 100000
set_option maxHeartbeats 20000000
set_option linter.all false
namespace Go.Proofs.YtilnpcolgcmofaaGreatDoor
open Tryz
section
open Go Go.RowKit Go.Shelf
section
variable {P:Program} {r:Option Nat} {n:Nat} {df:Nat} {ops:Array Oper} {Q:fG} {a:List D} {σ:ae} {md:Region.Mode} {S:ae->Prop}
variable{o:Oper}{d:D}
def Yd.wider{ρ:Operand->D}{s t:ae}(h:Yd P o ρ s d)(p:σ.Perm (s++t)):Yd P o ρ σ d:=by
 intro w X η g v;have y:∀x,x∈aT σ↔x∈aT s\/x∈aT t:=λx=>by
  unfold aT;rw[(p.map Prod.fst).mem_iff,yB,zO]
 have j:∀x,ay s (λb=>X b\/b∈aT t) x↔ay σ X x:=λx=>by
  unfold ay;rw[y x];constructor
  .rintro((h|h)|h)
   .exact .inl h
   .exact .inr (.inr h)
   .exact .inr (.inl h)
  .rintro(h|h|h)
   .exact .inl (.inl h)
   .exact .inr h
   .exact .inl (.inr h)
 have t1:∀{a:World}{d:D}{u:Value},Rd a (ay σ X) d u->Rd a (ay s (λb=>X b\/b∈aT t)) d u:=λh=>h.keep (zT _) (λx _ n i=>n ((j x).1 i)) (λ_ _ _=>rfl);have t2:∀{a:World}{d:D}{u:Value},Rd a (ay s (λb=>X b\/b∈aT t)) d u->Rd a (ay σ X) d u:=λh=>h.keep (zT _) (λx _ n i=>n ((j x).2 i)) (λ_ _ _=>rfl);have c:=h w (λb=>X b\/b∈aT t) η (λx hx=>t1 (g x hx)) (v.perm p).left;generalize(execOp η o).run P w=r at c
 cases r with
 |ok x a=>
  cases x<;>simp only[YU]at c⊢
  case value u=>exact⟨c.1,t2 c.2⟩
  case enter f args=>exact⟨c.1,c.2.mono λe k⟨u,m,l,q⟩=>⟨u,m,l,t2 q⟩⟩
 |halt x a=>simp only[YU]at c
def cq.wider{b:Nat×ax}(h:cq none P ops [b] o d a){s:ae}(c:b∈s):cq none P ops s o d a:=by
 rcases h with⟨g,f,e⟩|h
 .obtain⟨l,m,rfl⟩:=List.append_of_mem c;exact .inl ⟨g,f,.of (e.yd.wider (t:=l++m) (by rw[List.singleton_append];exact List.perm_middle))⟩
 .exact .inr h
def kU(P:Program)(r:Option Nat)(n:Nat)(df:Nat)(md:Region.Mode)(ops:Array Oper)(E:Nat->Bool)(S:ae->Prop)(L:List D->ae->Prop):Nat->Array Bool->List D->ae->Prop
 |0,l,a,σ=>Region.ready md ops l=[]/\L a σ
 |f+1,l,a,σ=>Region.ready md ops l≠[]/\∀i∈Region.ready md ops l,dA P r n df ops E i (λb σ'=>S σ'/\kU P r n df md ops E S L f (l.setIfInBounds i true) b σ') a σ
def kT{E:Nat->Bool}{L:List D->ae->Prop}:∀(f:Nat)(l:Array Bool)(a:List D)(σ:ae),kU P r n df md ops E S L f l a σ->jr P r n df md ops E L f l a σ
 |0,_,_,_,h=>h
 |f+1,_,_,_,h=>⟨h.1,λi b=>cK (λd σ' c=>kT f _ d σ' c.2) (h.2 i b)⟩
variable{E:Nat->Bool}
def En{j:Nat}{g:Oper}(y:ops[j]?=some g)(c:o.apart ops g=true){K:List D->ae->Prop}
  (hS:S σ) (hy:∀s,S s->cq none P ops s o d a) (h:dA P r n df ops E j (λb σ'=>S σ'/\K b σ') (aK a o.dst d) σ) :
  dA P r n df ops E j (λb σ'=>S σ'/\(∀s,S s->cq none P ops s o d b)/\K (aK b o.dst d) σ') a σ:=by
 obtain⟨h1,h2,h3⟩:=Oper.apart_spec c;unfold dA at *;simp only[y]at *
 cases k:E j with
 |false=>
  simp only[k]at h⊢;obtain⟨e,k1,_,k2⟩:=h;exact Zq
 |true=>
  simp only[k]at h⊢;unfold Sw at *;rw[ow h1]at h;refine⟨λw X z hs=>K7 (λe b A⟨f,σ',⟨q1,u,l,q2,m,q3⟩,t⟩=>⟨f,σ',⟨q1,by rw[u];cases o.dst<;>simp[aK],l,(λi hi v=>q2 i hi (by cases o.dst<;>simpa [aK]using v)),m,λs hs=>(hy s hs).put h3,?_⟩,t⟩) _ _ _ (h.run w X z hs)⟩;rw[←aw6 a d l h2];exact q3
def aS1{i:Nat}{y:Oper}{L:List D->ae->Prop}(J:ops[i]?=some y)(x:E i=false) :
  ∀(f:Nat)(l:Array Bool)(a:List D)(σ:ae),HeadInv md ops ops.size l ->
   (∀j o,ops[j]?=some o->j≠i->l.getD j true=false->(∀e∈o.after,Region.binds md e=true->e.on≠i)->y.apart ops o=true) ->
   i∈Region.ready md ops l->S σ->(∀s,S s->cq none P ops s y d a) ->
   kU P r n df md ops E S L f (l.setIfInBounds i true) (aK a y.dst d) σ->kU P r n df md ops E S L (f+1) l a σ:=by
 intro f
 induction f with
 |zero=>
  intro l a σ v _ g q z H;refine⟨λh=>(by rw[h]at g;cases g),λj u=>?_⟩;by_cases b:j=i
  .subst b;unfold dA;simp only[J,x];exact⟨d,z _ q,q,H⟩
  .have:=ready_mono u b;rw[H.1]at this
   cases this
 |succ f M=>
  intro l a σ v c g q z H;have B:=(mem_ready.1 g).1;refine⟨λh=>(by rw[h]at g;cases g),λj u=>?_⟩;by_cases b:j=i
  .subst b;unfold dA;simp only[J,x];exact⟨d,z _ q,q,H⟩
  .obtain⟨hjun,o,m,w⟩:=mem_ready.1 u;have G:j<ops.size:=(zX.1 m).1;have t:∀e∈o.after,Region.binds md e=true->e.on≠i:=λe O Q I=>by
    have K:=w e O Q;rw[I,getD_both B]at K
    cases K
   have R:=En m (c j o m b hjun t) q z (H.2 j (ready_mono u b));refine cK (λT σ' A=>⟨A.1,M (l.setIfInBounds j true) T σ' (v.set u G) (λk ok N F hunk C=>c k ok N F ?_ C) (ready_mono g (Ne.symm b)) A.1 A.2.1 ?_⟩) R
   .exact EY
   .rw[Array.setIfInBounds_comm _ _ b];exact A.2.2
def y9(P:Program)(r:Option Nat)(n:Nat)(df:Nat)(ops:Array Oper)(E:Nat->Bool)(S:ae->Prop)(L:List D->ae->Prop):fB->List D->ae->Prop
 |.done,a,σ=>L a σ
 |.one i t,a,σ=>dA P r n df ops E i (λb σ'=>S σ'/\y9 P r n df ops E S L t b σ') a σ
 |.two i t j u,a,σ=>dA P r n df ops E i (λb σ'=>S σ'/\y9 P r n df ops E S L t b σ') a σ/\dA P r n df ops E j (λb σ'=>S σ'/\y9 P r n df ops E S L u b σ') a σ
 |.three i t j u k v,a,σ=>dA P r n df ops E i (λb σ'=>S σ'/\y9 P r n df ops E S L t b σ') a σ/\dA P r n df ops E j (λb σ'=>S σ'/\y9 P r n df ops E S L u b σ') a σ/\dA P r n df ops E k (λb σ'=>S σ'/\y9 P r n df ops E S L v b σ') a σ
 |.fst i t,a,σ=>∃o d,ops[i]?=some o/\(∀s,S s->cq none P ops s o d a)/\y9 P r n df ops E S L t (aK a o.dst d) σ
 |_,_,_=>False
def NY{E:Nat->Bool}{L:List D->ae->Prop}:∀(t:fB)(f:Nat)(b:Array Bool)(a:List D)(σ:ae),HeadInv md ops ops.size b->cd md ops E f t b=true->S σ->y9 P r n df ops E S L t a σ->kU P r n df md ops E S L f b a σ
 |.done,f,b,a,σ,_,B,_,h=>by
  cases f with
  |zero=>exact⟨by simpa [cd]using B,h⟩
  |succ f=>simp[cd]at B
 |.one i t,f,b,a,σ,g,B,_,h=>by
  cases f with
  |zero=>simp[cd]at B
  |succ f=>
  simp only[cd,zJ,zQ]at B;refine⟨λw=>(by rw[B.1]at w;cases w),λk p=>?_⟩;have m:=p;rw[B.1]at p;have:k=i:=by simpa using p
  subst this;obtain⟨_,o,s,_⟩:=mem_ready.1 m;exact cK (λq σ' c=>⟨c.1,NY t f _ q σ' (g.set m (zX.1 s).1) B.2.2 c.1 c.2⟩) h
 |.two i t j u,f,b,a,σ,g,B,_,h=>by
  cases f with
  |zero=>simp[cd]at B
  |succ f=>
  simp only[cd,zJ,zQ]at B;refine⟨λw=>(by rw[B.1]at w;cases w),λk p=>?_⟩;have m:=p;rw[B.1]at p;obtain⟨_,o,s,_⟩:=mem_ready.1 m;have e:=g.set m (zX.1 s).1;have:k=i\/k=j:=by simpa using p
  rcases this with rfl|rfl
  .exact cK (λq σ' c=>⟨c.1,NY t f _ q σ' e B.2.2.1 c.1 c.2⟩) h.1
  .exact cK (λq σ' c=>⟨c.1,NY u f _ q σ' e B.2.2.2 c.1 c.2⟩) h.2
 |.three i t j u l v,f,b,a,σ,g,B,_,h=>by
  cases f with
  |zero=>simp[cd]at B
  |succ f=>
  simp only[cd,zJ,zQ]at B;refine⟨λw=>(by rw[B.1]at w;cases w),λk p=>?_⟩;have m:=p;rw[B.1]at p;obtain⟨_,o,s,_⟩:=mem_ready.1 m;have e:=g.set m (zX.1 s).1;have:k=i\/k=j\/k=l:=by simpa using p
  rcases this with rfl|rfl|rfl
  .exact cK (λq σ' c=>⟨c.1,NY t f _ q σ' e B.2.2.1 c.1 c.2⟩) h.1
  .exact cK (λq σ' c=>⟨c.1,NY u f _ q σ' e B.2.2.2.1 c.1 c.2⟩) h.2.1
  .exact cK (λq σ' c=>⟨c.1,NY v f _ q σ' e B.2.2.2.2 c.1 c.2⟩) h.2.2
 |.fst i t,f,b,a,σ,g,B,z,h=>by
  cases f with
  |zero=>simp[cd]at B
  |succ f=>
  simp only[cd,zJ,xJ]at B;obtain⟨⟨⟨C,F⟩,G⟩,y⟩:=B;obtain⟨o,d,s,A,p⟩:=h;have x:i∈Region.ready md ops b:=by simpa using C
  exact aS1 s G f b a σ g (Region.free_spec s F) x z A (NY t f _ _ σ (g.set x (zX.1 s).1) y z p)
 |.four _ _ _ _ _ _ _ _,_,_,_,_,_,_,_,h=>h.elim
 |.five _ _ _ _ _ _ _ _ _ _,_,_,_,_,_,_,_,h=>h.elim
def kR(P:Program)(ops:Array Oper)(S:ae->Prop)(L:List D->ae->Prop):List Nat->List D->ae->Prop
 |[],a,σ=>L a σ
 |i::h,a,σ=>∃o d,ops[i]?=some o/\(∀s,S s->cq none P ops s o d a)/\kR P ops S L h (aK a o.dst d) σ
def aK9{E:Nat->Bool}{L:List D->ae->Prop}{f:Nat}{t:fB}:∀(s:List Nat)(l:Array Bool)(a:List D)(σ:ae),HeadInv md ops ops.size l->Ku md ops E f t s l=true->S σ ->
  kR P ops S (y9 P r n df ops E S L t) s a σ->kU P r n df md ops E S L (s.length+f) l a σ
 |[],l,a,σ,v,B,s,h=>by
  rw[show([]:List Nat).length+f=f by simp];exact NY t f l a σ v B s h
 |i::s,l,a,σ,v,B,j,h=>by
  simp only[Ku,zJ,xJ]at B;obtain⟨⟨⟨k,p⟩,q⟩,g⟩:=B;obtain⟨o,d,c,y,m⟩:=h;have b:i∈Region.ready md ops l:=by simpa using k
  have e:i<ops.size:=(zX.1 c).1;have H:=aK9 s _ _ _ (v.set b e) g j m;rw[show(i::s).length+f=(s.length+f)+1 by simp;omega];exact aS1 c q _ l a σ v (Region.free_spec c p) b j y H
def be0{id:Nat}{l:List Oper}(E:Nat->Bool)(s:List Nat)(f:Nat)(t:fB)(m:P.follows .mixedOrders=true)(c:s.length+f=l.length)(B:Ku .any l.toArray E f t s (Array.replicate l.length false)=true)(k:S σ)
  (h:kR P l.toArray S (y9 P r n df l.toArray E S (λa σ=>Q .normal a σ) t) s a σ):ey P r n df (.region id l.toArray true) Q a σ:=by
 refine⟨λw X o d=>?_⟩;have i:HeadInv .any l.toArray l.toArray.size (Array.replicate l.length false):=
  ⟨by simp,λj p _ c=>(by rw[getD_replicate_false]at c;cases c),λt q g=>by omega⟩
 refine wpIn_region_any m ?_;have b:=QI w;have:=NW (w0:=w) (σ0:=σ) (X:=X) _ _ _ _ o { w with drawn:=w.drawn+1 } (kE b) (d.ex b) (kT _ _ _ _ (aK9 s _ a σ i B k h));rw[c]at this;have e:l.toArray.size=l.length:=by simp
 rw[e];exact this
def aW9{L c:List D->ae->Prop}(h:∀a σ,L a σ->c a σ):∀{s:List Nat}{a:List D}{σ:ae},kR P ops S L s a σ->kR P ops S c s a σ
 |[],_,_,b=>h _ _ b
 |_::_,_,_,b=>let ⟨o,d,h1,h2,h3⟩:=b;⟨o,d,h1,h2,aW9 h h3⟩
def NT{E:Nat->Bool}{L c:List D->ae->Prop}(h:∀a σ,L a σ->c a σ):∀{t:fB}{a:List D}{σ:ae},y9 P r n df ops E S L t a σ->y9 P r n df ops E S c t a σ
 |.done,_,_,b=>h _ _ b
 |.one _ _,_,_,b=>cK (λ_ _ q=>⟨q.1,NT h q.2⟩) b
 |.two _ _ _ _,_,_,b=>⟨cK (λ_ _ q=>⟨q.1,NT h q.2⟩) b.1,cK (λ_ _ q=>⟨q.1,NT h q.2⟩) b.2⟩
 |.three _ _ _ _ _ _,_,_,b=>⟨cK (λ_ _ q=>⟨q.1,NT h q.2⟩) b.1,cK (λ_ _ q=>⟨q.1,NT h q.2⟩) b.2.1,cK (λ_ _ q=>⟨q.1,NT h q.2⟩) b.2.2⟩
 |.fst _ _,_,_,b=>let ⟨o,d,h1,h2,h3⟩:=b;⟨o,d,h1,h2,NT h h3⟩
 |.four _ _ _ _ _ _ _ _,_,_,b=>b.elim
 |.five _ _ _ _ _ _ _ _ _ _,_,_,b=>b.elim
end
section
variable {P:Program} {r:Option Nat} {n:Nat} {df:Nat} {N:Nat} {σ:ae} {a:List D} {f:aP} {T:TypeId->Option TI} {L:List Oper} {Q:ik} {H:Nat×ax}
def me(P:Program)(T:TypeId->Option TI)(N:Nat)(L:List Oper)(H:Nat×ax)(i:Nat)(K:aP->Prop)(f:aP):Prop:=match L[i]? with
 |none=>False
 |some o=>J6 L f o λgo=>match go with
  |true=>bif jM o.op then(match tM o f with
   |true=>gR P T o f [H] (λd=>aX N o.dst d f K)
   |false=>gR P T o f [] (λd=>aX N o.dst d f K))else False
  |false=>aX N o.dst (.v undef) f K
def kW(m:∀t i,T t=some i->aH P t=some i){i:Nat}{K:aP->Prop}(h:me P T N L H i K f)(g:Sp N a f):∃o d,L.toArray[i]?=some o/\(∀s,H∈s->cq none P L.toArray s o d a)/\∃c,Sp N (aK a o.dst d) c/\K c:=by
 unfold me at h;split at h
 .exact h.elim
 .rename_i o q;have e:L.toArray[i]?=some o:=by simpa using q
  obtain⟨go,w,p⟩:=Q3 (K:=λgo=>match go with
   |true=>bif jM o.op then(match tM o f with
    |true=>gR P T o f [H] (λd=>aX N o.dst d f K)
    |false=>gR P T o f [] (λd=>aX N o.dst d f K))else False
   |false=>aX N o.dst (.v undef) f K) h g
  cases go with
  |true=>
   obtain⟨n,l⟩:=iH p;split at l
   .obtain⟨d,y,k⟩:=N2 m l;obtain⟨c,b,j⟩:=fT k g;exact⟨o,d,e,λs r=>cq.wider (.inl ⟨w,n,.of (y.le g.le)⟩) r,c,b,j⟩
   .obtain⟨d,y,k⟩:=N2 m l;obtain⟨c,b,j⟩:=fT k g;exact⟨o,d,e,λs _=>cq.free (.inl ⟨w,n,.of (y.le g.le)⟩) s,c,b,j⟩
  |false=>
   obtain⟨c,b,j⟩:=fT p g;exact⟨o,_,e,λs _=>.inr ⟨w,rfl⟩,c,b,j⟩
def uo(P:Program)(T:TypeId->Option TI)(N:Nat)(L:List Oper)(H:Nat×ax):List Nat->(aP->Prop)->aP->Prop
 |[],K,f=>K f
 |i::h,K,f=>me P T N L H i (uo P T N L H h K) f
def o1(e:∀t i,T t=some i->aH P t=some i):∀{b:List Nat}{K:aP->Prop}{f:aP}{a:List D},uo P T N L H b K f->Sp N a f->kR P L.toArray (λs=>H∈s) (λn σ'=>σ'=σ/\∃c,Sp N n c/\K c) b a σ
 |[],K,f,a,h,b=>⟨rfl,f,b,h⟩
 |i::l,K,f,a,h,b=>by
  obtain⟨o,d,m,k,c,j,g⟩:=kW e (K:=uo P T N L H l K) h b;exact⟨o,d,m,k,o1 e g j⟩
def GR(P:Program)(T:TypeId->Option TI)(r:Option Nat)(n:Nat)(df:Nat)(N:Nat)(L:List Oper)(H:Nat×ax)(K:aP->ae->Prop):fB->aP->ae->Prop
 |.done,f,σ=>K f σ
 |.one i t,f,σ=>jA P T r n df N L i (λa σ'=>Sd (H∈σ') (GR P T r n df N L H K t a σ')) f σ
 |.two i t j u,f,σ=>jA P T r n df N L i (λa σ'=>Sd (H∈σ') (GR P T r n df N L H K t a σ')) f σ/\jA P T r n df N L j (λa σ'=>Sd (H∈σ') (GR P T r n df N L H K u a σ')) f σ
 |.three i t j u k v,f,σ=>jA P T r n df N L i (λa σ'=>Sd (H∈σ') (GR P T r n df N L H K t a σ')) f σ/\jA P T r n df N L j (λa σ'=>Sd (H∈σ') (GR P T r n df N L H K u a σ')) f σ/\jA P T r n df N L k (λa σ'=>Sd (H∈σ') (GR P T r n df N L H K v a σ')) f σ
 |.fst i t,f,σ=>me P T N L H i (λa=>GR P T r n df N L H K t a σ) f
 |_,_,_=>False
def NQ(g:∀t i,T t=some i->aH P t=some i){E:Nat->Bool}:∀{t:fB}{K:aP->ae->Prop}{f:aP}{σ:ae}{a:List D},gt E t=true->GR P T r n df N L H K t f σ->Sp N a f->y9 P r n df L.toArray E (λs=>H∈s) (λp σ'=>∃m,Sp N p m/\K m σ') t a σ
 |.done,K,f,σ,a,c,h,l=>⟨f,l,h⟩
 |.one i t,K,f,σ,a,c,h,l=>by
  simp only[gt,zJ]at c;exact j9 g c.1 h l (λm σ' p e b=>⟨e.s,NQ g c.2 e.k b⟩)
 |.two i t j u,K,f,σ,a,c,h,l=>by
  simp only[gt,zJ]at c;exact⟨j9 g c.1 h.1 l (λm σ' p e b=>⟨e.s,NQ g c.2.1 e.k b⟩),j9 g c.2.2.1 h.2 l (λm σ' p e b=>⟨e.s,NQ g c.2.2.2 e.k b⟩)⟩
 |.three i t j u k v,K,f,σ,a,c,h,l=>by
  simp only[gt,zJ]at c;exact⟨j9 g c.1 h.1 l (λm σ' p e b=>⟨e.s,NQ g c.2.1 e.k b⟩),j9 g c.2.2.1 h.2.1 l (λm σ' p e b=>⟨e.s,NQ g c.2.2.2.1 e.k b⟩),j9 g c.2.2.2.2.1 h.2.2 l (λm σ' p e b=>⟨e.s,NQ g c.2.2.2.2.2 e.k b⟩)⟩
 |.fst i t,K,f,σ,a,c,h,l=>by
  simp only[gt]at c;obtain⟨o,d,x,e,m,w,q⟩:=kW (K:=λm=>GR P T r n df N L H K t m σ) g h l;exact⟨o,d,x,e,NQ g c q w⟩
 |.four _ _ _ _ _ _ _ _,_,_,_,_,_,h,_=>h.elim
 |.five _ _ _ _ _ _ _ _ _ _,_,_,_,_,_,h,_=>h.elim
def JF(m:P.follows .mixedOrders=true)(d:∀t i,T t=some i->aH P t=some i){id:Nat}{O:Array Oper}(j:O=L.toArray)(H:Nat×ax)(b:List Nat)(u:Nat)(E:Nat->Bool)(t:fB){γ:Type}(ps:γ->aP)(S:γ->ae)(I:γ->Prop)
  (B:(Nat.beq (b.length+u) L.length&&Ku .any L.toArray E u t b (Array.replicate L.length false)&&gt E t)=true) (k:H∈σ)
  (h:W (uo P T N L H b (λf1=>GR P T r n df N L H (λf' σ'=>∃g,ei f' (ie (.region id O true) f (ps g))/\Sc σ' (S g)/\I g) t f1 σ) f))
  (kk:∀g,I g->W (GT (ie (.region id O true) f (ps g)) λF=>Q .normal F (S g))):Lp P r n df N (.region id O true) Q f σ:=by
 subst j;simp only[zJ]at B;refine⟨λa c=>?_⟩;refine aG8 (be0 (S:=λs=>H∈s) (Q:=λe a' σ'=>e= .normal/\∃f',Sp N a' f'/\∃g,ei f' (ie (.region id L.toArray true) f (ps g))/\Sc σ' (S g)/\I g) E b u t m (yH B.1.1) B.1.2 k (aW9 (λa' σ' l=>?_) (o1 d h.h c))) ?_
 .obtain⟨rfl,f',h1,h2⟩:=l;have:=NQ d B.2 h2 h1;exact NT (λa σ h=>⟨rfl,h⟩) this
 .exact E4
end
end
section
open Go
abbrev Mt(b:Nat)(p:fc):Nat×ax:=(b,.cells 31 (CJ p))
abbrev zP:List D:=[.v (zv ZV.str),.v (zv ZV.sl),.v (zv ZV.sl)]
def Mz(l:List dO):((l.map zx).all λy=>y.all cY)=true:=by rw[yA];intro y h;obtain⟨f,_,rfl⟩:=xM.1 h;rfl
def QP(xs:List Int)(i n:Int)(h:n<1):aB xs i n=0:=by
 unfold aB;split
 .rfl
 .exact(fA _ n).2.2 h
def au8(x y z:Nat×ax)(s:ae):(x::y::z::s).Perm (s++[x,y,z]):=yT (l₁:=[x,y,z]) (l₂:=s)
def ao7(x y z:Nat×ax)(s:ae):(s++[x,y,z]).Perm (x::y::z::s):=(au8 x y z s).symm
def Mw(x y z u:Nat×ax)(s:ae):(x::y::z::u::s).Perm (s++[x,y,z,u]):=yT (l₁:=[x,y,z,u]) (l₂:=s)
def Pu(x y z u:Nat×ax)(s:ae):(s++[x,y,z,u]).Perm (x::y::z::u::s):=(Mw x y z u s).symm
def PA:cT []:=⟨by simp,by simp⟩
variable{A B:Prop}
def dD(k:B)(h:ar B->A:=by intro q7;(first|refine bc ?_|refine aE ?_|(refine' aj ?hc ?_;(case hc=>first|exact HC2|exact HA6|exact HA7|exact HPB|exact HVL)));exact q7.1):A:=h ⟨k⟩
def Ue(k:B)(h:ar B->A:=by intro q7;(first|refine bc ?_|refine jh ?_|(refine' aj ?hc ?_;(case hc=>first|exact HC2|exact HA6|exact HA7|exact HPB|exact HVL)));exact q7.1):A:=h ⟨k⟩
def tl(k:B)(h:ar B->A:=by intro q7;(first|refine bc ?_|refine zw ?_|(refine' aj ?hc ?_;(case hc=>first|exact HC2|exact HA6|exact HA7|exact HPB|exact HVL)));exact q7.1):A:=h ⟨k⟩
variable{p:Prop}
def Kg(h:p:=by rw[zL,zI,List.length_singleton];omega):p:=h
def Y4(h:p:=by
 repeat' first|refine dD ?_|intro b;conv=>whnf
 exact⟨(j+1,pos,p),(ah av),Sc.refl _,⟨by simp only;omega,⟨by simp only;omega,by simp only;omega⟩,hp,hse⟩,by simp only;omega⟩):p:=h
def Co(x:ak)(h:pO x)(F:RB x)(S:APure prog 44 [aw x] (.sl 4 []))(l:List Int)(hl:eH l):az prog 33 [aw x,bv l] [] (λd σ=>∃p is,d= .tup [eX p,bD is]/\σ=[]/\gG p/\(is=true->pN p.seed)):=by
 have hnk:=h.sm.nk;obtain⟨Q,is,M,HC2⟩:=qH x h S l hl;have HA6:=R8 l hl 6 26;have HA7:=R8 l hl 7 256;have R:=ek l 6 26;have I:=ek l 7 256;have P:=R.2 (by omega);have O:=I.2 (by omega);obtain⟨a,ea⟩:∃a:Nat,aB l 6 26=a:=⟨(aB l 6 26).toNat,by omega⟩
 obtain⟨r,eb⟩:∃a:Nat,aB l 7 256=a:=⟨(aB l 7 256).toNat,by omega⟩
 rw[ea]at HA6 R P;rw[eb]at HA7 I O;have u:pN [97+a,r]:=⟨256*a+r,by omega,by unfold jJ ip;simp;omega⟩
 cases is with
 |false=>
  refine dB func33 ntmps33 λBB=>?_
  repeat' first|refine dD ?_|intro b;conv=>whnf
  exact Rt.by (σ':=[]) (d':=.tup [eX ⟨[],[],[]⟩,bD false]) (Vs.vd ⟨_,by rw[zZ]⟩ (Vd.tup (.cons (Vd.agg (.cons (Vd.same (λz k=>by cases k) _) (.cons (Vd.nil _) (.cons (Vd.nil _) .nil)))) (.cons (Vd.same (λz k=>by cases k) _) .nil)))) ⟨⟨[],[],[]⟩,false,rfl,rfl,⟨⟨by simp,by simp⟩,PA,by simp,by simp⟩,λe=>by cases e⟩
 |true=>
  refine dB func33 ntmps33 λBB=>?_
  repeat' first|refine dD ?_|intro b;conv=>whnf
  obtain⟨C,rfl⟩:∃c,c=b:=⟨_,rfl⟩
  refine Ot.yd (y4 (m:=((97+a:Nat):Int)) rfl rfl underlying3 underlying5 (by rw[IntKind.wrap_u8];omega)) ?_
  repeat' first|refine dD ?_|intro b;conv=>whnf
  refine Ot.yd (y4 (m:=((r:Nat):Int)) rfl rfl underlying3 underlying5 (by rw[IntKind.wrap_u8];omega)) ?_
  repeat' first|refine dD ?_|intro b;conv=>whnf
  refine Ot.yd (Ay (l:=[97+a,r]) rfl rfl u.s.v underlying147 underlying5 underlying9) ?_
  repeat' first|refine Ue ?_|intro b;conv=>whnf
  generalize b=q;refine Bx.r (ce.box rfl rfl (λf=>?_))
  repeat' first|refine dD ?_|intro b;conv=>whnf
  refine aO mixed ai (γ:=Nat×Int×fc) (λg=>[(10,iD g.1)]) (λg=>[aF f l g.2.1,Mt q g.2.2,(C,.cells 31 zP)]) (λg=>g.1<=x.kz.length/\(8<=g.2.1/\g.2.1<=8+40*g.1)/\gG g.2.2/\g.2.2.seed=[97+a,r]) (λg=>x.kz.length-g.1) (0,8,⟨[97+a,r],Q,[]⟩) (ah av) ?_ ⟨zW _,⟨by simp,by simp⟩,⟨u.s,M,by simp,by simp⟩,rfl⟩ ?_
  .have k:=Sc.frz (b:=q) (t:=31) (cs:=[D.v (.string (bF [97+a,r])),bv Q,D.v (zv ZV.sl)]) (j:=2) (τ:=[aF f l 8,(C,.cells 31 zP)]) (v:=zv ZV.sl) rfl (ab.nil 150 5) (ec.refl _);exact(Sc.perm (List.Perm.swap _ _ _)).trans (k.trans (Sc.perm (List.Perm.swap _ _ _)))
  rintro⟨i,pos,p⟩ ⟨hi,o,hp,hse⟩;simp only at hi o hp hse⊢;by_cases hil:i<x.kz.length
  case neg=>
   obtain rfl:i=x.kz.length:=by omega
   repeat' first|refine dD ?_|intro b;conv=>whnf
   refine zy ai (m:=2) rfl rfl rfl rfl rfl rfl rfl ?_
   repeat' first|refine dD ?_|intro b;conv=>whnf
   exact Rt.by (σ':=[]) (d':=.tup [eX p,bD true]) (Vs.vd ⟨_,by rw[zZ]⟩ (Vd.same (λz k=>by cases k) _)) ⟨p,true,rfl,rfl,hp,λ_=>by rw[hse];exact u⟩
  obtain⟨kd,G⟩:∃y,x.kz[i]?=some y:=⟨_,zD hil⟩
  have hk':x.kz[((i:Nat):Int).toNat]?=some kd:=G;have hnf:=h.sm.nf kd (zG G)
  repeat' first|refine dD ?_|intro b;conv=>whnf
  refine aO mixed ai (γ:=Nat×Int×fc) (λg=>[(11,iD g.1)]) (λg=>[aF f l g.2.1,Mt q g.2.2,(C,.cells 31 zP)]) (λg=>g.1<=kd.fields.length/\(8<=g.2.1/\g.2.1<=8+40*i+4*g.1)/\gG g.2.2/\g.2.2.seed=[97+a,r]) (λg=>kd.fields.length-g.1) (0,pos,p) (ah av) (Sc.refl _) ⟨zW _,⟨by simp only;omega,by simp only;omega⟩,hp,hse⟩ ?_;clear hp hse o;rintro⟨j,pos,p⟩ ⟨hj,o,hp,hse⟩;simp only at hj o hp hse⊢;have hpn:=hp.n;by_cases hjl:j<kd.fields.length
  case neg=>
   obtain rfl:j=kd.fields.length:=by omega
   repeat' first|refine dD ?_|intro b;conv=>whnf
   exact⟨(i+1,pos,p),(ah av),Sc.refl _,⟨by simp only;omega,⟨by simp only;omega,by simp only;omega⟩,hp,hse⟩,by simp only;omega⟩
  obtain⟨d,L⟩:∃y,kd.fields[j]?=some y:=⟨_,zD hjl⟩
  have hf':kd.fields[((j:Nat):Int).toNat]?=some d:=L;have hdb:=F kd (zG G) d (zG L);obtain⟨pb,_,HPB⟩:=aE8 x h.sm i j kd d G L
  cases pb with
  |false=>exact Y4
  |true=>
   by_cases hpl:1<p.plants.length
   .exact Y4
   by_cases ht:aB l pos 3=0
   .repeat' first|refine dD ?_|intro b;conv=>whnf
    ((refine bu (eP l hl f _ _ ⟨by omega,by omega⟩) (zH ([aF f l _]++_)) (λs=>s++_) (λs=>zH _) ?_);(rintro _ _ ⟨rfl,rfl⟩))
    repeat' first|refine dD ?_|intro b;conv=>whnf
    exact⟨(j+1,pos+1,p),(ah av),Sc.refl _,⟨by simp only;omega,⟨by simp only;omega,by simp only;omega⟩,hp,hse⟩,by simp only;omega⟩
   have Y:=ek l (pos+1) (d.hi-d.lo+1);have J:=QP l (pos+1) (d.hi-d.lo+1);have X:=ek l (pos+1+1) 2;have V:=X.2 (by omega);have U:=ek l (pos+1+1+1) 3;have T:=U.2 (by omega)
   repeat' first|refine dD ?_|intro b;conv=>whnf
   ((refine bu (eP l hl f _ _ ⟨by omega,by omega⟩) (zH ([aF f l _]++_)) (λs=>s++_) (λs=>zH _) ?_);(rintro _ _ ⟨rfl,rfl⟩))
   repeat' first|refine tl ?_|intro b;conv=>whnf
   obtain⟨b12,rfl⟩:∃c,c=b:=⟨_,rfl⟩
   refine gS ?_;refine pW (i:=12) (d':=.ro (aA d)) (τ:=[aF f l (pos+1),Mt q p,(C,.cells 31 zP)]) rfl (λh=>by cases h) (Vs.ptr (tb:=81) (zH _)) ?_;refine iG mixed ai rfl [0,1,2,3,4,5,6,7,8,9,10,11,12,13,14,15,16,19,22] 9 (hQ [17,20,23,26,27]) (.two 17 (.fst 18 (.two 20 (.fst 21 (.two 23 (.fst 24 (.fst 25 (.one 26 (.one 27 .done)))) 26 (.one 23 (.fst 24 (.fst 25 (.one 27 .done)))))) 26 (.one 20 (.fst 21 (.one 23 (.fst 24 (.fst 25 (.one 27 .done)))))))) 26 (.one 17 (.fst 18 (.one 20 (.fst 21 (.one 23 (.fst 24 (.fst 25 (.one 27 .done)))))))))
    (γ:=Nat) (λg=>[(13,.v (.pointer (some ⟨g,0,none⟩)))]) (λg=>[aF f l (pos+1+1+1+1),(g,.cells 150 (zx ⟨kd.name,d.name,d.lo+aB l (pos+1) (d.hi-d.lo+1),1+aB l (pos+1+1) 2,1+aB l (pos+1+1+1) 3⟩)),Mt q p,(C,.cells 31 zP)]) (λ_=>True) (by decide +kernel) ?_ ?_
   .repeat' first|refine tl ?_|intro b;conv=>whnf|(refine And.intro ?_ ?_<;>(conv=>whnf))|((refine bu (eP l hl f _ _ ⟨by omega,by omega⟩) (zH ([aF f l _]++_)) (λs=>s++_) (λs=>zH _) ?_);(rintro _ _ ⟨rfl,rfl⟩))|((refine bu (eP l hl f _ _ ⟨by omega,by omega⟩) (show List.Perm (_::aF f l _::_) ([aF f l _]++(_::_)) from List.Perm.swap _ _ _) (λs=>s++(_::_)) (λs=>zH _) ?_);(rintro _ _ ⟨rfl,rfl⟩))|((refine bu (eP l hl f _ _ ⟨by omega,by omega⟩) (show List.Perm (_::_::aF f l _::_) ([aF f l _]++(_::_::_)) from List.perm_middle (l₁:=[_,_])) (λs=>s++(_::_::_)) (λs=>zH _) ?_);(rintro _ _ ⟨rfl,rfl⟩))
    all_goals exact⟨b,(ah aJ),Sc.perm Qs,trivial⟩
   rintro b13 _
   repeat' first|refine tl ?_|intro b;conv=>whnf
   have K:mR ⟨kd.name,d.name,d.lo+aB l (pos+1) (d.hi-d.lo+1),1+aB l (pos+1+1) 2,1+aB l (pos+1+1+1) 3⟩:=by
    refine⟨?_,⟨by simp only;omega,by simp only;omega⟩,⟨by simp only;omega,by simp only;omega⟩⟩;simp only;by_cases e:d.hi-d.lo+1<1
    .have:=J e;omega
    .have:=Y.2 (by omega);omega
   generalize hy:(⟨kd.name,d.name,d.lo+aB l (pos+1) (d.hi-d.lo+1),1+aB l (pos+1+1) 2,1+aB l (pos+1+1+1) 3⟩:dO)=y at *;have E:gG ⟨p.seed,p.counts,p.plants++[y]⟩:=⟨hp.sd,hp.cs,by simp only[zI,List.length_singleton];omega,λz k=>by
    rcases zO.1 k with k|k
    .exact hp.v z k
    .rw[zN]at k;subst k;exact K⟩
   obtain⟨e,_,HVL⟩:=bg6 x h F S ⟨p.seed,p.counts,p.plants++[y]⟩ E;refine gS ?_;refine pW (i:=13) (d':=.ro (zx y)) (τ:=[Mt q p,aF f l (pos+1+1+1+1),(C,.cells 31 zP)]) rfl (λh=>by cases h) (Vs.ptr (tb:=150) (cV λa=>by simp only[cU,de];omega)) ?_;refine JF mixed ai rfl (Mt q p) [0,1,2,3,5,6,8,9] 6 (hQ [4,7,10,12,13]) (.two 4 (.two 7 (.two 10 (.fst 11 (.one 12 (.one 13 .done))) 12 (.one 10 (.fst 11 (.one 13 .done)))) 12 (.one 7 (.one 10 (.fst 11 (.one 13 .done))))) 12 (.one 4 (.one 7 (.one 10 (.fst 11 (.one 13 .done))))))
    (γ:=Nat) (λg=>[(14,.v (.pointer (some ⟨g,0,none⟩)))]) (λg=>[Mt g ⟨p.seed,p.counts,p.plants++[y]⟩,Mt q p,aF f l (pos+1+1+1+1),(C,.cells 31 zP)]) (λ_=>True) (by decide +kernel) (List.Mem.head _) ?_ ?_
   .repeat' first|((with_reducible refine Sd.go ?qm5 ?_);(case qm5=>(repeat(first|exact List.Mem.head _|refine List.Mem.tail _ ?_));done))|refine tl ?_|intro b;conv=>whnf|(refine And.intro ?_ ?_<;>(conv=>whnf))|(refine Ap.frz rfl rfl rfl rfl w (Mw _ _ _ _ _) rfl (zs:=(p.plants++[y]).map zx) (by rw[yB];rfl) Kg Kg ?_)|(refine Ap.frz rfl rfl rfl rfl w (au8 _ _ _ _) rfl (zs:=(p.plants++[y]).map zx) (by rw[yB];rfl) Kg Kg ?_)|(refine Ap.go rfl rfl rfl rfl (ab.e0 150 5 _) (zH ([]++_)) (Mz p.plants) (zs:=p.plants.map zx) rfl (by rw[zL];omega) (by rw[zL];omega) (λs=>_::_::_::_::s) (Pu _ _ _ _) (λI c7 Z w=>?_))|(refine Ap.go rfl rfl rfl rfl (ab.e0 150 5 _) (zH ([]++_)) (Mz p.plants) (zs:=p.plants.map zx) rfl (by rw[zL];omega) (by rw[zL];omega) (λs=>_::_::_::s) (ao7 _ _ _) (λI c7 Z w=>?_))
    all_goals first|exact⟨b,(ah aJ),Sc.refl _,trivial⟩|(rename_i bq;exact⟨bq,(ah aJ),Sc.refl _,trivial⟩)
   rintro b14 _;by_cases he:e=0
   .repeat' first|refine dD ?_|intro b;conv=>whnf
    exact⟨(j+1,pos+1+1+1+1,⟨p.seed,p.counts,p.plants++[y]⟩),(ah av),(Sc.sl (yG _ _)).trans (Sc.perm (List.Perm.swap _ _ _)),⟨by simp only;omega,⟨by simp only;omega,by simp only;omega⟩,E,hse⟩,by simp only;omega⟩
   .repeat' first|refine dD ?_|intro b;conv=>whnf
    exact⟨(j+1,pos+1+1+1+1,p),(ah av),(Sc.sl (yG _ _)).trans (Sc.perm (List.Perm.swap _ _ _)),⟨by simp only;omega,⟨by simp only;omega,by simp only;omega⟩,hp,hse⟩,by simp only;omega⟩
end
section
open Go
structure jF(x:ak)(p:fc):Prop where
 gx:cg x
 sd:pN p.seed
 pl:gG p
 ok:g0 x p
 hv:APure prog 60 [aw x,eX p] (iD 0)
 ng:∀(i:Nat)k,x.kz[i]?=some k->p.counts.getD i 0≠0->fm (k.fields.length+1) (cO k.fields.length (cv x i k))=false
variable{i:Nat}{x:ak}{k:aq}
def tW(a:x.kz[i]?=some k){l:ij}(h:l∈DQ x i k):l∈fp x:=by
 unfold fp;refine List.mem_flatMap.2 ⟨i,xT.2 (zE.1 a).1,?_⟩;rw[a];exact h
variable{p:fc}
def g0.cnt(h:g0 x p)(g:cg x)(a:x.kz[i]?=some k):∃c:Nat,p.counts[i]?=some (c:Int)/\c<=8:=by
 have l:=(zE.1 a).1;have j:=(g.hx.form i k a).lohi;obtain⟨c,b⟩:∃c,p.counts[i]?=some c:=⟨_,zD (by rw[h.cl];exact l)⟩
 have d:=yA.1 h.lim ⟨i,-1,k.hi,false⟩ (tW a (xK _ (by simp)));unfold jU at d;simp only[zJ]at d;obtain⟨⟨_,f⟩,e⟩:=d;have n:=yA.1 f c (zG b);simp only[zJ,zQ]at n;simp only[eF,wG,uC,zQ,Int.toNat_natCast,List.getD_eq_getElem?_getD,b,Option.getD_some]at e;rw[if_neg (by omega)]at e;exact⟨c.toNat,by rw[b];congr 1;omega,by omega⟩
def Nf{p:Prop}(h:p:=by
 rw[aH5 ((MQ hk j).trans hf) (xv hk),if_neg (by omega),if_pos h1]at hu;unfold refUp at hu;split at hu<;>omega):p:=h
def Hq{j t:Nat}{f:an}(hk:x.kz[i]?=some k)(hf:k.fields[j]?=some f)(h1:f.kind=1)(hu:aG x i j=t):bi x f.of=t:=Nf
def g0.ref(h:g0 x p){j t:Nat}{f:an}(g:x.kz[i]?=some k)(l:k.fields[j]?=some f)(m:f.kind=1)(u:aG x i j=t){a b:Nat}(o:p.counts[i]?=some (a:Int))(n:p.counts[t]?=some (b:Int))(q:0<a):1<=b:=by
 have c:=yA.1 h.lim ⟨i,bi x f.of,f.hi,false⟩ (tW g (yW _ (List.mem_flatMap.2 ⟨f,zG l,by unfold fq;rw[if_pos m];simp⟩)));rw[Hq g l m u]at c;unfold jU at c;simp only[zJ]at c;have d:=c.2;simp only[eF,wG,uC,zQ,Int.toNat_natCast,List.getD_eq_getElem?_getD,o,n,Option.getD_some]at d;rw[if_pos (by omega)]at d;by_cases e:b=0
 .subst e;simp at d;omega
 .omega
def ky{A B:Prop}(k:B)(h:ar B->A:=by intro q7;(first|refine bc ?_|refine aE ?_|(refine' aj ?hc ?_;(case hc=>first|exact HV|exact HD|exact HC2)));exact q7.1):A:=h ⟨k⟩
def ux{p:Prop}(h:p:=by
 repeat refine ky ?_
 exact⟨i+1,(ah av),Sc.refl _,by omega,by omega⟩):p:=h
def wM(x:ak)(h:cg x)(R:APure prog 44 [aw x] (.sl 4 []))(p:fc)(I:gG p)(t:pN p.seed):∃e,(e=0->jF x p)/\APure prog 61 [aw x,eX p] (iD e):=by
 have O:=h.nk;obtain⟨J,D,HV⟩:=bg6 x h.lim h.fbs R p I;by_cases h0:J=0
 case neg=>
  refine⟨J,λe=>absurd e h0,?_⟩;refine ap func61 ntmps61 λK=>?_
  repeat refine ky ?_
  refine Rt.pure (zM iD ?_);rfl
 subst h0;have b:=D rfl;have M:=b.cl;by_cases hb:∃i:Nat,∃k,x.kz[i]?=some k/\p.counts.getD i 0≠0/\fm (k.fields.length+1) (cO k.fields.length (cv x i k))=true
 .obtain⟨S,w⟩:=hb;obtain⟨s,_,⟨L,j,Q,b2⟩,r⟩:=sn (p:=λi:Nat=>∃k,x.kz[i]?=some k/\p.counts.getD i 0≠0/\fm (k.fields.length+1) (cO k.fields.length (cv x i k))=true) w;have P:=(zE.1 j).1;refine⟨14,(λe=>by cases e),?_⟩;refine ap func61 ntmps61 λK=>?_
  repeat refine ky ?_
  refine aO mixed ai (γ:=Nat) (λq=>[(6,iD q)]) (λ_=>[]) (λq=>q<=s) (λq=>s-q) 0 (ah av) (Sc.refl _) (zW _) ?_;intro i hi;obtain⟨kd,a⟩:∃y,x.kz[i]?=some y:=⟨_,zD (by omega)⟩
  have v:x.kz[((i:Nat):Int).toNat]?=some kd:=a;obtain⟨c,hc,F⟩:=b.cnt h a;have G:p.counts[((i:Nat):Int).toNat]?=some (c:Int):=hc;have g:p.counts.getD i 0=c:=by rw[List.getD_eq_getElem?_getD,hc];rfl
  have HD:=aQ0 x h.sm i kd a (λf C=>(h.fbs kd (zG a) f C).1);have HC2:APure prog 105 [iD ((kd.fields.map aA).length:Nat),nL (cv x i kd)] (if fm (kd.fields.length+1) (cO kd.fields.length (cv x i kd))then .tup [gc [],iD 14]else .tup [gc (sT (kd.fields.length+1) (cO kd.fields.length (cv x i kd))),iD 0]):=by
   rw[zL];exact aQ4 kd.fields.length (cv x i kd) (J9 h a)
  have E:=(zE.1 hc).1;by_cases hii:i<s
  .by_cases l:c=0
   .subst l;exact ux
   .have u:fm (kd.fields.length+1) (cO kd.fields.length (cv x i kd))=false:=by
     cases z:fm (kd.fields.length+1) (cO kd.fields.length (cv x i kd))with
     |false=>rfl
     |true=>exact absurd ⟨kd,a,by rw[g];omega,z⟩ (r i hii)
    rw[u,if_neg (by decide)]at HC2;exact ux
  .obtain rfl:i=s:=by omega
   obtain rfl:L=kd:=by rw[a]at j;exact(wK j).symm
   rw[b2,if_pos rfl]at HC2;rw[g]at Q
   repeat refine ky ?_
   refine Rt.pure (zM iD ?_);rfl
 .have o:∀(i:Nat)k,x.kz[i]?=some k->p.counts.getD i 0≠0->fm (k.fields.length+1) (cO k.fields.length (cv x i k))=false:=λi k a hc=>by
   cases z:fm (k.fields.length+1) (cO k.fields.length (cv x i k))with
   |false=>rfl
   |true=>exact absurd ⟨i,k,a,hc,z⟩ hb
  refine⟨0,λ_=>⟨h,t,I,b,HV,o⟩,?_⟩;refine ap func61 ntmps61 λK=>?_
  repeat refine ky ?_
  refine aO mixed ai (γ:=Nat) (λq=>[(6,iD q)]) (λ_=>[]) (λq=>q<=x.kz.length) (λq=>x.kz.length-q) 0 (ah av) (Sc.refl _) (zW _) ?_;intro i hi;by_cases hii:i<x.kz.length
  .obtain⟨kd,a⟩:∃y,x.kz[i]?=some y:=⟨_,zD (by omega)⟩
   have v:x.kz[((i:Nat):Int).toNat]?=some kd:=a;obtain⟨c,hc,F⟩:=b.cnt h a;have G:p.counts[((i:Nat):Int).toNat]?=some (c:Int):=hc;have g:p.counts.getD i 0=c:=by rw[List.getD_eq_getElem?_getD,hc];rfl
   have HD:=aQ0 x h.sm i kd a (λf C=>(h.fbs kd (zG a) f C).1);have HC2:APure prog 105 [iD ((kd.fields.map aA).length:Nat),nL (cv x i kd)] (if fm (kd.fields.length+1) (cO kd.fields.length (cv x i kd))then .tup [gc [],iD 14]else .tup [gc (sT (kd.fields.length+1) (cO kd.fields.length (cv x i kd))),iD 0]):=by
    rw[zL];exact aQ4 kd.fields.length (cv x i kd) (J9 h a)
   have E:=(zE.1 hc).1;by_cases l:c=0
   .subst l;exact ux
   .rw[o i kd a (by rw[g];omega),if_neg (by decide)]at HC2;exact ux
  .obtain rfl:i=x.kz.length:=by omega
   repeat refine ky ?_
   refine Rt.pure (zM iD ?_);rfl
abbrev II(p:fc)(i j a b:Nat)(f:an):uW:=⟨p.seed,[2,(i:Int),(j:Int)],a,b,f.lo,f.hi⟩
def O5(h:jF x p){j a b:Nat}(hi:i<=2)(g:j<=10)(e:a<=8)(d:b<=8){f:an}(r:0<=f.lo/\f.lo<=f.hi/\f.hi<=8):mQ (II p i j a b f) where
 sd:=h.sd.s
 pl:=by simp
 pv:=λv c=>by
  simp only[zU,yF,xE]at c;rcases c with rfl|rfl|rfl<;>(constructor<;>omega)
 fr:=e
 to:=d
 lo:=r.1
 le:=r.2.1
 hi:=by show f.hi<=100;omega
def lP(x:ak)(h:p9 x)(p:fc)(i j t:Nat)(k:aq)(f:an)(e:x.kz[i]?=some k)(g:k.fields[j]?=some f)(u:aG x i j=t)(a b:Nat)(w:p.counts[i]?=some (a:Int))(hb:p.counts[t]?=some (b:Int)):APure prog 150 [aw x,eX p,iD i,iD j] (RJ (II p i j a b f)):=by
 have l:=h.nk;have HU:=FA x i j (by omega) (λk e=>by have:=h.nf k e;omega);rw[u]at HU;have n:=(zE.1 e).1;have q:=(zE.1 g).1;have o:x.kz[((i:Nat):Int).toNat]?=some k:=e;have r:k.fields[((j:Nat):Int).toNat]?=some f:=g;have v:p.counts[((i:Nat):Int).toNat]?=some (a:Int):=w;have s:p.counts[((t:Nat):Int).toNat]?=some (b:Int):=hb;refine ap func150 ntmps150 λy=>?_
 repeat' first|refine bM ?_|intro b;conv=>whnf
 refine Rs.c ai (m:=1) rfl rfl rfl rfl rfl rfl ?_
 repeat' first|refine bM ?_|intro b;conv=>whnf
 exact Rt.pure rfl
end
section
open Go
def Gu(sd:List Nat)(k i idx:Nat)(f:an):Int:=if f.kind=2 then ej sd [3,(k:Int),(i:Int),(idx:Int)] 1099511627776 else if f.kind=4 then ej sd [5,(k:Int),(i:Int),(idx:Int)] 1099511627776 else 0
def xd(sd:List Nat)(kd:aq)(k idx:Nat):Nat->List Int
 |0=>[]
 |i+1=>xd sd kd k idx i++[match kd.fields[i]? with|some f=>Gu sd k i idx f|none=>0]
def Pg(sd:List Nat)(k i idx:Nat)(f:an):0<=Gu sd k i idx f/\Gu sd k i idx f<=1099511627776:=by
 unfold Gu;have a:=Gz (sd:=sd) (p:=[3,(k:Int),(i:Int),(idx:Int)]) (n:=1099511627776) (by decide);have h:=Gz (sd:=sd) (p:=[5,(k:Int),(i:Int),(idx:Int)]) (n:=1099511627776) (by decide);split
 .omega
 .split<;>omega
def q9(sd:List Nat)(kd:aq)(k idx:Nat):∀q,(xd sd kd k idx q).length=q/\∀v∈xd sd kd k idx q,0<=v/\v<=1099511627776
 |0=>by simp[xd]
 |q+1=>by
  obtain⟨b,a⟩:=q9 sd kd k idx q;refine⟨by rw[xd,zI,b];rfl,λv h=>?_⟩;rw[xd]at h;rcases zO.1 h with h|h
  .exact a v h
  .rw[zN]at h;subst h;split
   .exact Pg ..
   .omega
def qZ{a:Int}(d:0<=a/\a<=100){k i idx:Nat}(b:k<=100)(c:i<=100)(hx:idx<=100):zn [a,(k:Int),(i:Int),(idx:Int)]:=⟨by simp,λv h=>by
 simp only[zU,yF,xE]at h;rcases h with rfl|rfl|rfl|rfl<;>(constructor<;>omega)⟩
def nR{A B:Prop}(k:B)(h:ar B->A:=by intro q7;(first|refine bc ?_|refine aE ?_|(refine' aj ?hc ?_;(case hc=>first|exact HB3|exact HB5|exact HD|exact HF)));exact q7.1):A:=h ⟨k⟩
variable{p:Prop}
def bD2(h:p:=by rw[xd,hf0,yB];simp only;rw[epk];rfl):p:=h
def Qk(h:p:=by
 repeat refine nR ?_
 refine Ap.go rfl rfl rfl rfl hr (bR _) rfl (zs:=(xd p.seed kd k idx (i+1)).map λn=>[iD n]) bD2 (by rw[zL];omega) (by rw[zL];omega) (λs'=>s') dF (λa' c' s' hr=>?_)
 repeat refine nR ?_
 exact⟨(i+1,_,s'),(ah av),Sc.refl _,⟨by simp only;omega,hr⟩,by simp only;omega⟩):p:=h
def oe(x:ak)(p:fc)(h:jF x p)(k idx:Nat)(hx:idx<=100)(kd:aq)(a:x.kz[k]?=some kd)(hc:p.counts.getD k 0≠0):∃l:List Int,l.length=kd.fields.length/\(∀v∈l,-4294967296<=v/\v<=4294967296)/\APure prog 197 [aw x,eX p,iD k,iD idx] (bv l):=by
 have b:=h.gx;have E:=b.nk;have G:=(zE.1 a).1;have I:x.kz[((k:Nat):Int).toNat]?=some kd:=a;have j:=b.sm.nf kd (zG a);have e:=h.ng k kd a hc;have R:=Kf b a e;have S:=J9 b a;have r:=Mr (n:=kd.fields.length) j;have D:=Uu (n:=kd.fields.length+1);have q:(0:Int)<=2 ^ (kd.fields.length+1)*2097152:=by omega
 obtain⟨w,u⟩:=q9 p.seed kd k idx kd.fields.length;have HD:=aQ0 x b.sm k kd a (λf t=>(b.fbs kd (zG a) f t).1);have HF:APure prog 238 [iD ((kd.fields.map aA).length:Nat),nL (cv x k kd),bv (xd p.seed kd k idx kd.fields.length)] (.tup [bv (cy kd.fields.length (cO kd.fields.length (cv x k kd)) (xd p.seed kd k idx kd.fields.length) kd.fields.length),iD 0]):=by
  rw[zL];exact Cw _ _ S e _ q R _ w u
 have o:=rK R (xd p.seed kd k idx kd.fields.length) kd.fields.length (zT _);refine⟨_,o.l,λv C=>by have:=o.v v C;omega,?_⟩;generalize cy kd.fields.length (cO kd.fields.length (cv x k kd)) (xd p.seed kd k idx kd.fields.length) kd.fields.length=z at *;refine ap func197 ntmps197 λJ=>?_
 repeat refine nR ?_
 refine aO mixed ai (γ:=Nat×Value×ae) (λg=>[(11,iD g.1),(9,.v g.2.1)]) (λg=>g.2.2) (λg=>g.1<=kd.fields.length/\N' (xd p.seed kd k idx g.1) g.2.1 g.2.2) (λg=>kd.fields.length-g.1) (0,.slice none 0 0,[]) (ah av) (Sc.refl _) ⟨zW _,ab.nil _ _⟩ ?_;rintro⟨i,v,s⟩ ⟨hi,hr⟩;simp only at hi hr⊢;by_cases hil:i<kd.fields.length
 .obtain⟨f,hf0⟩:∃y,kd.fields[i]?=some y:=⟨_,zD hil⟩
  have t:kd.fields[((i:Nat):Int).toNat]?=some f:=hf0;have F:=(q9 p.seed kd k idx (i+1)).1;have HB3:=Ss p.seed h.sd.s [3,(k:Int),(i:Int),(idx:Int)] (qZ (by omega) (by omega) (by omega) hx) 1099511627776 (EP _ _ (.inr (.inr rfl)));have HB5:=Ss p.seed h.sd.s [5,(k:Int),(i:Int),(idx:Int)] (qZ (by omega) (by omega) (by omega) hx) 1099511627776 (EP _ _ (.inr (.inr rfl)));by_cases h2:f.kind=2
  .have epk:Gu p.seed k i idx f=ej p.seed [3,(k:Int),(i:Int),(idx:Int)] 1099511627776:=by unfold Gu;rw[if_pos h2]
   exact Qk
  .by_cases h4:f.kind=4
   .have epk:Gu p.seed k i idx f=ej p.seed [5,(k:Int),(i:Int),(idx:Int)] 1099511627776:=by unfold Gu;rw[if_neg h2,if_pos h4]
    exact Qk
   .have epk:Gu p.seed k i idx f=0:=by unfold Gu;rw[if_neg h2,if_neg h4]
    exact Qk
 .obtain rfl:i=kd.fields.length:=by omega
  repeat refine nR ?_
  refine CE.gives (.cons (Vs.refl _ _) (.cons (Vs.refl _ _) (.cons (Vs.row hr (bR _)) (.nil _)))) HF ?_
  repeat refine nR ?_
  exact Rt.pure rfl
def Fr{sd:List Nat}{p:List Int}{n:Int}(h:n≠0):0<=ej sd p n/\(ej sd p n<n\/ej sd p n < -n):=by
 by_cases h0:0<n
 .have:=Gz (sd:=sd) (p:=p) h0;omega
 .have e:ej sd p n=ej sd p (-n):=by unfold ej;rw[Int.tmod_neg]
  have:=Gz (sd:=sd) (p:=p) (n:=-n) (by omega);rw[e];omega
def JZ{x:ak}(h:cg x){k f:Nat}{kd:aq}{d:an}(a:x.kz[k]?=some kd)(b:kd.fields[f]?=some d){y:dO}(g:bi x y.kind=k)(c:y.field=d.name):cN x y=((k:Int),(f:Int)):=by
 unfold cN;have e:=z7 (h.hx.form k kd a).nodup b;rw[g,xv a];simp only;rw[c,e,if_neg (by omega)]
def hH{A B:Prop}(k:B)(h:ar B->A:=by intro q7;(first|refine bc ?_|refine aE ?_|(refine' aj ?hc ?_;(case hc=>first|exact HK|exact HN|exact HV|exact HF|exact HB|exact HS)));exact q7.1):A:=h ⟨k⟩
def cq9(h:p:=by
 refine ap func151 ntmps151 λBB=>?_
 repeat' first|refine hH ?_|intro b;conv=>whnf
 obtain⟨b12,rfl⟩:∃c,c=b:=⟨_,rfl⟩
 refine aO mixed ai (γ:=Nat×Bool) (λg=>[(13,iD g.1),(11,bD g.2)]) (λ_=>[(b12,.cells 78 (aD kd))]) (λg=>g.1<=p.plants.length/\((∃i:Nat,i<g.1/\∃y,p.plants[i]?=some y/\bi x y.kind=k/\y.field=d.name)->g.2=true)) (λg=>p.plants.length-g.1) (0,false) (ah av) (Sc.refl _) ⟨zW _,λ⟨i,h,_⟩=>absurd h (by simp)⟩ ?_;rintro⟨i,pl⟩ ⟨hi,hpl⟩;simp only at hi hpl⊢;by_cases hil:i<p.plants.length
 .obtain⟨y,hy0⟩:∃y,p.plants[i]?=some y:=⟨_,zD hil⟩
  have hy:p.plants[((i:Nat):Int).toNat]?=some y:=hy0;have HK:=An x y.kind (by omega);have hno:¬(bi x y.kind=k/\y.field=d.name)->(∃q:Nat,q<i+1/\∃y,p.plants[q]?=some y/\bi x y.kind=k/\y.field=d.name)->pl=true:=by
   rintro hn ⟨q,hq,z,hz,hzk⟩;by_cases e:q=i
   .subst e;rw[hy0]at hz;cases hz;exact absurd hzk hn
   .exact hpl ⟨q,by omega,z,hz,hzk⟩
  by_cases e1:bi x y.kind=k
  .cases e2:(y.field.toList==d.name.toList)with
   |false=>
    repeat' first|refine hH ?_|intro b;conv=>whnf
    exact⟨(i+1,pl),(ah av),Sc.refl _,⟨by simp only;omega,hno (λhh=>by have:=(FD _ _).2 hh.2;unfold seq at this;rw[e2]at this;cases this)⟩,by simp only;omega⟩
   |true=>
    repeat' first|refine hH ?_|intro b;conv=>whnf
    exact⟨(i+1,true),(ah av),Sc.refl _,⟨by simp only;omega,λ_=>rfl⟩,by simp only;omega⟩
  .repeat' first|refine hH ?_|intro b;conv=>whnf
   exact⟨(i+1,pl),(ah av),Sc.refl _,⟨by simp only;omega,hno (λhh=>e1 hh.1)⟩,by simp only;omega⟩
 obtain rfl:i=p.plants.length:=by omega
 obtain⟨q1,hq1⟩:=yO hy1;obtain rfl:pl=true:=hpl ⟨q1,(zE.1 hq1).1,y1,hq1,hk1,hf1⟩
 repeat' first|refine hH ?_|intro b;conv=>whnf
 refine Rt.pure (zM iD ?_);rfl):p:=h
def M5(h:p:=by
 repeat' first|refine hH ?_|intro b;conv=>whnf
 exact⟨i+1,(ah av),Sc.refl _,by omega,by omega⟩):p:=h
def aV0(x:ak)(p:fc)(h:jF x p)(k idx f:Nat)(kd:aq)(d:an)(a:x.kz[k]?=some kd)(j:kd.fields[f]?=some d)(h24:d.kind=2\/d.kind=4)(c:Nat)(hc:p.counts[k]?=some (c:Int))(hi:idx<c):∃v,(-4294967296<=v/\v<=4294967296)/\APure prog 151 [aw x,eX p,iD k,iD idx,iD f] (iD v):=by
 have o:=h.gx;have O:=o.nk;have L:=h.pl.n;have T:=(zE.1 a).1;have V:=(zE.1 j).1;have U:x.kz[((k:Nat):Int).toNat]?=some kd:=a;have Y:kd.fields[((f:Nat):Int).toNat]?=some d:=j;have P:=o.sm.nf kd (zG a);obtain⟨c',C,Z⟩:=h.ok.cnt o a;obtain rfl:c=c':=by rw[hc]at C;have:=wK C;omega
 have E:p.counts.getD k 0=c:=by rw[List.getD_eq_getElem?_getD,hc];rfl
 have X:=o.fb a j;obtain⟨l,hl,G,HN⟩:=oe x p h k idx (by omega) kd a (by rw[E];omega);obtain⟨F,r⟩:∃z,l[f]?=some z:=⟨_,zD (by omega)⟩
 have R:l[((f:Nat):Int).toNat]?=some F:=r;have t:=G F (zG r);obtain⟨v,b,hv,hb,HV⟩:=wQ x o.sm p h.pl h.hv k f kd d a j c hc (by omega) idx hi;by_cases hpl:∃y∈p.plants,bi x y.kind=k/\y.field=d.name
 case neg=>
  refine⟨F,t,?_⟩;refine ap func151 ntmps151 λBB=>?_
  repeat' first|refine hH ?_|intro b;conv=>whnf
  obtain⟨b12,rfl⟩:∃c,c=b:=⟨_,rfl⟩
  refine aO mixed ai (γ:=Nat) (λi=>[(13,iD i),(11,bD false)]) (λ_=>[(b12,.cells 78 (aD kd))]) (λi=>i<=p.plants.length) (λi=>p.plants.length-i) 0 (ah av) (Sc.refl _) (zW _) ?_;intro i hi;by_cases hil:i<p.plants.length
  .obtain⟨y,hy0⟩:∃y,p.plants[i]?=some y:=⟨_,zD hil⟩
   have hy:p.plants[((i:Nat):Int).toNat]?=some y:=hy0;have HK:=An x y.kind (by omega);by_cases e1:bi x y.kind=k
   .have e2:(y.field.toList==d.name.toList)=false:=by
     cases hh:(y.field.toList==d.name.toList)with
     |false=>rfl
     |true=>exact absurd ⟨y,zG hy0,e1,(FD _ _).1 hh⟩ hpl
    exact M5
   .exact M5
  .obtain rfl:i=p.plants.length:=by omega
   repeat' first|refine hH ?_|intro b;conv=>whnf
   refine Rt.pure (zM iD ?_);rfl
 obtain⟨y1,hy1,hk1,hf1⟩:=hpl;have w:=JZ o a j hk1 hf1;have h2:d.kind=2:=(h.ok.pl y1 hy1).2 k f kd d w a j;have HF:=Ct x o.sm p h.pl h.hv k f kd d a j h2 (by omega) (by omega);have Q:=lW h.pl.v (eA x p.plants k f p.plants.length);have M:=KD x p.plants k f p.plants.length;have S:fO x p.plants d k f=d.hi-d.lo+1-jo p.plants (eA x p.plants k f p.plants.length):=rfl;have s:=h.ok.lef y1 hy1 k f kd d w a j;rw[E]at s;have D:gI k f:=by
  have:=((o.ks.pos k kd a).at (by omega) j).2.2 (by omega);unfold gI;omega
 cases b with
 |true=>
  refine⟨v,by omega,?_⟩;exact cq9
 |false=>
  have K:=hb rfl;have u:fO x p.plants d k f≠0:=λe=>by have:=s e;omega
  have hD:=(I' h.sd D (i:=idx) (by omega)).drw u (by omega);have HB:=Ss p.seed h.sd.s [3,(k:Int),(f:Int),(idx:Int)] (qZ (by omega) (by omega) (by omega) (by omega)) _ hD;have hbe:=Fr (sd:=p.seed) (p:=[3,(k:Int),(f:Int),(idx:Int)]) (n:=fO x p.plants d k f) u;obtain⟨I,e2,J,HS⟩:=Cn x o.sm p h.pl h.hv k f kd d a j h2 (by omega) (by omega) (ej p.seed [3,(k:Int),(f:Int),(idx:Int)] (fO x p.plants d k f)) (by omega);refine⟨I,by omega,?_⟩;exact cq9
end
section
open Go
def cg.life{x:ak}(h:cg x):∃l,x.lz=[l]/\l.name=bz/\mS l/\∀s,(ci l.mz s).length<=2:=by
 obtain⟨m,mv,g,f,a,e,d⟩:=h.ls;have c:(fZ.take m).length=m:=by rw[zR];simp;omega
 refine⟨_,a,rfl,⟨by simp only;omega,by simp only;omega,λq b=>?_⟩,λs=>?_⟩
 .have:=d q b;simp only;rw[c];exact this
 .have:=h.mc ⟨bz,fZ.take m,mv⟩ (by rw[a];simp) s;unfold Ke at this;unfold ci;rw[zL];exact this
def Cm(x:ak)(l:bG)(hl:x.lz=[l])(e:l.name=bz):APure prog 205 [aw x,sD bz] (cZ l):=by
 have h0:x.lz[((0:Int)).toNat]?=some l:=by rw[hl];rfl
 have f:x.lz.length=1:=by rw[hl];rfl
 have g:(l.name.toList==bz.toList)=true:=by rw[e];exact QM _
 refine ap func205 ntmps205 λi=>?_
 repeat' first|refine au ?_|intro b;conv=>whnf
 refine aO mixed ai (γ:=Nat) (λq=>[(5,iD q)]) (λ_=>[(b,.cells 93 [.v (zv ZV.str),.v (zv ZV.sl),.v (zv ZV.sl)])]) (λq=>q=0) (λq=>q) 0 (ah av) (Sc.refl _) rfl ?_;intro q a;subst a
 repeat' first|refine au ?_|intro b;conv=>whnf
 exact Rt.pure rfl
def Ud{A B:Prop}(k:B)(h:ar B->A:=by intro q7;(first|refine bc ?_|refine aE ?_|(refine' aj ?hc ?_;(case hc=>first|exact HB|exact HL|exact HW)));exact q7.1):A:=h ⟨k⟩
def Cj(x:ak)(p:fc)(h:jF x p)(k idx j:Nat)(kd:aq)(f:an)(e:x.kz[k]?=some kd)(w:kd.fields[j]?=some f)(h5:f.kind=5)(hb:0<=f.lo/\f.lo<=f.hi/\f.hi<=6)(F:f.of=bz)(hi:idx<8):∃l:List Int,(1<=l.length/\l.length<=101)/\(∀z∈l,0<=z/\z<=100)/\APure prog 153 [aw x,eX p,iD k,iD idx,iD j] (bv l):=by
 have g:=h.gx;have G:=g.nk;have K:=(zE.1 e).1;have M:=(zE.1 w).1;have L:x.kz[((k:Nat):Int).toNat]?=some kd:=e;have O:kd.fields[((j:Nat):Int).toNat]?=some f:=w;have I:=g.sm.nf kd (zG e);obtain⟨l,hl,u,s,v⟩:=g.life;have HL:=Cm x l hl u;rw[←F]at HL;have y:gI k j:=by
  have:=((g.ks.pos k kd e).at (by omega) w).2.2 (by omega);unfold gI;omega
 have t:=qZ (a:=6) (by omega) (k:=k) (i:=j) (idx:=idx) (by omega) (by omega) (by omega);have Q:=(C0 h.sd y hi).drw (n:=f.hi-f.lo+1) (by omega) (by omega);have HB:=aI2 p.seed h.sd.s [6,(k:Int),(j:Int),(idx:Int)] (by simp) t.v f.lo f.hi ⟨by omega,by omega,by omega,by omega⟩ Q;have P:=Gz (sd:=p.seed) (p:=[6,(k:Int),(j:Int),(idx:Int)]) (n:=f.hi-f.lo+1) (by omega);obtain⟨m,C⟩:∃m:Nat,gA p.seed [6,(k:Int),(j:Int),(idx:Int)] f.lo f.hi=m:=⟨(gA p.seed [6,(k:Int),(j:Int),(idx:Int)] f.lo f.hi).toNat,by unfold gA;omega⟩
 have J:m<=6:=by unfold gA at C;omega
 rw[C]at HB;have HW:=Cz l s v p.seed h.sd.s [6,(k:Int),(j:Int),(idx:Int)] (by simp) t.v m (by omega);have o:=aN3 (mv:=l.mz) (sd:=p.seed) (p:=[6,(k:Int),(j:Int),(idx:Int)]) m;have r:=lS (mv:=l.mz) (sd:=p.seed) (p:=[6,(k:Int),(j:Int),(idx:Int)]) (n:=l.tz.length) (by have:=s.n;omega) (λq E=>(s.q q E).2) m;refine⟨_,⟨o.1,by omega⟩,λz D=>by have:=r z D;have:=s.n;omega,?_⟩;refine ap func153 ntmps153 λR=>?_
 repeat' first|refine Ud ?_|intro b;conv=>whnf
 exact Rt.pure rfl
end
end Go.Proofs.YtilnpcolgcmofaaGreatDoor
