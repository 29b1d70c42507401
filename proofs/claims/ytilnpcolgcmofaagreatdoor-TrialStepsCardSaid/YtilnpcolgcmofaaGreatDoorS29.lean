/- A part of the proof: Os Dw Jd Je Jf. -/
import Derived.Test.YtilnpcolgcmofaaGreatDoorS28
set_option maxRecDepth 100000
set_option maxHeartbeats 20000000
set_option linter.all false
namespace Go.Proofs.YtilnpcolgcmofaaGreatDoor
open Tryz
section
open Go Go.RowKit Go.Shelf
section
variable {P:Program} {r:Option Nat} {n:Nat} {df:Nat} {ops:Array Oper} {Q:eY} {a:List D} {σ:af} {md:Region.Mode} {S:af->Prop}
theorem Yd.wider{o:Oper}{ρ:Operand->D}{d:D}{s t:af}(h:Yd P o ρ s d)(p:σ.Perm (s++t)):Yd P o ρ σ d:=by
 intro w X η g v;have y:∀x,x∈aQ σ↔x∈aQ s\/x∈aQ t:=λx=>by
  unfold aQ;rw[(p.map Prod.fst).mem_iff,yB,zO]
 have j:∀x,ay s (λb=>X b\/b∈aQ t) x↔ay σ X x:=λx=>by
  unfold ay;rw[y x];constructor
  .rintro((h|h)|h)
   .exact .inl h
   .exact .inr (.inr h)
   .exact .inr (.inl h)
  .rintro(h|h|h)
   .exact .inl (.inl h)
   .exact .inr h
   .exact .inl (.inr h)
 have t1:∀{a:World}{d:D}{u:Value},Rd a (ay σ X) d u->Rd a (ay s (λb=>X b\/b∈aQ t)) d u:=λh=>h.keep (zT _) (λx _ n i=>n ((j x).1 i)) (λ_ _ _=>rfl);have t2:∀{a:World}{d:D}{u:Value},Rd a (ay s (λb=>X b\/b∈aQ t)) d u->Rd a (ay σ X) d u:=λh=>h.keep (zT _) (λx _ n i=>n ((j x).2 i)) (λ_ _ _=>rfl);have c:=h w (λb=>X b\/b∈aQ t) η (λx hx=>t1 (g x hx)) (v.perm p).left;generalize(execOp η o).run P w=r at c
 cases r with
 |ok x a=>
  cases x<;>simp only[YU]at c⊢
  case value u=>exact⟨c.1,t2 c.2⟩
  case enter f args=>exact⟨c.1,c.2.mono λe k⟨u,m,l,q⟩=>⟨u,m,l,t2 q⟩⟩
 |halt x a=>simp only[YU]at c
theorem cd.wider{o:Oper}{d:D}{b:Nat×aE}(h:cd none P ops [b] o d a){s:af}(c:b∈s):cd none P ops s o d a:=by
 rcases h with⟨g,f,e⟩|h
 .obtain⟨l,m,rfl⟩:=List.append_of_mem c;exact .inl ⟨g,f,.of (e.yd.wider (t:=l++m) (by rw[List.singleton_append];exact List.perm_middle))⟩
 .exact .inr h
def jG(P:Program)(r:Option Nat)(n:Nat)(df:Nat)(md:Region.Mode)(ops:Array Oper)(E:Nat->Bool)(S:af->Prop)(L:List D->af->Prop):Nat->Array Bool->List D->af->Prop
 |0,l,a,σ=>Region.ready md ops l=[]/\L a σ
 |f+1,l,a,σ=>Region.ready md ops l≠[]/\∀i∈Region.ready md ops l,db P r n df ops E i (λb σ'=>S σ'/\jG P r n df md ops E S L f (l.setIfInBounds i true) b σ') a σ
theorem bg7{E:Nat->Bool}{L:List D->af->Prop}:∀(f:Nat)(l:Array Bool)(a:List D)(σ:af),jG P r n df md ops E S L f l a σ->iB P r n df md ops E L f l a σ
 |0,_,_,_,h=>h
 |f+1,_,_,_,h=>⟨h.1,λi b=>cx (λd σ' c=>bg7 f _ d σ' c.2) (h.2 i b)⟩
theorem CW{E:Nat->Bool}{j:Nat}{o g:Oper}{d:D}(y:ops[j]?=some g)(c:o.apart ops g=true){K:List D->af->Prop}
  (hS:S σ) (hy:∀s,S s->cd none P ops s o d a) (h:db P r n df ops E j (λb σ'=>S σ'/\K b σ') (aF a o.dst d) σ) :
  db P r n df ops E j (λb σ'=>S σ'/\(∀s,S s->cd none P ops s o d b)/\K (aF b o.dst d) σ') a σ:=by
 obtain⟨h1,h2,h3⟩:=Oper.apart_spec c;unfold db at *;simp only[y]at *
 cases k:E j with
 |false=>
  simp only[k]at h⊢;obtain⟨e,k1,_,k2⟩:=h;exact XR
 |true=>
  simp only[k]at h⊢;unfold QV at *;rw[mV h1]at h;refine⟨λw X z hs=>JM (λe b A⟨f,σ',⟨q1,u,l,q2,m,q3⟩,t⟩=>⟨f,σ',⟨q1,by rw[u];cases o.dst<;>simp[aF],l,(λi hi v=>q2 i hi (by cases o.dst<;>simpa [aF]using v)),m,λs hs=>(hy s hs).put h3,?_⟩,t⟩) _ _ _ (h.run w X z hs)⟩;rw[←Y4 a d l h2];exact q3
theorem aP8{E:Nat->Bool}{i:Nat}{y:Oper}{d:D}{L:List D->af->Prop}(J:ops[i]?=some y)(x:E i=false) :
  ∀(f:Nat)(l:Array Bool)(a:List D)(σ:af),HeadInv md ops ops.size l ->
   (∀j o,ops[j]?=some o->j≠i->l.getD j true=false->(∀e∈o.after,Region.binds md e=true->e.on≠i)->y.apart ops o=true) ->
   i∈Region.ready md ops l->S σ->(∀s,S s->cd none P ops s y d a) ->
   jG P r n df md ops E S L f (l.setIfInBounds i true) (aF a y.dst d) σ->jG P r n df md ops E S L (f+1) l a σ:=by
 intro f
 induction f with
 |zero=>
  intro l a σ v _ g q z H;refine⟨λh=>(by rw[h]at g;cases g),λj u=>?_⟩;by_cases b:j=i
  .subst b;unfold db;simp only[J,x];exact⟨d,z _ q,q,H⟩
  .have:=ready_mono u b;rw[H.1]at this
   cases this
 |succ f M=>
  intro l a σ v c g q z H;have B:=(mem_ready.1 g).1;refine⟨λh=>(by rw[h]at g;cases g),λj u=>?_⟩;by_cases b:j=i
  .subst b;unfold db;simp only[J,x];exact⟨d,z _ q,q,H⟩
  .obtain⟨hjun,o,m,w⟩:=mem_ready.1 u;have G:j<ops.size:=(zX.1 m).1;have t:∀e∈o.after,Region.binds md e=true->e.on≠i:=λe O Q I=>by
    have K:=w e O Q;rw[I,getD_both B]at K
    cases K
   have R:=CW m (c j o m b hjun t) q z (H.2 j (ready_mono u b));refine cx (λT σ' A=>⟨A.1,M (l.setIfInBounds j true) T σ' (v.set u G) (λk ok N F hunk C=>c k ok N F ?_ C) (ready_mono g (Ne.symm b)) A.1 A.2.1 ?_⟩) R
   .exact DM
   .rw[Array.setIfInBounds_comm _ _ b];exact A.2.2
def w6(P:Program)(r:Option Nat)(n:Nat)(df:Nat)(ops:Array Oper)(E:Nat->Bool)(S:af->Prop)(L:List D->af->Prop):eT->List D->af->Prop
 |.done,a,σ=>L a σ
 |.one i t,a,σ=>db P r n df ops E i (λb σ'=>S σ'/\w6 P r n df ops E S L t b σ') a σ
 |.two i t j u,a,σ=>db P r n df ops E i (λb σ'=>S σ'/\w6 P r n df ops E S L t b σ') a σ/\db P r n df ops E j (λb σ'=>S σ'/\w6 P r n df ops E S L u b σ') a σ
 |.three i t j u k v,a,σ=>db P r n df ops E i (λb σ'=>S σ'/\w6 P r n df ops E S L t b σ') a σ/\db P r n df ops E j (λb σ'=>S σ'/\w6 P r n df ops E S L u b σ') a σ/\db P r n df ops E k (λb σ'=>S σ'/\w6 P r n df ops E S L v b σ') a σ
 |.fst i t,a,σ=>∃o d,ops[i]?=some o/\(∀s,S s->cd none P ops s o d a)/\w6 P r n df ops E S L t (aF a o.dst d) σ
 |_,_,_=>False
theorem Mg{E:Nat->Bool}{L:List D->af->Prop}:∀(t:eT)(f:Nat)(b:Array Bool)(a:List D)(σ:af),HeadInv md ops ops.size b->bV md ops E f t b=true->S σ->w6 P r n df ops E S L t a σ->jG P r n df md ops E S L f b a σ
 |.done,f,b,a,σ,_,B,_,h=>by
  cases f with
  |zero=>exact⟨by simpa [bV]using B,h⟩
  |succ f=>simp[bV]at B
 |.one i t,f,b,a,σ,g,B,_,h=>by
  cases f with
  |zero=>simp[bV]at B
  |succ f=>
  simp only[bV,zJ,zQ]at B;refine⟨λw=>(by rw[B.1]at w;cases w),λk p=>?_⟩;have m:=p;rw[B.1]at p;have:k=i:=by simpa using p
  subst this;obtain⟨_,o,s,_⟩:=mem_ready.1 m;exact cx (λq σ' c=>⟨c.1,Mg t f _ q σ' (g.set m (zX.1 s).1) B.2.2 c.1 c.2⟩) h
 |.two i t j u,f,b,a,σ,g,B,_,h=>by
  cases f with
  |zero=>simp[bV]at B
  |succ f=>
  simp only[bV,zJ,zQ]at B;refine⟨λw=>(by rw[B.1]at w;cases w),λk p=>?_⟩;have m:=p;rw[B.1]at p;obtain⟨_,o,s,_⟩:=mem_ready.1 m;have e:=g.set m (zX.1 s).1;have:k=i\/k=j:=by simpa using p
  rcases this with rfl|rfl
  .exact cx (λq σ' c=>⟨c.1,Mg t f _ q σ' e B.2.2.1 c.1 c.2⟩) h.1
  .exact cx (λq σ' c=>⟨c.1,Mg u f _ q σ' e B.2.2.2 c.1 c.2⟩) h.2
 |.three i t j u l v,f,b,a,σ,g,B,_,h=>by
  cases f with
  |zero=>simp[bV]at B
  |succ f=>
  simp only[bV,zJ,zQ]at B;refine⟨λw=>(by rw[B.1]at w;cases w),λk p=>?_⟩;have m:=p;rw[B.1]at p;obtain⟨_,o,s,_⟩:=mem_ready.1 m;have e:=g.set m (zX.1 s).1;have:k=i\/k=j\/k=l:=by simpa using p
  rcases this with rfl|rfl|rfl
  .exact cx (λq σ' c=>⟨c.1,Mg t f _ q σ' e B.2.2.1 c.1 c.2⟩) h.1
  .exact cx (λq σ' c=>⟨c.1,Mg u f _ q σ' e B.2.2.2.1 c.1 c.2⟩) h.2.1
  .exact cx (λq σ' c=>⟨c.1,Mg v f _ q σ' e B.2.2.2.2 c.1 c.2⟩) h.2.2
 |.fst i t,f,b,a,σ,g,B,z,h=>by
  cases f with
  |zero=>simp[bV]at B
  |succ f=>
  simp only[bV,zJ,xJ]at B;obtain⟨⟨⟨C,F⟩,G⟩,y⟩:=B;obtain⟨o,d,s,A,p⟩:=h;have x:i∈Region.ready md ops b:=by simpa using C
  exact aP8 s G f b a σ g (Region.free_spec s F) x z A (Mg t f _ _ σ (g.set x (zX.1 s).1) y z p)
 |.four _ _ _ _ _ _ _ _,_,_,_,_,_,_,_,h=>h.elim
 |.five _ _ _ _ _ _ _ _ _ _,_,_,_,_,_,_,_,h=>h.elim
def jF(P:Program)(ops:Array Oper)(S:af->Prop)(L:List D->af->Prop):List Nat->List D->af->Prop
 |[],a,σ=>L a σ
 |i::h,a,σ=>∃o d,ops[i]?=some o/\(∀s,S s->cd none P ops s o d a)/\jF P ops S L h (aF a o.dst d) σ
theorem aJ2{E:Nat->Bool}{L:List D->af->Prop}{f:Nat}{t:eT}:∀(s:List Nat)(l:Array Bool)(a:List D)(σ:af),HeadInv md ops ops.size l->JR md ops E f t s l=true->S σ ->
  jF P ops S (w6 P r n df ops E S L t) s a σ->jG P r n df md ops E S L (s.length+f) l a σ
 |[],l,a,σ,v,B,s,h=>by
  rw[show([]:List Nat).length+f=f by simp];exact Mg t f l a σ v B s h
 |i::s,l,a,σ,v,B,j,h=>by
  simp only[JR,zJ,xJ]at B;obtain⟨⟨⟨k,p⟩,q⟩,g⟩:=B;obtain⟨o,d,c,y,m⟩:=h;have b:i∈Region.ready md ops l:=by simpa using k
  have e:i<ops.size:=(zX.1 c).1;have H:=aJ2 s _ _ _ (v.set b e) g j m;rw[show(i::s).length+f=(s.length+f)+1 by simp;omega];exact aP8 c q _ l a σ v (Region.free_spec c p) b j y H
theorem bb5{id:Nat}{l:List Oper}(E:Nat->Bool)(s:List Nat)(f:Nat)(t:eT)(m:P.follows .mixedOrders=true)(c:s.length+f=l.length)(B:JR .any l.toArray E f t s (Array.replicate l.length false)=true)(k:S σ)
  (h:jF P l.toArray S (w6 P r n df l.toArray E S (λa σ=>Q .normal a σ) t) s a σ):dQ P r n df (.region id l.toArray true) Q a σ:=by
 refine⟨λw X o d=>?_⟩;have i:HeadInv .any l.toArray l.toArray.size (Array.replicate l.length false):=
  ⟨by simp,λj p _ c=>(by rw[getD_replicate_false]at c;cases c),λt q g=>by omega⟩
 refine wpIn_region_any m ?_;have b:=Pf w;have:=Mf (w0:=w) (σ0:=σ) (X:=X) _ _ _ _ o { w with drawn:=w.drawn+1 } (jx b) (d.ex b) (bg7 _ _ _ _ (aJ2 s _ a σ i B k h));rw[c]at this;have e:l.toArray.size=l.length:=by simp
 rw[e];exact this
theorem aU3{L c:List D->af->Prop}(h:∀a σ,L a σ->c a σ):∀{s:List Nat}{a:List D}{σ:af},jF P ops S L s a σ->jF P ops S c s a σ
 |[],_,_,b=>h _ _ b
 |_::_,_,_,b=>let ⟨o,d,h1,h2,h3⟩:=b;⟨o,d,h1,h2,aU3 h h3⟩
theorem L7{E:Nat->Bool}{L c:List D->af->Prop}(h:∀a σ,L a σ->c a σ):∀{t:eT}{a:List D}{σ:af},w6 P r n df ops E S L t a σ->w6 P r n df ops E S c t a σ
 |.done,_,_,b=>h _ _ b
 |.one _ _,_,_,b=>cx (λ_ _ q=>⟨q.1,L7 h q.2⟩) b
 |.two _ _ _ _,_,_,b=>⟨cx (λ_ _ q=>⟨q.1,L7 h q.2⟩) b.1,cx (λ_ _ q=>⟨q.1,L7 h q.2⟩) b.2⟩
 |.three _ _ _ _ _ _,_,_,b=>⟨cx (λ_ _ q=>⟨q.1,L7 h q.2⟩) b.1,cx (λ_ _ q=>⟨q.1,L7 h q.2⟩) b.2.1,cx (λ_ _ q=>⟨q.1,L7 h q.2⟩) b.2.2⟩
 |.fst _ _,_,_,b=>let ⟨o,d,h1,h2,h3⟩:=b;⟨o,d,h1,h2,L7 h h3⟩
 |.four _ _ _ _ _ _ _ _,_,_,b=>b.elim
 |.five _ _ _ _ _ _ _ _ _ _,_,_,b=>b.elim
end
section
variable {P:Program} {r:Option Nat} {n:Nat} {df:Nat} {N:Nat} {σ:af} {a:List D} {f:aM} {T:TypeId->Option TI} {L:List Oper} {Q:gJ} {H:Nat×aE}
def kX(P:Program)(T:TypeId->Option TI)(N:Nat)(L:List Oper)(H:Nat×aE)(i:Nat)(K:aM->Prop)(f:aM):Prop:=match L[i]? with
 |none=>False
 |some o=>Iu L f o λgo=>match go with
  |true=>bif iR o.op then(match se o f with
   |true=>iE P T o f [H] (λd=>aR N o.dst d f K)
   |false=>iE P T o f [] (λd=>aR N o.dst d f K))else False
  |false=>aR N o.dst (.v undef) f K
theorem bh4(m:∀t i,T t=some i->aD P t=some i){i:Nat}{K:aM->Prop}(h:kX P T N L H i K f)(g:Sp N a f):∃o d,L.toArray[i]?=some o/\(∀s,H∈s->cd none P L.toArray s o d a)/\∃c,Sp N (aF a o.dst d) c/\K c:=by
 unfold kX at h;split at h
 .exact h.elim
 .rename_i o q;have e:L.toArray[i]?=some o:=by simpa using q
  obtain⟨go,w,p⟩:=PH (K:=λgo=>match go with
   |true=>bif iR o.op then(match se o f with
    |true=>iE P T o f [H] (λd=>aR N o.dst d f K)
    |false=>iE P T o f [] (λd=>aR N o.dst d f K))else False
   |false=>aR N o.dst (.v undef) f K) h g
  cases go with
  |true=>
   obtain⟨n,l⟩:=g7 p;split at l
   .obtain⟨d,y,k⟩:=Mj m l;obtain⟨c,b,j⟩:=fE k g;exact⟨o,d,e,λs r=>cd.wider (.inl ⟨w,n,.of (y.le g.le)⟩) r,c,b,j⟩
   .obtain⟨d,y,k⟩:=Mj m l;obtain⟨c,b,j⟩:=fE k g;exact⟨o,d,e,λs _=>cd.free (.inl ⟨w,n,.of (y.le g.le)⟩) s,c,b,j⟩
  |false=>
   obtain⟨c,b,j⟩:=fE p g;exact⟨o,_,e,λs _=>.inr ⟨w,rfl⟩,c,b,j⟩
def sN(P:Program)(T:TypeId->Option TI)(N:Nat)(L:List Oper)(H:Nat×aE):List Nat->(aM->Prop)->aM->Prop
 |[],K,f=>K f
 |i::h,K,f=>kX P T N L H i (sN P T N L H h K) f
theorem nH(e:∀t i,T t=some i->aD P t=some i):∀{b:List Nat}{K:aM->Prop}{f:aM}{a:List D},sN P T N L H b K f->Sp N a f->jF P L.toArray (λs=>H∈s) (λn σ'=>σ'=σ/\∃c,Sp N n c/\K c) b a σ
 |[],K,f,a,h,b=>⟨rfl,f,b,h⟩
 |i::l,K,f,a,h,b=>by
  obtain⟨o,d,m,k,c,j,g⟩:=bh4 e (K:=sN P T N L H l K) h b;exact⟨o,d,m,k,nH e g j⟩
def Fh(P:Program)(T:TypeId->Option TI)(r:Option Nat)(n:Nat)(df:Nat)(N:Nat)(L:List Oper)(H:Nat×aE)(K:aM->af->Prop):eT->aM->af->Prop
 |.done,f,σ=>K f σ
 |.one i t,f,σ=>iH P T r n df N L i (λa σ'=>Sd (H∈σ') (Fh P T r n df N L H K t a σ')) f σ
 |.two i t j u,f,σ=>iH P T r n df N L i (λa σ'=>Sd (H∈σ') (Fh P T r n df N L H K t a σ')) f σ/\iH P T r n df N L j (λa σ'=>Sd (H∈σ') (Fh P T r n df N L H K u a σ')) f σ
 |.three i t j u k v,f,σ=>iH P T r n df N L i (λa σ'=>Sd (H∈σ') (Fh P T r n df N L H K t a σ')) f σ/\iH P T r n df N L j (λa σ'=>Sd (H∈σ') (Fh P T r n df N L H K u a σ')) f σ/\iH P T r n df N L k (λa σ'=>Sd (H∈σ') (Fh P T r n df N L H K v a σ')) f σ
 |.fst i t,f,σ=>kX P T N L H i (λa=>Fh P T r n df N L H K t a σ) f
 |_,_,_=>False
theorem LZ(g:∀t i,T t=some i->aD P t=some i){E:Nat->Bool}:∀{t:eT}{K:aM->af->Prop}{f:aM}{σ:af}{a:List D},fK E t=true->Fh P T r n df N L H K t f σ->Sp N a f->w6 P r n df L.toArray E (λs=>H∈s) (λp σ'=>∃m,Sp N p m/\K m σ') t a σ
 |.done,K,f,σ,a,c,h,l=>⟨f,l,h⟩
 |.one i t,K,f,σ,a,c,h,l=>by
  simp only[fK,zJ]at c;exact jl g c.1 h l (λm σ' p e b=>⟨e.s,LZ g c.2 e.k b⟩)
 |.two i t j u,K,f,σ,a,c,h,l=>by
  simp only[fK,zJ]at c;exact⟨jl g c.1 h.1 l (λm σ' p e b=>⟨e.s,LZ g c.2.1 e.k b⟩),jl g c.2.2.1 h.2 l (λm σ' p e b=>⟨e.s,LZ g c.2.2.2 e.k b⟩)⟩
 |.three i t j u k v,K,f,σ,a,c,h,l=>by
  simp only[fK,zJ]at c;exact⟨jl g c.1 h.1 l (λm σ' p e b=>⟨e.s,LZ g c.2.1 e.k b⟩),jl g c.2.2.1 h.2.1 l (λm σ' p e b=>⟨e.s,LZ g c.2.2.2.1 e.k b⟩),jl g c.2.2.2.2.1 h.2.2 l (λm σ' p e b=>⟨e.s,LZ g c.2.2.2.2.2 e.k b⟩)⟩
 |.fst i t,K,f,σ,a,c,h,l=>by
  simp only[fK]at c;obtain⟨o,d,x,e,m,w,q⟩:=bh4 (K:=λm=>Fh P T r n df N L H K t m σ) g h l;exact⟨o,d,x,e,LZ g c q w⟩
 |.four _ _ _ _ _ _ _ _,_,_,_,_,_,h,_=>h.elim
 |.five _ _ _ _ _ _ _ _ _ _,_,_,_,_,_,h,_=>h.elim
theorem H5(m:P.follows .mixedOrders=true)(j:∀t i,T t=some i->aD P t=some i){id:Nat}{O:Array Oper}(k:O=L.toArray)(H:Nat×aE)(b:List Nat)(u:Nat)(E:Nat->Bool)(t:eT){γ:Type}(c:γ->aM)(S:γ->af)(I:γ->Prop)
  (B:(Nat.beq (b.length+u) L.length&&JR .any L.toArray E u t b (Array.replicate L.length false)&&fK E t)=true) (l:H∈σ)
  (h:W (sN P T N L H b (λf1=>Fh P T r n df N L H (λf' σ'=>∃g,dK f' (gC (.region id O true) f (c g))/\Sc σ' (S g)/\I g) t f1 σ) f))
  (kk:∀g,I g->W (Fj (gC (.region id O true) f (c g)) λF=>Q .normal F (S g))):Lp P r n df N (.region id O true) Q f σ:=by
 subst k;simp only[zJ]at B;refine⟨λa d=>?_⟩;refine Zw (bb5 (S:=λs=>H∈s) (Q:=λe a' σ'=>e= .normal/\∃f',Sp N a' f'/\∃g,dK f' (gC (.region id L.toArray true) f (c g))/\Sc σ' (S g)/\I g) E b u t m (yH B.1.1) B.1.2 l (aU3 (λa' σ' o=>?_) (nH j h.h d))) ?_
 .obtain⟨rfl,f',h1,h2⟩:=o;have:=LZ j B.2 h2 h1;exact L7 (λa σ h=>⟨rfl,h⟩) this
 .exact DR
end
end
section
open Go
abbrev KJ(b:Nat)(p:eE):Nat×aE:=(b,.cells 31 (r6 p))
abbrev zP:List D:=[.v (zv ZV.str),.v (zv ZV.sl),.v (zv ZV.sl)]
theorem KP(l:List dw):((l.map xo).all λy=>y.all dH)=true:=by rw[yA];intro y h;obtain⟨f,_,rfl⟩:=xM.1 h;rfl
theorem Pi(xs:List Int)(i n:Int)(h:n<1):av xs i n=0:=by
 unfold av;split
 .rfl
 .exact(qF _ n).2.2 h
theorem KM(x y z u:Nat×aE)(s:af):(x::y::z::u::s).Perm (s++[x,y,z,u]):=yT (l₁:=[x,y,z,u]) (l₂:=s)
theorem NZ(x y z u:Nat×aE)(s:af):(s++[x,y,z,u]).Perm (x::y::z::u::s):=(KM x y z u s).symm
theorem N5:cL []:=⟨by simp,by simp⟩
theorem dh{A B:Prop}(k:B)(h:ar B->A:=by intro q7;(first|refine bQ ?_|refine aA ?_|(refine' ah ?hc ?_;(case hc=>first|exact HC2|exact HA6|exact HA7|exact HPB|exact HVL)));exact q7.1):A:=h ⟨k⟩
theorem R6{A B:Prop}(k:B)(h:ar B->A:=by intro q7;(first|refine bQ ?_|refine mx ?_|(refine' ah ?hc ?_;(case hc=>first|exact HC2|exact HA6|exact HA7|exact HPB|exact HVL)));exact q7.1):A:=h ⟨k⟩
theorem rH{A B:Prop}(k:B)(h:ar B->A:=by intro q7;(first|refine bQ ?_|refine ir ?_|(refine' ah ?hc ?_;(case hc=>first|exact HC2|exact HA6|exact HA7|exact HPB|exact HVL)));exact q7.1):A:=h ⟨k⟩
theorem IL{p:Prop}(h:p:=by rw[zL,zI,List.length_singleton];omega):p:=h
theorem XJ{p:Prop}(h:p:=by
 repeat' first|refine dh ?_|intro b;conv=>whnf
 exact⟨(j+1,pos,p),(aj aw),Sc.refl _,⟨by simp only;omega,⟨by simp only;omega,by simp only;omega⟩,hp,hse⟩,by simp only;omega⟩):p:=h
theorem Bi(x:ak)(h:ox x)(F:P9 x)(S:APure prog 44 [ax x] (.sl 4 []))(l:List Int)(hl:eB l):az prog 33 [ax x,bi l] [] (λd σ=>∃p is,d= .tup [ez p,bD is]/\σ=[]/\fY p/\(is=true->ow p.seed)):=by
 have hnk:=h.sm.nk;obtain⟨Q,is,M,HC2⟩:=px x h S l hl;have HA6:=YS l hl 6 26;have HA7:=YS l hl 7 256;have R:=dl l 6 26;have I:=dl l 7 256;have P:=R.2 (by omega);have O:=I.2 (by omega);obtain⟨a,ea⟩:∃a:Nat,av l 6 26=a:=⟨(av l 6 26).toNat,by omega⟩
 obtain⟨r,eb⟩:∃a:Nat,av l 7 256=a:=⟨(av l 7 256).toNat,by omega⟩
 rw[ea]at HA6 R P;rw[eb]at HA7 I O;have u:ow [97+a,r]:=⟨256*a+r,by omega,by unfold iQ gN;simp;omega⟩
 cases is with
 |false=>
  refine cU func33 ntmps33 λBB=>?_
  repeat' first|refine dh ?_|intro b;conv=>whnf
  exact Rt.by (σ':=[]) (d':=.tup [ez ⟨[],[],[]⟩,bD false]) (Vs.vd ⟨_,by rw[zZ]⟩ (Vd.tup (.cons (Vd.agg (.cons (Vd.same (λz k=>by cases k) _) (.cons (Vd.nil _) (.cons (Vd.nil _) .nil)))) (.cons (Vd.same (λz k=>by cases k) _) .nil)))) ⟨⟨[],[],[]⟩,false,rfl,rfl,⟨⟨by simp,by simp⟩,N5,by simp,by simp⟩,λe=>by cases e⟩
 |true=>
  refine cU func33 ntmps33 λBB=>?_
  repeat' first|refine dh ?_|intro b;conv=>whnf
  obtain⟨C,rfl⟩:∃c,c=b:=⟨_,rfl⟩
  refine Ot.yd (wx (m:=((97+a:Nat):Int)) rfl rfl underlying3 underlying5 (by rw[IntKind.wrap_u8];omega)) ?_
  repeat' first|refine dh ?_|intro b;conv=>whnf
  refine Ot.yd (wx (m:=((r:Nat):Int)) rfl rfl underlying3 underlying5 (by rw[IntKind.wrap_u8];omega)) ?_
  repeat' first|refine dh ?_|intro b;conv=>whnf
  refine Ot.yd (yj (l:=[97+a,r]) rfl rfl u.s.v underlying147 underlying5 underlying9) ?_
  repeat' first|refine R6 ?_|intro b;conv=>whnf
  generalize b=q;refine Bx.r (ci.box rfl rfl (λf=>?_))
  repeat' first|refine dh ?_|intro b;conv=>whnf
  refine aV mixed ai (γ:=Nat×Int×eE) (λg=>[(10,iD g.1)]) (λg=>[aB f l g.2.1,KJ q g.2.2,(C,.cells 31 zP)]) (λg=>g.1<=x.kz.length/\(8<=g.2.1/\g.2.1<=8+40*g.1)/\fY g.2.2/\g.2.2.seed=[97+a,r]) (λg=>x.kz.length-g.1) (0,8,⟨[97+a,r],Q,[]⟩) (aj aw) ?_ ⟨zW _,⟨by simp,by simp⟩,⟨u.s,M,by simp,by simp⟩,rfl⟩ ?_
  .have k:=Sc.frz (b:=q) (t:=31) (cs:=[D.v (.string (bx [97+a,r])),bi Q,D.v (zv ZV.sl)]) (j:=2) (τ:=[aB f l 8,(C,.cells 31 zP)]) (v:=zv ZV.sl) rfl (ae.nil 150 5) (dM.refl _);exact(Sc.perm (List.Perm.swap _ _ _)).trans (k.trans (Sc.perm (List.Perm.swap _ _ _)))
  rintro⟨i,pos,p⟩ ⟨hi,o,hp,hse⟩;simp only at hi o hp hse⊢;by_cases hil:i<x.kz.length
  case neg=>
   obtain rfl:i=x.kz.length:=by omega
   repeat' first|refine dh ?_|intro b;conv=>whnf
   refine mT ai (m:=2) rfl rfl rfl rfl rfl rfl rfl ?_
   repeat' first|refine dh ?_|intro b;conv=>whnf
   exact Rt.by (σ':=[]) (d':=.tup [ez p,bD true]) (Vs.vd ⟨_,by rw[zZ]⟩ (Vd.same (λz k=>by cases k) _)) ⟨p,true,rfl,rfl,hp,λ_=>by rw[hse];exact u⟩
  obtain⟨kd,G⟩:∃y,x.kz[i]?=some y:=⟨_,zD hil⟩
  have hk':x.kz[((i:Nat):Int).toNat]?=some kd:=G;have hnf:=h.sm.nf kd (zG G)
  repeat' first|refine dh ?_|intro b;conv=>whnf
  refine aV mixed ai (γ:=Nat×Int×eE) (λg=>[(11,iD g.1)]) (λg=>[aB f l g.2.1,KJ q g.2.2,(C,.cells 31 zP)]) (λg=>g.1<=kd.fields.length/\(8<=g.2.1/\g.2.1<=8+40*i+4*g.1)/\fY g.2.2/\g.2.2.seed=[97+a,r]) (λg=>kd.fields.length-g.1) (0,pos,p) (aj aw) (Sc.refl _) ⟨zW _,⟨by simp only;omega,by simp only;omega⟩,hp,hse⟩ ?_;clear hp hse o;rintro⟨j,pos,p⟩ ⟨hj,o,hp,hse⟩;simp only at hj o hp hse⊢;have hpn:=hp.n;by_cases hjl:j<kd.fields.length
  case neg=>
   obtain rfl:j=kd.fields.length:=by omega
   repeat' first|refine dh ?_|intro b;conv=>whnf
   exact⟨(i+1,pos,p),(aj aw),Sc.refl _,⟨by simp only;omega,⟨by simp only;omega,by simp only;omega⟩,hp,hse⟩,by simp only;omega⟩
  obtain⟨d,L⟩:∃y,kd.fields[j]?=some y:=⟨_,zD hjl⟩
  have hf':kd.fields[((j:Nat):Int).toNat]?=some d:=L;have hdb:=F kd (zG G) d (zG L);obtain⟨pb,_,HPB⟩:=aD4 x h.sm i j kd d G L
  cases pb with
  |false=>exact XJ
  |true=>
   by_cases hpl:1<p.plants.length
   .exact XJ
   by_cases ht:av l pos 3=0
   .repeat' first|refine dh ?_|intro b;conv=>whnf
    ((refine ba (ek l hl f _ _ ⟨by omega,by omega⟩) (zH ([aB f l _]++_)) (λs=>s++_) (λs=>zH _) ?_);(rintro _ _ ⟨rfl,rfl⟩))
    repeat' first|refine dh ?_|intro b;conv=>whnf
    exact⟨(j+1,pos+1,p),(aj aw),Sc.refl _,⟨by simp only;omega,⟨by simp only;omega,by simp only;omega⟩,hp,hse⟩,by simp only;omega⟩
   have Y:=dl l (pos+1) (d.hi-d.lo+1);have J:=Pi l (pos+1) (d.hi-d.lo+1);have X:=dl l (pos+1+1) 2;have V:=X.2 (by omega);have U:=dl l (pos+1+1+1) 3;have T:=U.2 (by omega)
   repeat' first|refine dh ?_|intro b;conv=>whnf
   ((refine ba (ek l hl f _ _ ⟨by omega,by omega⟩) (zH ([aB f l _]++_)) (λs=>s++_) (λs=>zH _) ?_);(rintro _ _ ⟨rfl,rfl⟩))
   repeat' first|refine rH ?_|intro b;conv=>whnf
   obtain⟨b12,rfl⟩:∃c,c=b:=⟨_,rfl⟩
   refine jI ?_;refine xz (i:=12) (d':=.ro (aH d)) (τ:=[aB f l (pos+1),KJ q p,(C,.cells 31 zP)]) rfl (λh=>by cases h) (Vs.ptr (tb:=81) (zH _)) ?_;refine lu mixed ai rfl [0,1,2,3,4,5,6,7,8,9,10,11,12,13,14,15,16,19,22] 9 (jE [17,20,23,26,27]) (.two 17 (.fst 18 (.two 20 (.fst 21 (.two 23 (.fst 24 (.fst 25 (.one 26 (.one 27 .done)))) 26 (.one 23 (.fst 24 (.fst 25 (.one 27 .done)))))) 26 (.one 20 (.fst 21 (.one 23 (.fst 24 (.fst 25 (.one 27 .done)))))))) 26 (.one 17 (.fst 18 (.one 20 (.fst 21 (.one 23 (.fst 24 (.fst 25 (.one 27 .done)))))))))
    (γ:=Nat) (λg=>[(13,.v (.pointer (some ⟨g,0,none⟩)))]) (λg=>[aB f l (pos+1+1+1+1),(g,.cells 150 (xo ⟨kd.name,d.name,d.lo+av l (pos+1) (d.hi-d.lo+1),1+av l (pos+1+1) 2,1+av l (pos+1+1+1) 3⟩)),KJ q p,(C,.cells 31 zP)]) (λ_=>True) (by decide +kernel) ?_ ?_
   .repeat' first|refine rH ?_|intro b;conv=>whnf|(refine And.intro ?_ ?_<;>(conv=>whnf))|((refine ba (ek l hl f _ _ ⟨by omega,by omega⟩) (zH ([aB f l _]++_)) (λs=>s++_) (λs=>zH _) ?_);(rintro _ _ ⟨rfl,rfl⟩))|((refine ba (ek l hl f _ _ ⟨by omega,by omega⟩) (show List.Perm (_::aB f l _::_) ([aB f l _]++(_::_)) from List.Perm.swap _ _ _) (λs=>s++(_::_)) (λs=>zH _) ?_);(rintro _ _ ⟨rfl,rfl⟩))|((refine ba (ek l hl f _ _ ⟨by omega,by omega⟩) (show List.Perm (_::_::aB f l _::_) ([aB f l _]++(_::_::_)) from List.perm_middle (l₁:=[_,_])) (λs=>s++(_::_::_)) (λs=>zH _) ?_);(rintro _ _ ⟨rfl,rfl⟩))
    all_goals exact⟨b,(aj aP),Sc.perm O1,trivial⟩
   rintro b13 _
   repeat' first|refine rH ?_|intro b;conv=>whnf
   have K:lG ⟨kd.name,d.name,d.lo+av l (pos+1) (d.hi-d.lo+1),1+av l (pos+1+1) 2,1+av l (pos+1+1+1) 3⟩:=by
    refine⟨?_,⟨by simp only;omega,by simp only;omega⟩,⟨by simp only;omega,by simp only;omega⟩⟩;simp only;by_cases e:d.hi-d.lo+1<1
    .have:=J e;omega
    .have:=Y.2 (by omega);omega
   generalize hy:(⟨kd.name,d.name,d.lo+av l (pos+1) (d.hi-d.lo+1),1+av l (pos+1+1) 2,1+av l (pos+1+1+1) 3⟩:dw)=y at *;have E:fY ⟨p.seed,p.counts,p.plants++[y]⟩:=⟨hp.sd,hp.cs,by simp only[zI,List.length_singleton];omega,λz k=>by
    rcases zO.1 k with k|k
    .exact hp.v z k
    .rw[zN]at k;subst k;exact K⟩
   obtain⟨e,_,HVL⟩:=be0 x h F S ⟨p.seed,p.counts,p.plants++[y]⟩ E;refine jI ?_;refine xz (i:=13) (d':=.ro (xo y)) (τ:=[KJ q p,aB f l (pos+1+1+1+1),(C,.cells 31 zP)]) rfl (λh=>by cases h) (Vs.ptr (tb:=150) (iT λa=>by simp only[iS,jh];omega)) ?_;refine H5 mixed ai rfl (KJ q p) [0,1,2,3,5,6,8,9] 6 (jE [4,7,10,12,13]) (.two 4 (.two 7 (.two 10 (.fst 11 (.one 12 (.one 13 .done))) 12 (.one 10 (.fst 11 (.one 13 .done)))) 12 (.one 7 (.one 10 (.fst 11 (.one 13 .done))))) 12 (.one 4 (.one 7 (.one 10 (.fst 11 (.one 13 .done))))))
    (γ:=Nat) (λg=>[(14,.v (.pointer (some ⟨g,0,none⟩)))]) (λg=>[KJ g ⟨p.seed,p.counts,p.plants++[y]⟩,KJ q p,aB f l (pos+1+1+1+1),(C,.cells 31 zP)]) (λ_=>True) (by decide +kernel) (List.Mem.head _) ?_ ?_
   .repeat' first|((with_reducible refine Sd.go ?qm5 ?_);(case qm5=>(repeat(first|exact List.Mem.head _|refine List.Mem.tail _ ?_));done))|refine rH ?_|intro b;conv=>whnf|(refine And.intro ?_ ?_<;>(conv=>whnf))|(refine Ap.frz rfl rfl rfl rfl w (KM _ _ _ _ _) rfl (zs:=(p.plants++[y]).map xo) (by rw[yB];rfl) IL IL ?_)|(refine Ap.frz rfl rfl rfl rfl w (at7 _ _ _ _) rfl (zs:=(p.plants++[y]).map xo) (by rw[yB];rfl) IL IL ?_)|(refine Ap.go rfl rfl rfl rfl (ae.e0 150 5 _) (zH ([]++_)) (KP p.plants) (zs:=p.plants.map xo) rfl (by rw[zL];omega) (by rw[zL];omega) (λs=>_::_::_::_::s) (NZ _ _ _ _) (λI c7 Z w=>?_))|(refine Ap.go rfl rfl rfl rfl (ae.e0 150 5 _) (zH ([]++_)) (KP p.plants) (zs:=p.plants.map xo) rfl (by rw[zL];omega) (by rw[zL];omega) (λs=>_::_::_::s) (an9 _ _ _) (λI c7 Z w=>?_))
    all_goals first|exact⟨b,(aj aP),Sc.refl _,trivial⟩|(rename_i bq;exact⟨bq,(aj aP),Sc.refl _,trivial⟩)
   rintro b14 _;by_cases he:e=0
   .repeat' first|refine dh ?_|intro b;conv=>whnf
    exact⟨(j+1,pos+1+1+1+1,⟨p.seed,p.counts,p.plants++[y]⟩),(aj aw),(Sc.sl (yG _ _)).trans (Sc.perm (List.Perm.swap _ _ _)),⟨by simp only;omega,⟨by simp only;omega,by simp only;omega⟩,E,hse⟩,by simp only;omega⟩
   .repeat' first|refine dh ?_|intro b;conv=>whnf
    exact⟨(j+1,pos+1+1+1+1,p),(aj aw),(Sc.sl (yG _ _)).trans (Sc.perm (List.Perm.swap _ _ _)),⟨by simp only;omega,⟨by simp only;omega,by simp only;omega⟩,hp,hse⟩,by simp only;omega⟩
end
section
open Go
structure iN(x:ak)(p:eE):Prop where
 gx:bJ x
 sd:ow p.seed
 pl:fY p
 ok:gu x p
 hv:APure prog 60 [ax x,ez p] (iD 0)
 ng:∀(i:Nat)k,x.kz[i]?=some k->p.counts.getD i 0≠0->eK (k.fields.length+1) (cE k.fields.length (cg x i k))=false
theorem sx{x:ak}{i:Nat}{k:au}(a:x.kz[i]?=some k){l:gI}(h:l∈Co x i k):l∈eM x:=by
 unfold eM;refine List.mem_flatMap.2 ⟨i,xT.2 (zE.1 a).1,?_⟩;rw[a];exact h
theorem gu.cnt{x:ak}{p:eE}(h:gu x p)(g:bJ x){i:Nat}{k:au}(a:x.kz[i]?=some k):∃c:Nat,p.counts[i]?=some (c:Int)/\c<=8:=by
 have l:=(zE.1 a).1;have j:=(g.hx.form i k a).lohi;obtain⟨c,b⟩:∃c,p.counts[i]?=some c:=⟨_,zD (by rw[h.cl];exact l)⟩
 have d:=yA.1 h.lim ⟨i,-1,k.hi,false⟩ (sx a (xK _ (by simp)));unfold i7 at d;simp only[zJ]at d;obtain⟨⟨_,f⟩,e⟩:=d;have n:=yA.1 f c (zG b);simp only[zJ,zQ]at n;simp only[dX,wG,uC,zQ,Int.toNat_natCast,List.getD_eq_getElem?_getD,b,Option.getD_some]at e;rw[if_neg (by omega)]at e;exact⟨c.toNat,by rw[b];congr 1;omega,by omega⟩
theorem Lv{p:Prop}(h:p:=by
 rw[Zv ((KZ hk j).trans hf) (ve hk),if_neg (by omega),if_pos h1]at hu;unfold refUp at hu;split at hu<;>omega):p:=h
theorem FQ{x:ak}{i j t:Nat}{k:au}{f:am}(hk:x.kz[i]?=some k)(hf:k.fields[j]?=some f)(h1:f.kind=1)(hu:aI x i j=t):bc x f.of=t:=Lv
theorem gu.ref{x:ak}{p:eE}(h:gu x p){i j t:Nat}{k:au}{f:am}(g:x.kz[i]?=some k)(l:k.fields[j]?=some f)(m:f.kind=1)(u:aI x i j=t){a b:Nat}(o:p.counts[i]?=some (a:Int))(n:p.counts[t]?=some (b:Int))(q:0<a):1<=b:=by
 have c:=yA.1 h.lim ⟨i,bc x f.of,f.hi,false⟩ (sx g (yW _ (List.mem_flatMap.2 ⟨f,zG l,by unfold eN;rw[if_pos m];simp⟩)));rw[FQ g l m u]at c;unfold i7 at c;simp only[zJ]at c;have d:=c.2;simp only[dX,wG,uC,zQ,Int.toNat_natCast,List.getD_eq_getElem?_getD,o,n,Option.getD_some]at d;rw[if_pos (by omega)]at d;by_cases e:b=0
 .subst e;simp at d;omega
 .omega
theorem jt{A B:Prop}(k:B)(h:ar B->A:=by intro q7;(first|refine bQ ?_|refine aA ?_|(refine' ah ?hc ?_;(case hc=>first|exact HV|exact HD|exact HC2)));exact q7.1):A:=h ⟨k⟩
theorem sU{p:Prop}(h:p:=by
 repeat refine jt ?_
 exact⟨i+1,(aj aw),Sc.refl _,by omega,by omega⟩):p:=h
theorem ux(x:ak)(h:bJ x)(R:APure prog 44 [ax x] (.sl 4 []))(p:eE)(I:fY p)(t:ow p.seed):∃e,(e=0->iN x p)/\APure prog 61 [ax x,ez p] (iD e):=by
 have O:=h.nk;obtain⟨J,D,HV⟩:=be0 x h.lim h.fbs R p I;by_cases h0:J=0
 case neg=>
  refine⟨J,λe=>absurd e h0,?_⟩;refine ao func61 ntmps61 λK=>?_
  repeat refine jt ?_
  refine Rt.pure (zM iD ?_);rfl
 subst h0;have b:=D rfl;have M:=b.cl;by_cases hb:∃i:Nat,∃k,x.kz[i]?=some k/\p.counts.getD i 0≠0/\eK (k.fields.length+1) (cE k.fields.length (cg x i k))=true
 .obtain⟨S,w⟩:=hb;obtain⟨s,_,⟨L,j,Q,b2⟩,r⟩:=ww (p:=λi:Nat=>∃k,x.kz[i]?=some k/\p.counts.getD i 0≠0/\eK (k.fields.length+1) (cE k.fields.length (cg x i k))=true) w;have P:=(zE.1 j).1;refine⟨14,(λe=>by cases e),?_⟩;refine ao func61 ntmps61 λK=>?_
  repeat refine jt ?_
  refine aV mixed ai (γ:=Nat) (λq=>[(6,iD q)]) (λ_=>[]) (λq=>q<=s) (λq=>s-q) 0 (aj aw) (Sc.refl _) (zW _) ?_;intro i hi;obtain⟨kd,a⟩:∃y,x.kz[i]?=some y:=⟨_,zD (by omega)⟩
  have v:x.kz[((i:Nat):Int).toNat]?=some kd:=a;obtain⟨c,hc,F⟩:=b.cnt h a;have G:p.counts[((i:Nat):Int).toNat]?=some (c:Int):=hc;have g:p.counts.getD i 0=c:=by rw[List.getD_eq_getElem?_getD,hc];rfl
  have HD:=aN4 x h.sm i kd a (λf C=>(h.fbs kd (zG a) f C).1);have HC2:APure prog 105 [iD ((kd.fields.map aH).length:Nat),me (cg x i kd)] (if eK (kd.fields.length+1) (cE kd.fields.length (cg x i kd))then .tup [fP [],iD 14]else .tup [fP (rx (kd.fields.length+1) (cE kd.fields.length (cg x i kd))),iD 0]):=by
   rw[zL];exact aN8 kd.fields.length (cg x i kd) (Iz h a)
  have E:=(zE.1 hc).1;by_cases hii:i<s
  .by_cases l:c=0
   .subst l;exact sU
   .have u:eK (kd.fields.length+1) (cE kd.fields.length (cg x i kd))=false:=by
     cases z:eK (kd.fields.length+1) (cE kd.fields.length (cg x i kd))with
     |false=>rfl
     |true=>exact absurd ⟨kd,a,by rw[g];omega,z⟩ (r i hii)
    rw[u,if_neg (by decide)]at HC2;exact sU
  .obtain rfl:i=s:=by omega
   obtain rfl:L=kd:=by rw[a]at j;exact(wK j).symm
   rw[b2,if_pos rfl]at HC2;rw[g]at Q
   repeat refine jt ?_
   refine Rt.pure (zM iD ?_);rfl
 .have o:∀(i:Nat)k,x.kz[i]?=some k->p.counts.getD i 0≠0->eK (k.fields.length+1) (cE k.fields.length (cg x i k))=false:=λi k a hc=>by
   cases z:eK (k.fields.length+1) (cE k.fields.length (cg x i k))with
   |false=>rfl
   |true=>exact absurd ⟨i,k,a,hc,z⟩ hb
  refine⟨0,λ_=>⟨h,t,I,b,HV,o⟩,?_⟩;refine ao func61 ntmps61 λK=>?_
  repeat refine jt ?_
  refine aV mixed ai (γ:=Nat) (λq=>[(6,iD q)]) (λ_=>[]) (λq=>q<=x.kz.length) (λq=>x.kz.length-q) 0 (aj aw) (Sc.refl _) (zW _) ?_;intro i hi;by_cases hii:i<x.kz.length
  .obtain⟨kd,a⟩:∃y,x.kz[i]?=some y:=⟨_,zD (by omega)⟩
   have v:x.kz[((i:Nat):Int).toNat]?=some kd:=a;obtain⟨c,hc,F⟩:=b.cnt h a;have G:p.counts[((i:Nat):Int).toNat]?=some (c:Int):=hc;have g:p.counts.getD i 0=c:=by rw[List.getD_eq_getElem?_getD,hc];rfl
   have HD:=aN4 x h.sm i kd a (λf C=>(h.fbs kd (zG a) f C).1);have HC2:APure prog 105 [iD ((kd.fields.map aH).length:Nat),me (cg x i kd)] (if eK (kd.fields.length+1) (cE kd.fields.length (cg x i kd))then .tup [fP [],iD 14]else .tup [fP (rx (kd.fields.length+1) (cE kd.fields.length (cg x i kd))),iD 0]):=by
    rw[zL];exact aN8 kd.fields.length (cg x i kd) (Iz h a)
   have E:=(zE.1 hc).1;by_cases l:c=0
   .subst l;exact sU
   .rw[o i kd a (by rw[g];omega),if_neg (by decide)]at HC2;exact sU
  .obtain rfl:i=x.kz.length:=by omega
   repeat refine jt ?_
   refine Rt.pure (zM iD ?_);rfl
abbrev GU(p:eE)(i j a b:Nat)(f:am):tt:=⟨p.seed,[2,(i:Int),(j:Int)],a,b,f.lo,f.hi⟩
theorem NB{x:ak}{p:eE}(h:iN x p){i j a b:Nat}(hi:i<=2)(g:j<=10)(e:a<=8)(d:b<=8){f:am}(r:0<=f.lo/\f.lo<=f.hi/\f.hi<=8):lF (GU p i j a b f) where
 sd:=h.sd.s
 pl:=by simp
 pv:=λv c=>by
  simp only[zU,yF,xE]at c;rcases c with rfl|rfl|rfl<;>(constructor<;>omega)
 fr:=e
 to:=d
 lo:=r.1
 le:=r.2.1
 hi:=by show f.hi<=100;omega
theorem kD(x:ak)(h:oO x)(p:eE)(i j t:Nat)(k:au)(f:am)(e:x.kz[i]?=some k)(g:k.fields[j]?=some f)(u:aI x i j=t)(a b:Nat)(w:p.counts[i]?=some (a:Int))(hb:p.counts[t]?=some (b:Int)):APure prog 150 [ax x,ez p,iD i,iD j] (Qh (GU p i j a b f)):=by
 have l:=h.nk;have HU:=PY x i j (by omega) (λk e=>by have:=h.nf k e;omega);rw[u]at HU;have n:=(zE.1 e).1;have q:=(zE.1 g).1;have o:x.kz[((i:Nat):Int).toNat]?=some k:=e;have r:k.fields[((j:Nat):Int).toNat]?=some f:=g;have v:p.counts[((i:Nat):Int).toNat]?=some (a:Int):=w;have s:p.counts[((t:Nat):Int).toNat]?=some (b:Int):=hb;refine ao func150 ntmps150 λy=>?_
 repeat' first|refine cq ?_|intro b;conv=>whnf
 refine Rs.c ai (m:=1) rfl rfl rfl rfl rfl rfl ?_
 repeat' first|refine cq ?_|intro b;conv=>whnf
 exact Rt.pure rfl
end
section
open Go
def EY(sd:List Nat)(k i idx:Nat)(f:am):Int:=if f.kind=2 then dL sd [3,(k:Int),(i:Int),(idx:Int)] 1099511627776 else if f.kind=4 then dL sd [5,(k:Int),(i:Int),(idx:Int)] 1099511627776 else 0
def uN(sd:List Nat)(kd:au)(k idx:Nat):Nat->List Int
 |0=>[]
 |i+1=>uN sd kd k idx i++[match kd.fields[i]? with|some f=>EY sd k i idx f|none=>0]
theorem NP(sd:List Nat)(k i idx:Nat)(f:am):0<=EY sd k i idx f/\EY sd k i idx f<=1099511627776:=by
 unfold EY;have a:=E0 (sd:=sd) (p:=[3,(k:Int),(i:Int),(idx:Int)]) (n:=1099511627776) (by decide);have h:=E0 (sd:=sd) (p:=[5,(k:Int),(i:Int),(idx:Int)]) (n:=1099511627776) (by decide);split
 .omega
 .split<;>omega
theorem pS(sd:List Nat)(kd:au)(k idx:Nat):∀q,(uN sd kd k idx q).length=q/\∀v∈uN sd kd k idx q,0<=v/\v<=1099511627776
 |0=>by simp[uN]
 |q+1=>by
  obtain⟨b,a⟩:=pS sd kd k idx q;refine⟨by rw[uN,zI,b];rfl,λv h=>?_⟩;rw[uN]at h;rcases zO.1 h with h|h
  .exact a v h
  .rw[zN]at h;subst h;split
   .exact NP ..
   .omega
theorem pQ{a:Int}(d:0<=a/\a<=100){k i idx:Nat}(b:k<=100)(c:i<=100)(hx:idx<=100):xg [a,(k:Int),(i:Int),(idx:Int)]:=⟨by simp,λv h=>by
 simp only[zU,yF,xE]at h;rcases h with rfl|rfl|rfl|rfl<;>(constructor<;>omega)⟩
theorem mg{A B:Prop}(k:B)(h:ar B->A:=by intro q7;(first|refine bQ ?_|refine aA ?_|(refine' ah ?hc ?_;(case hc=>first|exact HB3|exact HB5|exact HD|exact HF)));exact q7.1):A:=h ⟨k⟩
theorem bB7{p:Prop}(h:p:=by rw[uN,hf0,yB];simp only;rw[epk];rfl):p:=h
theorem OU{p:Prop}(h:p:=by
 repeat refine mg ?_
 refine Ap.go rfl rfl rfl rfl hr (bR _) rfl (zs:=(uN p.seed kd k idx (i+1)).map λn=>[iD n]) bB7 (by rw[zL];omega) (by rw[zL];omega) (λs'=>s') cZ (λa' c' s' hr=>?_)
 repeat refine mg ?_
 exact⟨(i+1,_,s'),(aj aw),Sc.refl _,⟨by simp only;omega,hr⟩,by simp only;omega⟩):p:=h
theorem mM(x:ak)(p:eE)(h:iN x p)(k idx:Nat)(hx:idx<=100)(kd:au)(a:x.kz[k]?=some kd)(hc:p.counts.getD k 0≠0):∃l:List Int,l.length=kd.fields.length/\(∀v∈l,-4294967296<=v/\v<=4294967296)/\APure prog 197 [ax x,ez p,iD k,iD idx] (bi l):=by
 have b:=h.gx;have E:=b.nk;have G:=(zE.1 a).1;have I:x.kz[((k:Nat):Int).toNat]?=some kd:=a;have j:=b.sm.nf kd (zG a);have e:=h.ng k kd a hc;have R:=IK b a e;have S:=Iz b a;have r:=KG (n:=kd.fields.length) j;have D:=SY (n:=kd.fields.length+1);have q:(0:Int)<=2 ^ (kd.fields.length+1)*2097152:=by omega
 obtain⟨w,u⟩:=pS p.seed kd k idx kd.fields.length;have HD:=aN4 x b.sm k kd a (λf t=>(b.fbs kd (zG a) f t).1);have HF:APure prog 238 [iD ((kd.fields.map aH).length:Nat),me (cg x k kd),bi (uN p.seed kd k idx kd.fields.length)] (.tup [bi (co kd.fields.length (cE kd.fields.length (cg x k kd)) (uN p.seed kd k idx kd.fields.length) kd.fields.length),iD 0]):=by
  rw[zL];exact Bq _ _ S e _ q R _ w u
 have o:=qn R (uN p.seed kd k idx kd.fields.length) kd.fields.length (zT _);refine⟨_,o.l,λv C=>by have:=o.v v C;omega,?_⟩;generalize co kd.fields.length (cE kd.fields.length (cg x k kd)) (uN p.seed kd k idx kd.fields.length) kd.fields.length=z at *;refine ao func197 ntmps197 λJ=>?_
 repeat refine mg ?_
 refine aV mixed ai (γ:=Nat×Value×af) (λg=>[(11,iD g.1),(9,.v g.2.1)]) (λg=>g.2.2) (λg=>g.1<=kd.fields.length/\J' (uN p.seed kd k idx g.1) g.2.1 g.2.2) (λg=>kd.fields.length-g.1) (0,.slice none 0 0,[]) (aj aw) (Sc.refl _) ⟨zW _,ae.nil _ _⟩ ?_;rintro⟨i,v,s⟩ ⟨hi,hr⟩;simp only at hi hr⊢;by_cases hil:i<kd.fields.length
 .obtain⟨f,hf0⟩:∃y,kd.fields[i]?=some y:=⟨_,zD hil⟩
  have t:kd.fields[((i:Nat):Int).toNat]?=some f:=hf0;have F:=(pS p.seed kd k idx (i+1)).1;have HB3:=Qv p.seed h.sd.s [3,(k:Int),(i:Int),(idx:Int)] (pQ (by omega) (by omega) (by omega) hx) 1099511627776 (DG _ _ (.inr (.inr rfl)));have HB5:=Qv p.seed h.sd.s [5,(k:Int),(i:Int),(idx:Int)] (pQ (by omega) (by omega) (by omega) hx) 1099511627776 (DG _ _ (.inr (.inr rfl)));by_cases h2:f.kind=2
  .have epk:EY p.seed k i idx f=dL p.seed [3,(k:Int),(i:Int),(idx:Int)] 1099511627776:=by unfold EY;rw[if_pos h2]
   exact OU
  .by_cases h4:f.kind=4
   .have epk:EY p.seed k i idx f=dL p.seed [5,(k:Int),(i:Int),(idx:Int)] 1099511627776:=by unfold EY;rw[if_neg h2,if_pos h4]
    exact OU
   .have epk:EY p.seed k i idx f=0:=by unfold EY;rw[if_neg h2,if_neg h4]
    exact OU
 .obtain rfl:i=kd.fields.length:=by omega
  repeat refine mg ?_
  refine CE.gives (.cons (Vs.refl _ _) (.cons (Vs.refl _ _) (.cons (Vs.row hr (bR _)) (.nil _)))) HF ?_
  repeat refine mg ?_
  exact Rt.pure rfl
theorem D9{sd:List Nat}{p:List Int}{n:Int}(h:n≠0):0<=dL sd p n/\(dL sd p n<n\/dL sd p n < -n):=by
 by_cases h0:0<n
 .have:=E0 (sd:=sd) (p:=p) h0;omega
 .have e:dL sd p n=dL sd p (-n):=by unfold dL;rw[Int.tmod_neg]
  have:=E0 (sd:=sd) (p:=p) (n:=-n) (by omega);rw[e];omega
theorem Ip{x:ak}(h:bJ x){k f:Nat}{kd:au}{d:am}(a:x.kz[k]?=some kd)(b:kd.fields[f]?=some d){y:dw}(g:bc x y.kind=k)(c:y.field=d.name):cC x y=((k:Int),(f:Int)):=by
 unfold cC;have e:=xt (h.hx.form k kd a).nodup b;rw[g,ve a];simp only;rw[c,e,if_neg (by omega)]
theorem gB{A B:Prop}(k:B)(h:ar B->A:=by intro q7;(first|refine bQ ?_|refine aA ?_|(refine' ah ?hc ?_;(case hc=>first|exact HK|exact HN|exact HV|exact HF|exact HB|exact HS)));exact q7.1):A:=h ⟨k⟩
theorem cq4{p:Prop}(h:p:=by
 refine ao func151 ntmps151 λBB=>?_
 repeat' first|refine gB ?_|intro b;conv=>whnf
 obtain⟨b12,rfl⟩:∃c,c=b:=⟨_,rfl⟩
 refine aV mixed ai (γ:=Nat×Bool) (λg=>[(13,iD g.1),(11,bD g.2)]) (λ_=>[(b12,.cells 78 (bv kd))]) (λg=>g.1<=p.plants.length/\((∃i:Nat,i<g.1/\∃y,p.plants[i]?=some y/\bc x y.kind=k/\y.field=d.name)->g.2=true)) (λg=>p.plants.length-g.1) (0,false) (aj aw) (Sc.refl _) ⟨zW _,λ⟨i,h,_⟩=>absurd h (by simp)⟩ ?_;rintro⟨i,pl⟩ ⟨hi,hpl⟩;simp only at hi hpl⊢;by_cases hil:i<p.plants.length
 .obtain⟨y,hy0⟩:∃y,p.plants[i]?=some y:=⟨_,zD hil⟩
  have hy:p.plants[((i:Nat):Int).toNat]?=some y:=hy0;have HK:=EA x y.kind (by omega);have hno:¬(bc x y.kind=k/\y.field=d.name)->(∃q:Nat,q<i+1/\∃y,p.plants[q]?=some y/\bc x y.kind=k/\y.field=d.name)->pl=true:=by
   rintro hn ⟨q,hq,z,hz,hzk⟩;by_cases e:q=i
   .subst e;rw[hy0]at hz;cases hz;exact absurd hzk hn
   .exact hpl ⟨q,by omega,z,hz,hzk⟩
  by_cases e1:bc x y.kind=k
  .cases e2:(y.field.toList==d.name.toList)with
   |false=>
    repeat' first|refine gB ?_|intro b;conv=>whnf
    exact⟨(i+1,pl),(aj aw),Sc.refl _,⟨by simp only;omega,hno (λhh=>by have:=(Ek _ _).2 hh.2;unfold seq at this;rw[e2]at this;cases this)⟩,by simp only;omega⟩
   |true=>
    repeat' first|refine gB ?_|intro b;conv=>whnf
    exact⟨(i+1,true),(aj aw),Sc.refl _,⟨by simp only;omega,λ_=>rfl⟩,by simp only;omega⟩
  .repeat' first|refine gB ?_|intro b;conv=>whnf
   exact⟨(i+1,pl),(aj aw),Sc.refl _,⟨by simp only;omega,hno (λhh=>e1 hh.1)⟩,by simp only;omega⟩
 obtain rfl:i=p.plants.length:=by omega
 obtain⟨q1,hq1⟩:=yO hy1;obtain rfl:pl=true:=hpl ⟨q1,(zE.1 hq1).1,y1,hq1,hk1,hf1⟩
 repeat' first|refine gB ?_|intro b;conv=>whnf
 refine Rt.pure (zM iD ?_);rfl):p:=h
theorem Lf{p:Prop}(h:p:=by
 repeat' first|refine gB ?_|intro b;conv=>whnf
 exact⟨i+1,(aj aw),Sc.refl _,by omega,by omega⟩):p:=h
theorem aS6(x:ak)(p:eE)(h:iN x p)(k idx f:Nat)(kd:au)(d:am)(a:x.kz[k]?=some kd)(j:kd.fields[f]?=some d)(h24:d.kind=2\/d.kind=4)(c:Nat)(hc:p.counts[k]?=some (c:Int))(hi:idx<c):∃v,(-4294967296<=v/\v<=4294967296)/\APure prog 151 [ax x,ez p,iD k,iD idx,iD f] (iD v):=by
 have o:=h.gx;have O:=o.nk;have L:=h.pl.n;have T:=(zE.1 a).1;have V:=(zE.1 j).1;have U:x.kz[((k:Nat):Int).toNat]?=some kd:=a;have Y:kd.fields[((f:Nat):Int).toNat]?=some d:=j;have P:=o.sm.nf kd (zG a);obtain⟨c',C,Z⟩:=h.ok.cnt o a;obtain rfl:c=c':=by rw[hc]at C;have:=wK C;omega
 have E:p.counts.getD k 0=c:=by rw[List.getD_eq_getElem?_getD,hc];rfl
 have X:=o.fb a j;obtain⟨l,hl,G,HN⟩:=mM x p h k idx (by omega) kd a (by rw[E];omega);obtain⟨F,r⟩:∃z,l[f]?=some z:=⟨_,zD (by omega)⟩
 have R:l[((f:Nat):Int).toNat]?=some F:=r;have t:=G F (zG r);obtain⟨v,b,hv,hb,HV⟩:=uy x o.sm p h.pl h.hv k f kd d a j c hc (by omega) idx hi;by_cases hpl:∃y∈p.plants,bc x y.kind=k/\y.field=d.name
 case neg=>
  refine⟨F,t,?_⟩;refine ao func151 ntmps151 λBB=>?_
  repeat' first|refine gB ?_|intro b;conv=>whnf
  obtain⟨b12,rfl⟩:∃c,c=b:=⟨_,rfl⟩
  refine aV mixed ai (γ:=Nat) (λi=>[(13,iD i),(11,bD false)]) (λ_=>[(b12,.cells 78 (bv kd))]) (λi=>i<=p.plants.length) (λi=>p.plants.length-i) 0 (aj aw) (Sc.refl _) (zW _) ?_;intro i hi;by_cases hil:i<p.plants.length
  .obtain⟨y,hy0⟩:∃y,p.plants[i]?=some y:=⟨_,zD hil⟩
   have hy:p.plants[((i:Nat):Int).toNat]?=some y:=hy0;have HK:=EA x y.kind (by omega);by_cases e1:bc x y.kind=k
   .have e2:(y.field.toList==d.name.toList)=false:=by
     cases hh:(y.field.toList==d.name.toList)with
     |false=>rfl
     |true=>exact absurd ⟨y,zG hy0,e1,(Ek _ _).1 hh⟩ hpl
    exact Lf
   .exact Lf
  .obtain rfl:i=p.plants.length:=by omega
   repeat' first|refine gB ?_|intro b;conv=>whnf
   refine Rt.pure (zM iD ?_);rfl
 obtain⟨y1,hy1,hk1,hf1⟩:=hpl;have w:=Ip o a j hk1 hf1;have h2:d.kind=2:=(h.ok.pl y1 hy1).2 k f kd d w a j;have HF:=Bm x o.sm p h.pl h.hv k f kd d a j h2 (by omega) (by omega);have Q:=kL h.pl.v (dS x p.plants k f p.plants.length);have M:=I5 x p.plants k f p.plants.length;have S:fe x p.plants d k f=d.hi-d.lo+1-iy p.plants (dS x p.plants k f p.plants.length):=rfl;have s:=h.ok.lef y1 hy1 k f kd d w a j;rw[E]at s;have D:fZ k f:=by
  have:=((o.ks.pos k kd a).at (by omega) j).2.2 (by omega);unfold fZ;omega
 cases b with
 |true=>
  refine⟨v,by omega,?_⟩;exact cq4
 |false=>
  have K:=hb rfl;have u:fe x p.plants d k f≠0:=λe=>by have:=s e;omega
  have hD:=(Hn h.sd D (i:=idx) (by omega)).drw u (by omega);have HB:=Qv p.seed h.sd.s [3,(k:Int),(f:Int),(idx:Int)] (pQ (by omega) (by omega) (by omega) (by omega)) _ hD;have hbe:=D9 (sd:=p.seed) (p:=[3,(k:Int),(f:Int),(idx:Int)]) (n:=fe x p.plants d k f) u;obtain⟨I,e2,J,HS⟩:=Bh x o.sm p h.pl h.hv k f kd d a j h2 (by omega) (by omega) (dL p.seed [3,(k:Int),(f:Int),(idx:Int)] (fe x p.plants d k f)) (by omega);refine⟨I,by omega,?_⟩;exact cq4
end
section
open Go
theorem bJ.life{x:ak}(h:bJ x):∃l,x.lz=[l]/\l.name=bn/\xj l/\∀s,(cn l.mz s).length<=2:=by
 obtain⟨m,mv,g,f,a,e,d⟩:=h.ls;have c:(fq.take m).length=m:=by rw[zR];simp;omega
 refine⟨_,a,rfl,⟨by simp only;omega,by simp only;omega,λq b=>?_⟩,λs=>?_⟩
 .have:=d q b;simp only;rw[c];exact this
 .have:=h.mc ⟨bn,fq.take m,mv⟩ (by rw[a];simp) s;unfold IJ at this;unfold cn;rw[zL];exact this
theorem Bg(x:ak)(l:bW)(hl:x.lz=[l])(e:l.name=bn):APure prog 205 [ax x,sD bn] (dj l):=by
 have h0:x.lz[((0:Int)).toNat]?=some l:=by rw[hl];rfl
 have f:x.lz.length=1:=by rw[hl];rfl
 have g:(l.name.toList==bn.toList)=true:=by rw[e];exact Pl _
 refine ao func205 ntmps205 λi=>?_
 repeat' first|refine aN ?_|intro b;conv=>whnf
 refine aV mixed ai (γ:=Nat) (λq=>[(5,iD q)]) (λ_=>[(b,.cells 93 [.v (zv ZV.str),.v (zv ZV.sl),.v (zv ZV.sl)])]) (λq=>q=0) (λq=>q) 0 (aj aw) (Sc.refl _) rfl ?_;intro q a;subst a
 repeat' first|refine aN ?_|intro b;conv=>whnf
 exact Rt.pure rfl
theorem R5{A B:Prop}(k:B)(h:ar B->A:=by intro q7;(first|refine bQ ?_|refine aA ?_|(refine' ah ?hc ?_;(case hc=>first|exact HB|exact HL|exact HW)));exact q7.1):A:=h ⟨k⟩
theorem Bf(x:ak)(p:eE)(h:iN x p)(k idx j:Nat)(kd:au)(f:am)(e:x.kz[k]?=some kd)(w:kd.fields[j]?=some f)(h5:f.kind=5)(hb:0<=f.lo/\f.lo<=f.hi/\f.hi<=6)(F:f.of=bn)(hi:idx<8):∃l:List Int,(1<=l.length/\l.length<=101)/\(∀z∈l,0<=z/\z<=100)/\APure prog 153 [ax x,ez p,iD k,iD idx,iD j] (bi l):=by
 have g:=h.gx;have G:=g.nk;have K:=(zE.1 e).1;have M:=(zE.1 w).1;have L:x.kz[((k:Nat):Int).toNat]?=some kd:=e;have O:kd.fields[((j:Nat):Int).toNat]?=some f:=w;have I:=g.sm.nf kd (zG e);obtain⟨l,hl,u,s,v⟩:=g.life;have HL:=Bg x l hl u;rw[←F]at HL;have y:fZ k j:=by
  have:=((g.ks.pos k kd e).at (by omega) w).2.2 (by omega);unfold fZ;omega
 have t:=pQ (a:=6) (by omega) (k:=k) (i:=j) (idx:=idx) (by omega) (by omega) (by omega);have Q:=(BR h.sd y hi).drw (n:=f.hi-f.lo+1) (by omega) (by omega);have HB:=aG7 p.seed h.sd.s [6,(k:Int),(j:Int),(idx:Int)] (by simp) t.v f.lo f.hi ⟨by omega,by omega,by omega,by omega⟩ Q;have P:=E0 (sd:=p.seed) (p:=[6,(k:Int),(j:Int),(idx:Int)]) (n:=f.hi-f.lo+1) (by omega);obtain⟨m,C⟩:∃m:Nat,fU p.seed [6,(k:Int),(j:Int),(idx:Int)] f.lo f.hi=m:=⟨(fU p.seed [6,(k:Int),(j:Int),(idx:Int)] f.lo f.hi).toNat,by unfold fU;omega⟩
 have J:m<=6:=by unfold fU at C;omega
 rw[C]at HB;have HW:=Bw l s v p.seed h.sd.s [6,(k:Int),(j:Int),(idx:Int)] (by simp) t.v m (by omega);have o:=aL1 (mv:=l.mz) (sd:=p.seed) (p:=[6,(k:Int),(j:Int),(idx:Int)]) m;have r:=kH (mv:=l.mz) (sd:=p.seed) (p:=[6,(k:Int),(j:Int),(idx:Int)]) (n:=l.tz.length) (by have:=s.n;omega) (λq E=>(s.q q E).2) m;refine⟨_,⟨o.1,by omega⟩,λz D=>by have:=r z D;have:=s.n;omega,?_⟩;refine ao func153 ntmps153 λR=>?_
 repeat' first|refine R5 ?_|intro b;conv=>whnf
 exact Rt.pure rfl
end
end Go.Proofs.YtilnpcolgcmofaaGreatDoor
