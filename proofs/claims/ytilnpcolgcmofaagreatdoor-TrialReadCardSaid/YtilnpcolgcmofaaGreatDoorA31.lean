/- A part of the proof: Os Dw Jd Je Jf. -/
import Derived.Test.YtilnpcolgcmofaaGreatDoorA30
set_option maxRecDepth 100000
set_option maxHeartbeats 20000000
set_option linter.all false
namespace Go.Proofs.YtilnpcolgcmofaaGreatDoor
open Tryz
section
open Go Go.RowKit Go.Shelf
section
variable {P:Program} {r:Option Nat} {n:Nat} {df:Nat} {ops:Array Oper} {Q:fe} {a:List D} {σ:af} {md:Region.Mode} {S:af->Prop}
theorem Yd.wider{o:Oper}{ρ:Operand->D}{d:D}{s t:af}(h:Yd P o ρ s d)(p:σ.Perm (s++t)):Yd P o ρ σ d:=by
 intro w X η g v;have y:∀x,x∈aS σ↔x∈aS s\/x∈aS t:=λx=>by
  unfold aS;rw[(p.map Prod.fst).mem_iff,yB,zO]
 have j:∀x,ay s (λb=>X b\/b∈aS t) x↔ay σ X x:=λx=>by
  unfold ay;rw[y x];constructor
  .rintro((h|h)|h)
   .exact .inl h
   .exact .inr (.inr h)
   .exact .inr (.inl h)
  .rintro(h|h|h)
   .exact .inl (.inl h)
   .exact .inr h
   .exact .inl (.inr h)
 have t1:∀{a:World}{d:D}{u:Value},Rd a (ay σ X) d u->Rd a (ay s (λb=>X b\/b∈aS t)) d u:=λh=>h.keep (zT _) (λx _ n i=>n ((j x).1 i)) (λ_ _ _=>rfl);have t2:∀{a:World}{d:D}{u:Value},Rd a (ay s (λb=>X b\/b∈aS t)) d u->Rd a (ay σ X) d u:=λh=>h.keep (zT _) (λx _ n i=>n ((j x).2 i)) (λ_ _ _=>rfl);have c:=h w (λb=>X b\/b∈aS t) η (λx hx=>t1 (g x hx)) (v.perm p).left;generalize(execOp η o).run P w=r at c
 cases r with
 |ok x a=>
  cases x<;>simp only[YU]at c⊢
  case value u=>exact⟨c.1,t2 c.2⟩
  case enter f args=>exact⟨c.1,c.2.mono λe k⟨u,m,l,q⟩=>⟨u,m,l,t2 q⟩⟩
 |halt x a=>simp only[YU]at c
theorem ce.wider{o:Oper}{d:D}{b:Nat×aB}(h:ce none P ops [b] o d a){s:af}(c:b∈s):ce none P ops s o d a:=by
 rcases h with⟨g,f,e⟩|h
 .obtain⟨l,m,rfl⟩:=List.append_of_mem c;exact .inl ⟨g,f,.of (e.yd.wider (t:=l++m) (by rw[List.singleton_append];exact List.perm_middle))⟩
 .exact .inr h
def jR(P:Program)(r:Option Nat)(n:Nat)(df:Nat)(md:Region.Mode)(ops:Array Oper)(E:Nat->Bool)(S:af->Prop)(L:List D->af->Prop):Nat->Array Bool->List D->af->Prop
 |0,l,a,σ=>Region.ready md ops l=[]/\L a σ
 |f+1,l,a,σ=>Region.ready md ops l≠[]/\∀i∈Region.ready md ops l,db P r n df ops E i (λb σ'=>S σ'/\jR P r n df md ops E S L f (l.setIfInBounds i true) b σ') a σ
theorem bh3{E:Nat->Bool}{L:List D->af->Prop}:∀(f:Nat)(l:Array Bool)(a:List D)(σ:af),jR P r n df md ops E S L f l a σ->iM P r n df md ops E L f l a σ
 |0,_,_,_,h=>h
 |f+1,_,_,_,h=>⟨h.1,λi b=>cy (λd σ' c=>bh3 f _ d σ' c.2) (h.2 i b)⟩
theorem DJ{E:Nat->Bool}{j:Nat}{o g:Oper}{d:D}(y:ops[j]?=some g)(c:o.apart ops g=true){K:List D->af->Prop}
  (hS:S σ) (hy:∀s,S s->ce none P ops s o d a) (h:db P r n df ops E j (λb σ'=>S σ'/\K b σ') (aF a o.dst d) σ) :
  db P r n df ops E j (λb σ'=>S σ'/\(∀s,S s->ce none P ops s o d b)/\K (aF b o.dst d) σ') a σ:=by
 obtain⟨h1,h2,h3⟩:=Oper.apart_spec c;unfold db at *;simp only[y]at *
 cases k:E j with
 |false=>
  simp only[k]at h⊢;obtain⟨e,k1,_,k2⟩:=h;exact Yx
 |true=>
  simp only[k]at h⊢;unfold Rz at *;rw[ni h1]at h;refine⟨λw X z hs=>J9 (λe b A⟨f,σ',⟨q1,u,l,q2,m,q3⟩,t⟩=>⟨f,σ',⟨q1,by rw[u];cases o.dst<;>simp[aF],l,(λi hi v=>q2 i hi (by cases o.dst<;>simpa [aF]using v)),m,λs hs=>(hy s hs).put h3,?_⟩,t⟩) _ _ _ (h.run w X z hs)⟩;rw[←ZI a d l h2];exact q3
theorem aQ1{E:Nat->Bool}{i:Nat}{y:Oper}{d:D}{L:List D->af->Prop}(J:ops[i]?=some y)(x:E i=false) :
  ∀(f:Nat)(l:Array Bool)(a:List D)(σ:af),HeadInv md ops ops.size l ->
   (∀j o,ops[j]?=some o->j≠i->l.getD j true=false->(∀e∈o.after,Region.binds md e=true->e.on≠i)->y.apart ops o=true) ->
   i∈Region.ready md ops l->S σ->(∀s,S s->ce none P ops s y d a) ->
   jR P r n df md ops E S L f (l.setIfInBounds i true) (aF a y.dst d) σ->jR P r n df md ops E S L (f+1) l a σ:=by
 intro f
 induction f with
 |zero=>
  intro l a σ v _ g q z H;refine⟨λh=>(by rw[h]at g;cases g),λj u=>?_⟩;by_cases b:j=i
  .subst b;unfold db;simp only[J,x];exact⟨d,z _ q,q,H⟩
  .have:=ready_mono u b;rw[H.1]at this
   cases this
 |succ f M=>
  intro l a σ v c g q z H;have B:=(mem_ready.1 g).1;refine⟨λh=>(by rw[h]at g;cases g),λj u=>?_⟩;by_cases b:j=i
  .subst b;unfold db;simp only[J,x];exact⟨d,z _ q,q,H⟩
  .obtain⟨hjun,o,m,w⟩:=mem_ready.1 u;have G:j<ops.size:=(zX.1 m).1;have t:∀e∈o.after,Region.binds md e=true->e.on≠i:=λe O Q I=>by
    have K:=w e O Q;rw[I,getD_both B]at K
    cases K
   have R:=DJ m (c j o m b hjun t) q z (H.2 j (ready_mono u b));refine cy (λT σ' A=>⟨A.1,M (l.setIfInBounds j true) T σ' (v.set u G) (λk ok N F hunk C=>c k ok N F ?_ C) (ready_mono g (Ne.symm b)) A.1 A.2.1 ?_⟩) R
   .exact D'
   .rw[Array.setIfInBounds_comm _ _ b];exact A.2.2
def xy(P:Program)(r:Option Nat)(n:Nat)(df:Nat)(ops:Array Oper)(E:Nat->Bool)(S:af->Prop)(L:List D->af->Prop):eY->List D->af->Prop
 |.done,a,σ=>L a σ
 |.one i t,a,σ=>db P r n df ops E i (λb σ'=>S σ'/\xy P r n df ops E S L t b σ') a σ
 |.two i t j u,a,σ=>db P r n df ops E i (λb σ'=>S σ'/\xy P r n df ops E S L t b σ') a σ/\db P r n df ops E j (λb σ'=>S σ'/\xy P r n df ops E S L u b σ') a σ
 |.three i t j u k v,a,σ=>db P r n df ops E i (λb σ'=>S σ'/\xy P r n df ops E S L t b σ') a σ/\db P r n df ops E j (λb σ'=>S σ'/\xy P r n df ops E S L u b σ') a σ/\db P r n df ops E k (λb σ'=>S σ'/\xy P r n df ops E S L v b σ') a σ
 |.fst i t,a,σ=>∃o d,ops[i]?=some o/\(∀s,S s->ce none P ops s o d a)/\xy P r n df ops E S L t (aF a o.dst d) σ
 |_,_,_=>False
theorem MK{E:Nat->Bool}{L:List D->af->Prop}:∀(t:eY)(f:Nat)(b:Array Bool)(a:List D)(σ:af),HeadInv md ops ops.size b->bW md ops E f t b=true->S σ->xy P r n df ops E S L t a σ->jR P r n df md ops E S L f b a σ
 |.done,f,b,a,σ,_,B,_,h=>by
  cases f with
  |zero=>exact⟨by simpa [bW]using B,h⟩
  |succ f=>simp[bW]at B
 |.one i t,f,b,a,σ,g,B,_,h=>by
  cases f with
  |zero=>simp[bW]at B
  |succ f=>
  simp only[bW,zJ,zQ]at B;refine⟨λw=>(by rw[B.1]at w;cases w),λk p=>?_⟩;have m:=p;rw[B.1]at p;have:k=i:=by simpa using p
  subst this;obtain⟨_,o,s,_⟩:=mem_ready.1 m;exact cy (λq σ' c=>⟨c.1,MK t f _ q σ' (g.set m (zX.1 s).1) B.2.2 c.1 c.2⟩) h
 |.two i t j u,f,b,a,σ,g,B,_,h=>by
  cases f with
  |zero=>simp[bW]at B
  |succ f=>
  simp only[bW,zJ,zQ]at B;refine⟨λw=>(by rw[B.1]at w;cases w),λk p=>?_⟩;have m:=p;rw[B.1]at p;obtain⟨_,o,s,_⟩:=mem_ready.1 m;have e:=g.set m (zX.1 s).1;have:k=i\/k=j:=by simpa using p
  rcases this with rfl|rfl
  .exact cy (λq σ' c=>⟨c.1,MK t f _ q σ' e B.2.2.1 c.1 c.2⟩) h.1
  .exact cy (λq σ' c=>⟨c.1,MK u f _ q σ' e B.2.2.2 c.1 c.2⟩) h.2
 |.three i t j u l v,f,b,a,σ,g,B,_,h=>by
  cases f with
  |zero=>simp[bW]at B
  |succ f=>
  simp only[bW,zJ,zQ]at B;refine⟨λw=>(by rw[B.1]at w;cases w),λk p=>?_⟩;have m:=p;rw[B.1]at p;obtain⟨_,o,s,_⟩:=mem_ready.1 m;have e:=g.set m (zX.1 s).1;have:k=i\/k=j\/k=l:=by simpa using p
  rcases this with rfl|rfl|rfl
  .exact cy (λq σ' c=>⟨c.1,MK t f _ q σ' e B.2.2.1 c.1 c.2⟩) h.1
  .exact cy (λq σ' c=>⟨c.1,MK u f _ q σ' e B.2.2.2.1 c.1 c.2⟩) h.2.1
  .exact cy (λq σ' c=>⟨c.1,MK v f _ q σ' e B.2.2.2.2 c.1 c.2⟩) h.2.2
 |.fst i t,f,b,a,σ,g,B,z,h=>by
  cases f with
  |zero=>simp[bW]at B
  |succ f=>
  simp only[bW,zJ,xJ]at B;obtain⟨⟨⟨C,F⟩,G⟩,y⟩:=B;obtain⟨o,d,s,A,p⟩:=h;have x:i∈Region.ready md ops b:=by simpa using C
  exact aQ1 s G f b a σ g (Region.free_spec s F) x z A (MK t f _ _ σ (g.set x (zX.1 s).1) y z p)
 |.four _ _ _ _ _ _ _ _,_,_,_,_,_,_,_,h=>h.elim
 |.five _ _ _ _ _ _ _ _ _ _,_,_,_,_,_,_,_,h=>h.elim
def jQ(P:Program)(ops:Array Oper)(S:af->Prop)(L:List D->af->Prop):List Nat->List D->af->Prop
 |[],a,σ=>L a σ
 |i::h,a,σ=>∃o d,ops[i]?=some o/\(∀s,S s->ce none P ops s o d a)/\jQ P ops S L h (aF a o.dst d) σ
theorem aJ7{E:Nat->Bool}{L:List D->af->Prop}{f:Nat}{t:eY}:∀(s:List Nat)(l:Array Bool)(a:List D)(σ:af),HeadInv md ops ops.size l->Kd md ops E f t s l=true->S σ ->
  jQ P ops S (xy P r n df ops E S L t) s a σ->jR P r n df md ops E S L (s.length+f) l a σ
 |[],l,a,σ,v,B,s,h=>by
  rw[show([]:List Nat).length+f=f by simp];exact MK t f l a σ v B s h
 |i::s,l,a,σ,v,B,j,h=>by
  simp only[Kd,zJ,xJ]at B;obtain⟨⟨⟨k,p⟩,q⟩,g⟩:=B;obtain⟨o,d,c,y,m⟩:=h;have b:i∈Region.ready md ops l:=by simpa using k
  have e:i<ops.size:=(zX.1 c).1;have H:=aJ7 s _ _ _ (v.set b e) g j m;rw[show(i::s).length+f=(s.length+f)+1 by simp;omega];exact aQ1 c q _ l a σ v (Region.free_spec c p) b j y H
theorem bc2{id:Nat}{l:List Oper}(E:Nat->Bool)(s:List Nat)(f:Nat)(t:eY)(m:P.follows .mixedOrders=true)(c:s.length+f=l.length)(B:Kd .any l.toArray E f t s (Array.replicate l.length false)=true)(k:S σ)
  (h:jQ P l.toArray S (xy P r n df l.toArray E S (λa σ=>Q .normal a σ) t) s a σ):dS P r n df (.region id l.toArray true) Q a σ:=by
 refine⟨λw X o d=>?_⟩;have i:HeadInv .any l.toArray l.toArray.size (Array.replicate l.length false):=
  ⟨by simp,λj p _ c=>(by rw[getD_replicate_false]at c;cases c),λt q g=>by omega⟩
 refine wpIn_region_any m ?_;have b:=PI w;have:=MJ (w0:=w) (σ0:=σ) (X:=X) _ _ _ _ o { w with drawn:=w.drawn+1 } (jJ b) (d.ex b) (bh3 _ _ _ _ (aJ7 s _ a σ i B k h));rw[c]at this;have e:l.toArray.size=l.length:=by simp
 rw[e];exact this
theorem aU7{L c:List D->af->Prop}(h:∀a σ,L a σ->c a σ):∀{s:List Nat}{a:List D}{σ:af},jQ P ops S L s a σ->jQ P ops S c s a σ
 |[],_,_,b=>h _ _ b
 |_::_,_,_,b=>let ⟨o,d,h1,h2,h3⟩:=b;⟨o,d,h1,h2,aU7 h h3⟩
theorem MF{E:Nat->Bool}{L c:List D->af->Prop}(h:∀a σ,L a σ->c a σ):∀{t:eY}{a:List D}{σ:af},xy P r n df ops E S L t a σ->xy P r n df ops E S c t a σ
 |.done,_,_,b=>h _ _ b
 |.one _ _,_,_,b=>cy (λ_ _ q=>⟨q.1,MF h q.2⟩) b
 |.two _ _ _ _,_,_,b=>⟨cy (λ_ _ q=>⟨q.1,MF h q.2⟩) b.1,cy (λ_ _ q=>⟨q.1,MF h q.2⟩) b.2⟩
 |.three _ _ _ _ _ _,_,_,b=>⟨cy (λ_ _ q=>⟨q.1,MF h q.2⟩) b.1,cy (λ_ _ q=>⟨q.1,MF h q.2⟩) b.2.1,cy (λ_ _ q=>⟨q.1,MF h q.2⟩) b.2.2⟩
 |.fst _ _,_,_,b=>let ⟨o,d,h1,h2,h3⟩:=b;⟨o,d,h1,h2,MF h h3⟩
 |.four _ _ _ _ _ _ _ _,_,_,b=>b.elim
 |.five _ _ _ _ _ _ _ _ _ _,_,_,b=>b.elim
end
section
variable {P:Program} {r:Option Nat} {n:Nat} {df:Nat} {N:Nat} {σ:af} {a:List D} {f:aM} {T:TypeId->Option TI} {L:List Oper} {Q:gS} {H:Nat×aB}
def lh(P:Program)(T:TypeId->Option TI)(N:Nat)(L:List Oper)(H:Nat×aB)(i:Nat)(K:aM->Prop)(f:aM):Prop:=match L[i]? with
 |none=>False
 |some o=>IV L f o λgo=>match go with
  |true=>bif jb o.op then(match sG o f with
   |true=>iO P T o f [H] (λd=>aT N o.dst d f K)
   |false=>iO P T o f [] (λd=>aT N o.dst d f K))else False
  |false=>aT N o.dst (.v undef) f K
theorem bi0(m:∀t i,T t=some i->aE P t=some i){i:Nat}{K:aM->Prop}(h:lh P T N L H i K f)(g:Sp N a f):∃o d,L.toArray[i]?=some o/\(∀s,H∈s->ce none P L.toArray s o d a)/\∃c,Sp N (aF a o.dst d) c/\K c:=by
 unfold lh at h;split at h
 .exact h.elim
 .rename_i o q;have e:L.toArray[i]?=some o:=by simpa using q
  obtain⟨go,w,p⟩:=P6 (K:=λgo=>match go with
   |true=>bif jb o.op then(match sG o f with
    |true=>iO P T o f [H] (λd=>aT N o.dst d f K)
    |false=>iO P T o f [] (λd=>aT N o.dst d f K))else False
   |false=>aT N o.dst (.v undef) f K) h g
  cases go with
  |true=>
   obtain⟨n,l⟩:=hZ p;split at l
   .obtain⟨d,y,k⟩:=MN m l;obtain⟨c,b,j⟩:=fK k g;exact⟨o,d,e,λs r=>ce.wider (.inl ⟨w,n,.of (y.le g.le)⟩) r,c,b,j⟩
   .obtain⟨d,y,k⟩:=MN m l;obtain⟨c,b,j⟩:=fK k g;exact⟨o,d,e,λs _=>ce.free (.inl ⟨w,n,.of (y.le g.le)⟩) s,c,b,j⟩
  |false=>
   obtain⟨c,b,j⟩:=fK p g;exact⟨o,_,e,λs _=>.inr ⟨w,rfl⟩,c,b,j⟩
def tg(P:Program)(T:TypeId->Option TI)(N:Nat)(L:List Oper)(H:Nat×aB):List Nat->(aM->Prop)->aM->Prop
 |[],K,f=>K f
 |i::h,K,f=>lh P T N L H i (tg P T N L H h K) f
theorem nX(e:∀t i,T t=some i->aE P t=some i):∀{b:List Nat}{K:aM->Prop}{f:aM}{a:List D},tg P T N L H b K f->Sp N a f->jQ P L.toArray (λs=>H∈s) (λn σ'=>σ'=σ/\∃c,Sp N n c/\K c) b a σ
 |[],K,f,a,h,b=>⟨rfl,f,b,h⟩
 |i::l,K,f,a,h,b=>by
  obtain⟨o,d,m,k,c,j,g⟩:=bi0 e (K:=tg P T N L H l K) h b;exact⟨o,d,m,k,nX e g j⟩
def FH(P:Program)(T:TypeId->Option TI)(r:Option Nat)(n:Nat)(df:Nat)(N:Nat)(L:List Oper)(H:Nat×aB)(K:aM->af->Prop):eY->aM->af->Prop
 |.done,f,σ=>K f σ
 |.one i t,f,σ=>iS P T r n df N L i (λa σ'=>Sd (H∈σ') (FH P T r n df N L H K t a σ')) f σ
 |.two i t j u,f,σ=>iS P T r n df N L i (λa σ'=>Sd (H∈σ') (FH P T r n df N L H K t a σ')) f σ/\iS P T r n df N L j (λa σ'=>Sd (H∈σ') (FH P T r n df N L H K u a σ')) f σ
 |.three i t j u k v,f,σ=>iS P T r n df N L i (λa σ'=>Sd (H∈σ') (FH P T r n df N L H K t a σ')) f σ/\iS P T r n df N L j (λa σ'=>Sd (H∈σ') (FH P T r n df N L H K u a σ')) f σ/\iS P T r n df N L k (λa σ'=>Sd (H∈σ') (FH P T r n df N L H K v a σ')) f σ
 |.fst i t,f,σ=>lh P T N L H i (λa=>FH P T r n df N L H K t a σ) f
 |_,_,_=>False
theorem MB(g:∀t i,T t=some i->aE P t=some i){E:Nat->Bool}:∀{t:eY}{K:aM->af->Prop}{f:aM}{σ:af}{a:List D},fQ E t=true->FH P T r n df N L H K t f σ->Sp N a f->xy P r n df L.toArray E (λs=>H∈s) (λp σ'=>∃m,Sp N p m/\K m σ') t a σ
 |.done,K,f,σ,a,c,h,l=>⟨f,l,h⟩
 |.one i t,K,f,σ,a,c,h,l=>by
  simp only[fQ,zJ]at c;exact jx g c.1 h l (λm σ' p e b=>⟨e.s,MB g c.2 e.k b⟩)
 |.two i t j u,K,f,σ,a,c,h,l=>by
  simp only[fQ,zJ]at c;exact⟨jx g c.1 h.1 l (λm σ' p e b=>⟨e.s,MB g c.2.1 e.k b⟩),jx g c.2.2.1 h.2 l (λm σ' p e b=>⟨e.s,MB g c.2.2.2 e.k b⟩)⟩
 |.three i t j u k v,K,f,σ,a,c,h,l=>by
  simp only[fQ,zJ]at c;exact⟨jx g c.1 h.1 l (λm σ' p e b=>⟨e.s,MB g c.2.1 e.k b⟩),jx g c.2.2.1 h.2.1 l (λm σ' p e b=>⟨e.s,MB g c.2.2.2.1 e.k b⟩),jx g c.2.2.2.2.1 h.2.2 l (λm σ' p e b=>⟨e.s,MB g c.2.2.2.2.2 e.k b⟩)⟩
 |.fst i t,K,f,σ,a,c,h,l=>by
  simp only[fQ]at c;obtain⟨o,d,x,e,m,w,q⟩:=bi0 (K:=λm=>FH P T r n df N L H K t m σ) g h l;exact⟨o,d,x,e,MB g c q w⟩
 |.four _ _ _ _ _ _ _ _,_,_,_,_,_,h,_=>h.elim
 |.five _ _ _ _ _ _ _ _ _ _,_,_,_,_,_,h,_=>h.elim
theorem Ir(m:P.follows .mixedOrders=true)(j:∀t i,T t=some i->aE P t=some i){id:Nat}{O:Array Oper}(k:O=L.toArray)(H:Nat×aB)(b:List Nat)(u:Nat)(E:Nat->Bool)(t:eY){γ:Type}(c:γ->aM)(S:γ->af)(I:γ->Prop)
  (B:(Nat.beq (b.length+u) L.length&&Kd .any L.toArray E u t b (Array.replicate L.length false)&&fQ E t)=true) (l:H∈σ)
  (h:W (tg P T N L H b (λf1=>FH P T r n df N L H (λf' σ'=>∃g,dM f' (gL (.region id O true) f (c g))/\Sc σ' (S g)/\I g) t f1 σ) f))
  (kk:∀g,I g->W (FJ (gL (.region id O true) f (c g)) λF=>Q .normal F (S g))):Lp P r n df N (.region id O true) Q f σ:=by
 subst k;simp only[zJ]at B;refine⟨λa d=>?_⟩;refine ZY (bc2 (S:=λs=>H∈s) (Q:=λe a' σ'=>e= .normal/\∃f',Sp N a' f'/\∃g,dM f' (gL (.region id L.toArray true) f (c g))/\Sc σ' (S g)/\I g) E b u t m (yH B.1.1) B.1.2 l (aU7 (λa' σ' o=>?_) (nX j h.h d))) ?_
 .obtain⟨rfl,f',h1,h2⟩:=o;have:=MB j B.2 h2 h1;exact MF (λa σ h=>⟨rfl,h⟩) this
 .exact Eh
end
end
section
open Go
abbrev K8(b:Nat)(p:eJ):Nat×aB:=(b,.cells 31 (tO p))
abbrev zP:List D:=[.v (zv ZV.str),.v (zv ZV.sl),.v (zv ZV.sl)]
theorem Lf(l:List dz):((l.map yk).all λy=>y.all dJ)=true:=by rw[yA];intro y h;obtain⟨f,_,rfl⟩:=xM.1 h;rfl
theorem PL(xs:List Int)(i n:Int)(h:n<1):aw xs i n=0:=by
 unfold aw;split
 .rfl
 .exact(EK _ n).2.2 h
theorem K'(x y z u:Nat×aB)(s:af):(x::y::z::u::s).Perm (s++[x,y,z,u]):=yT (l₁:=[x,y,z,u]) (l₂:=s)
theorem On(x y z u:Nat×aB)(s:af):(s++[x,y,z,u]).Perm (x::y::z::u::s):=(K' x y z u s).symm
theorem Ow:cN []:=⟨by simp,by simp⟩
theorem dj{A B:Prop}(k:B)(h:ar B->A:=by intro q7;(first|refine bO ?_|refine aA ?_|(refine' ah ?hc ?_;(case hc=>first|exact HC2|exact HA6|exact HA7|exact HPB|exact HVL)));exact q7.1):A:=h ⟨k⟩
theorem Sr{A B:Prop}(k:B)(h:ar B->A:=by intro q7;(first|refine bO ?_|refine mN ?_|(refine' ah ?hc ?_;(case hc=>first|exact HC2|exact HA6|exact HA7|exact HPB|exact HVL)));exact q7.1):A:=h ⟨k⟩
theorem rV{A B:Prop}(k:B)(h:ar B->A:=by intro q7;(first|refine bO ?_|refine gX ?_|(refine' ah ?hc ?_;(case hc=>first|exact HC2|exact HA6|exact HA7|exact HPB|exact HVL)));exact q7.1):A:=h ⟨k⟩
theorem I8{p:Prop}(h:p:=by rw[zL,zI,List.length_singleton];omega):p:=h
theorem Yo{p:Prop}(h:p:=by
 repeat' first|refine dj ?_|intro b;conv=>whnf
 exact⟨(j+1,pos,p),(aj av),Sc.refl _,⟨by simp only;omega,⟨by simp only;omega,by simp only;omega⟩,hp,hse⟩,by simp only;omega⟩):p:=h
theorem BN(x:ak)(h:oO x)(F:Qw x)(S:APure prog 44 [ax x] (.sl 4 []))(l:List Int)(hl:ef l):az prog 33 [ax x,bj l] [] (λd σ=>∃p is,d= .tup [eE p,bD is]/\σ=[]/\gd p/\(is=true->oN p.seed)):=by
 have hnk:=h.sm.nk;obtain⟨Q,is,M,HC2⟩:=pP x h S l hl;have HA6:=Q6 l hl 6 26;have HA7:=Q6 l hl 7 256;have R:=de l 6 26;have I:=de l 7 256;have P:=R.2 (by omega);have O:=I.2 (by omega);obtain⟨a,ea⟩:∃a:Nat,aw l 6 26=a:=⟨(aw l 6 26).toNat,by omega⟩
 obtain⟨r,eb⟩:∃a:Nat,aw l 7 256=a:=⟨(aw l 7 256).toNat,by omega⟩
 rw[ea]at HA6 R P;rw[eb]at HA7 I O;have u:oN [97+a,r]:=⟨256*a+r,by omega,by unfold i7 gW;simp;omega⟩
 cases is with
 |false=>
  refine cP func33 ntmps33 λBB=>?_
  repeat' first|refine dj ?_|intro b;conv=>whnf
  exact Rt.by (σ':=[]) (d':=.tup [eE ⟨[],[],[]⟩,bD false]) (Vs.vd ⟨_,by rw[zZ]⟩ (Vd.tup (.cons (Vd.agg (.cons (Vd.same (λz k=>by cases k) _) (.cons (Vd.nil _) (.cons (Vd.nil _) .nil)))) (.cons (Vd.same (λz k=>by cases k) _) .nil)))) ⟨⟨[],[],[]⟩,false,rfl,rfl,⟨⟨by simp,by simp⟩,Ow,by simp,by simp⟩,λe=>by cases e⟩
 |true=>
  refine cP func33 ntmps33 λBB=>?_
  repeat' first|refine dj ?_|intro b;conv=>whnf
  obtain⟨C,rfl⟩:∃c,c=b:=⟨_,rfl⟩
  refine Ot.yd (xr (m:=((97+a:Nat):Int)) rfl rfl underlying3 underlying5 (by rw[IntKind.wrap_u8];omega)) ?_
  repeat' first|refine dj ?_|intro b;conv=>whnf
  refine Ot.yd (xr (m:=((r:Nat):Int)) rfl rfl underlying3 underlying5 (by rw[IntKind.wrap_u8];omega)) ?_
  repeat' first|refine dj ?_|intro b;conv=>whnf
  refine Ot.yd (zg (l:=[97+a,r]) rfl rfl u.s.v underlying147 underlying5 underlying9) ?_
  repeat' first|refine Sr ?_|intro b;conv=>whnf
  generalize b=q;refine Bx.r (cm.box rfl rfl (λf=>?_))
  repeat' first|refine dj ?_|intro b;conv=>whnf
  refine aR mixed ai (γ:=Nat×Int×eJ) (λg=>[(10,iD g.1)]) (λg=>[aC f l g.2.1,K8 q g.2.2,(C,.cells 31 zP)]) (λg=>g.1<=x.kz.length/\(8<=g.2.1/\g.2.1<=8+40*g.1)/\gd g.2.2/\g.2.2.seed=[97+a,r]) (λg=>x.kz.length-g.1) (0,8,⟨[97+a,r],Q,[]⟩) (aj av) ?_ ⟨zW _,⟨by simp,by simp⟩,⟨u.s,M,by simp,by simp⟩,rfl⟩ ?_
  .have k:=Sc.frz (b:=q) (t:=31) (cs:=[D.v (.string (bB [97+a,r])),bj Q,D.v (zv ZV.sl)]) (j:=2) (τ:=[aC f l 8,(C,.cells 31 zP)]) (v:=zv ZV.sl) rfl (ae.nil 150 5) (dO.refl _);exact(Sc.perm (List.Perm.swap _ _ _)).trans (k.trans (Sc.perm (List.Perm.swap _ _ _)))
  rintro⟨i,pos,p⟩ ⟨hi,o,hp,hse⟩;simp only at hi o hp hse⊢;by_cases hil:i<x.kz.length
  case neg=>
   obtain rfl:i=x.kz.length:=by omega
   repeat' first|refine dj ?_|intro b;conv=>whnf
   refine nd ai (m:=2) rfl rfl rfl rfl rfl rfl rfl ?_
   repeat' first|refine dj ?_|intro b;conv=>whnf
   exact Rt.by (σ':=[]) (d':=.tup [eE p,bD true]) (Vs.vd ⟨_,by rw[zZ]⟩ (Vd.same (λz k=>by cases k) _)) ⟨p,true,rfl,rfl,hp,λ_=>by rw[hse];exact u⟩
  obtain⟨kd,G⟩:∃y,x.kz[i]?=some y:=⟨_,zD hil⟩
  have hk':x.kz[((i:Nat):Int).toNat]?=some kd:=G;have hnf:=h.sm.nf kd (zG G)
  repeat' first|refine dj ?_|intro b;conv=>whnf
  refine aR mixed ai (γ:=Nat×Int×eJ) (λg=>[(11,iD g.1)]) (λg=>[aC f l g.2.1,K8 q g.2.2,(C,.cells 31 zP)]) (λg=>g.1<=kd.fields.length/\(8<=g.2.1/\g.2.1<=8+40*i+4*g.1)/\gd g.2.2/\g.2.2.seed=[97+a,r]) (λg=>kd.fields.length-g.1) (0,pos,p) (aj av) (Sc.refl _) ⟨zW _,⟨by simp only;omega,by simp only;omega⟩,hp,hse⟩ ?_;clear hp hse o;rintro⟨j,pos,p⟩ ⟨hj,o,hp,hse⟩;simp only at hj o hp hse⊢;have hpn:=hp.n;by_cases hjl:j<kd.fields.length
  case neg=>
   obtain rfl:j=kd.fields.length:=by omega
   repeat' first|refine dj ?_|intro b;conv=>whnf
   exact⟨(i+1,pos,p),(aj av),Sc.refl _,⟨by simp only;omega,⟨by simp only;omega,by simp only;omega⟩,hp,hse⟩,by simp only;omega⟩
  obtain⟨d,L⟩:∃y,kd.fields[j]?=some y:=⟨_,zD hjl⟩
  have hf':kd.fields[((j:Nat):Int).toNat]?=some d:=L;have hdb:=F kd (zG G) d (zG L);obtain⟨pb,_,HPB⟩:=aD7 x h.sm i j kd d G L
  cases pb with
  |false=>exact Yo
  |true=>
   by_cases hpl:1<p.plants.length
   .exact Yo
   by_cases ht:aw l pos 3=0
   .repeat' first|refine dj ?_|intro b;conv=>whnf
    ((refine bc (ev l hl f _ _ ⟨by omega,by omega⟩) (zH ([aC f l _]++_)) (λs=>s++_) (λs=>zH _) ?_);(rintro _ _ ⟨rfl,rfl⟩))
    repeat' first|refine dj ?_|intro b;conv=>whnf
    exact⟨(j+1,pos+1,p),(aj av),Sc.refl _,⟨by simp only;omega,⟨by simp only;omega,by simp only;omega⟩,hp,hse⟩,by simp only;omega⟩
   have Y:=de l (pos+1) (d.hi-d.lo+1);have J:=PL l (pos+1) (d.hi-d.lo+1);have X:=de l (pos+1+1) 2;have V:=X.2 (by omega);have U:=de l (pos+1+1+1) 3;have T:=U.2 (by omega)
   repeat' first|refine dj ?_|intro b;conv=>whnf
   ((refine bc (ev l hl f _ _ ⟨by omega,by omega⟩) (zH ([aC f l _]++_)) (λs=>s++_) (λs=>zH _) ?_);(rintro _ _ ⟨rfl,rfl⟩))
   repeat' first|refine rV ?_|intro b;conv=>whnf
   obtain⟨b12,rfl⟩:∃c,c=b:=⟨_,rfl⟩
   refine ja ?_;refine xg (i:=12) (d':=.ro (aH d)) (τ:=[aC f l (pos+1),K8 q p,(C,.cells 31 zP)]) rfl (λh=>by cases h) (Vs.ptr (tb:=81) (zH _)) ?_;refine jt mixed ai rfl [0,1,2,3,4,5,6,7,8,9,10,11,12,13,14,15,16,19,22] 9 (i8 [17,20,23,26,27]) (.two 17 (.fst 18 (.two 20 (.fst 21 (.two 23 (.fst 24 (.fst 25 (.one 26 (.one 27 .done)))) 26 (.one 23 (.fst 24 (.fst 25 (.one 27 .done)))))) 26 (.one 20 (.fst 21 (.one 23 (.fst 24 (.fst 25 (.one 27 .done)))))))) 26 (.one 17 (.fst 18 (.one 20 (.fst 21 (.one 23 (.fst 24 (.fst 25 (.one 27 .done)))))))))
    (γ:=Nat) (λg=>[(13,.v (.pointer (some ⟨g,0,none⟩)))]) (λg=>[aC f l (pos+1+1+1+1),(g,.cells 150 (yk ⟨kd.name,d.name,d.lo+aw l (pos+1) (d.hi-d.lo+1),1+aw l (pos+1+1) 2,1+aw l (pos+1+1+1) 3⟩)),K8 q p,(C,.cells 31 zP)]) (λ_=>True) (by decide +kernel) ?_ ?_
   .repeat' first|refine rV ?_|intro b;conv=>whnf|(refine And.intro ?_ ?_<;>(conv=>whnf))|((refine bc (ev l hl f _ _ ⟨by omega,by omega⟩) (zH ([aC f l _]++_)) (λs=>s++_) (λs=>zH _) ?_);(rintro _ _ ⟨rfl,rfl⟩))|((refine bc (ev l hl f _ _ ⟨by omega,by omega⟩) (show List.Perm (_::aC f l _::_) ([aC f l _]++(_::_)) from List.Perm.swap _ _ _) (λs=>s++(_::_)) (λs=>zH _) ?_);(rintro _ _ ⟨rfl,rfl⟩))|((refine bc (ev l hl f _ _ ⟨by omega,by omega⟩) (show List.Perm (_::_::aC f l _::_) ([aC f l _]++(_::_::_)) from List.perm_middle (l₁:=[_,_])) (λs=>s++(_::_::_)) (λs=>zH _) ?_);(rintro _ _ ⟨rfl,rfl⟩))
    all_goals exact⟨b,(aj aQ),Sc.perm Ps,trivial⟩
   rintro b13 _
   repeat' first|refine rV ?_|intro b;conv=>whnf
   have K:lT ⟨kd.name,d.name,d.lo+aw l (pos+1) (d.hi-d.lo+1),1+aw l (pos+1+1) 2,1+aw l (pos+1+1+1) 3⟩:=by
    refine⟨?_,⟨by simp only;omega,by simp only;omega⟩,⟨by simp only;omega,by simp only;omega⟩⟩;simp only;by_cases e:d.hi-d.lo+1<1
    .have:=J e;omega
    .have:=Y.2 (by omega);omega
   generalize hy:(⟨kd.name,d.name,d.lo+aw l (pos+1) (d.hi-d.lo+1),1+aw l (pos+1+1) 2,1+aw l (pos+1+1+1) 3⟩:dz)=y at *;have E:gd ⟨p.seed,p.counts,p.plants++[y]⟩:=⟨hp.sd,hp.cs,by simp only[zI,List.length_singleton];omega,λz k=>by
    rcases zO.1 k with k|k
    .exact hp.v z k
    .rw[zN]at k;subst k;exact K⟩
   obtain⟨e,_,HVL⟩:=be7 x h F S ⟨p.seed,p.counts,p.plants++[y]⟩ E;refine ja ?_;refine xg (i:=13) (d':=.ro (yk y)) (τ:=[K8 q p,aC f l (pos+1+1+1+1),(C,.cells 31 zP)]) rfl (λh=>by cases h) (Vs.ptr (tb:=150) (gz λa=>by simp only[gy,gO];omega)) ?_;refine Ir mixed ai rfl (K8 q p) [0,1,2,3,5,6,8,9] 6 (i8 [4,7,10,12,13]) (.two 4 (.two 7 (.two 10 (.fst 11 (.one 12 (.one 13 .done))) 12 (.one 10 (.fst 11 (.one 13 .done)))) 12 (.one 7 (.one 10 (.fst 11 (.one 13 .done))))) 12 (.one 4 (.one 7 (.one 10 (.fst 11 (.one 13 .done))))))
    (γ:=Nat) (λg=>[(14,.v (.pointer (some ⟨g,0,none⟩)))]) (λg=>[K8 g ⟨p.seed,p.counts,p.plants++[y]⟩,K8 q p,aC f l (pos+1+1+1+1),(C,.cells 31 zP)]) (λ_=>True) (by decide +kernel) (List.Mem.head _) ?_ ?_
   .repeat' first|((with_reducible refine Sd.go ?qm5 ?_);(case qm5=>(repeat(first|exact List.Mem.head _|refine List.Mem.tail _ ?_));done))|refine rV ?_|intro b;conv=>whnf|(refine And.intro ?_ ?_<;>(conv=>whnf))|(refine Ap.frz rfl rfl rfl rfl w (K' _ _ _ _ _) rfl (zs:=(p.plants++[y]).map yk) (by rw[yB];rfl) I8 I8 ?_)|(refine Ap.frz rfl rfl rfl rfl w (at8 _ _ _ _) rfl (zs:=(p.plants++[y]).map yk) (by rw[yB];rfl) I8 I8 ?_)|(refine Ap.go rfl rfl rfl rfl (ae.e0 150 5 _) (zH ([]++_)) (Lf p.plants) (zs:=p.plants.map yk) rfl (by rw[zL];omega) (by rw[zL];omega) (λs=>_::_::_::_::s) (On _ _ _ _) (λI c7 Z w=>?_))|(refine Ap.go rfl rfl rfl rfl (ae.e0 150 5 _) (zH ([]++_)) (Lf p.plants) (zs:=p.plants.map yk) rfl (by rw[zL];omega) (by rw[zL];omega) (λs=>_::_::_::s) (an9 _ _ _) (λI c7 Z w=>?_))
    all_goals first|exact⟨b,(aj aQ),Sc.refl _,trivial⟩|(rename_i bq;exact⟨bq,(aj aQ),Sc.refl _,trivial⟩)
   rintro b14 _;by_cases he:e=0
   .repeat' first|refine dj ?_|intro b;conv=>whnf
    exact⟨(j+1,pos+1+1+1+1,⟨p.seed,p.counts,p.plants++[y]⟩),(aj av),(Sc.sl (yG _ _)).trans (Sc.perm (List.Perm.swap _ _ _)),⟨by simp only;omega,⟨by simp only;omega,by simp only;omega⟩,E,hse⟩,by simp only;omega⟩
   .repeat' first|refine dj ?_|intro b;conv=>whnf
    exact⟨(j+1,pos+1+1+1+1,p),(aj av),(Sc.sl (yG _ _)).trans (Sc.perm (List.Perm.swap _ _ _)),⟨by simp only;omega,⟨by simp only;omega,by simp only;omega⟩,hp,hse⟩,by simp only;omega⟩
end
section
open Go
structure iX(x:ak)(p:eJ):Prop where
 gx:bL x
 sd:oN p.seed
 pl:gd p
 ok:gD x p
 hv:APure prog 60 [ax x,eE p] (iD 0)
 ng:∀(i:Nat)k,x.kz[i]?=some k->p.counts.getD i 0≠0->eQ (k.fields.length+1) (cH k.fields.length (ci x i k))=false
theorem sQ{x:ak}{i:Nat}{k:au}(a:x.kz[i]?=some k){l:gR}(h:l∈CU x i k):l∈eS x:=by
 unfold eS;refine List.mem_flatMap.2 ⟨i,xT.2 (zE.1 a).1,?_⟩;rw[a];exact h
theorem gD.cnt{x:ak}{p:eJ}(h:gD x p)(g:bL x){i:Nat}{k:au}(a:x.kz[i]?=some k):∃c:Nat,p.counts[i]?=some (c:Int)/\c<=8:=by
 have l:=(zE.1 a).1;have j:=(g.hx.form i k a).lohi;obtain⟨c,b⟩:∃c,p.counts[i]?=some c:=⟨_,zD (by rw[h.cl];exact l)⟩
 have d:=yA.1 h.lim ⟨i,-1,k.hi,false⟩ (sQ a (xK _ (by simp)));unfold jk at d;simp only[zJ]at d;obtain⟨⟨_,f⟩,e⟩:=d;have n:=yA.1 f c (zG b);simp only[zJ,zQ]at n;simp only[ec,wG,uC,zQ,Int.toNat_natCast,List.getD_eq_getElem?_getD,b,Option.getD_some]at e;rw[if_neg (by omega)]at e;exact⟨c.toNat,by rw[b];congr 1;omega,by omega⟩
theorem LW{p:Prop}(h:p:=by
 rw[ZX ((LA hk j).trans hf) (wb hk),if_neg (by omega),if_pos h1]at hu;unfold refUp at hu;split at hu<;>omega):p:=h
theorem Gl{x:ak}{i j t:Nat}{k:au}{f:am}(hk:x.kz[i]?=some k)(hf:k.fields[j]?=some f)(h1:f.kind=1)(hu:aI x i j=t):bf x f.of=t:=LW
theorem gD.ref{x:ak}{p:eJ}(h:gD x p){i j t:Nat}{k:au}{f:am}(g:x.kz[i]?=some k)(l:k.fields[j]?=some f)(m:f.kind=1)(u:aI x i j=t){a b:Nat}(o:p.counts[i]?=some (a:Int))(n:p.counts[t]?=some (b:Int))(q:0<a):1<=b:=by
 have c:=yA.1 h.lim ⟨i,bf x f.of,f.hi,false⟩ (sQ g (yW _ (List.mem_flatMap.2 ⟨f,zG l,by unfold eT;rw[if_pos m];simp⟩)));rw[Gl g l m u]at c;unfold jk at c;simp only[zJ]at c;have d:=c.2;simp only[ec,wG,uC,zQ,Int.toNat_natCast,List.getD_eq_getElem?_getD,o,n,Option.getD_some]at d;rw[if_pos (by omega)]at d;by_cases e:b=0
 .subst e;simp at d;omega
 .omega
theorem jE{A B:Prop}(k:B)(h:ar B->A:=by intro q7;(first|refine bO ?_|refine aA ?_|(refine' ah ?hc ?_;(case hc=>first|exact HV|exact HD|exact HC2)));exact q7.1):A:=h ⟨k⟩
theorem tp{p:Prop}(h:p:=by
 repeat refine jE ?_
 exact⟨i+1,(aj av),Sc.refl _,by omega,by omega⟩):p:=h
theorem uW(x:ak)(h:bL x)(R:APure prog 44 [ax x] (.sl 4 []))(p:eJ)(I:gd p)(t:oN p.seed):∃e,(e=0->iX x p)/\APure prog 61 [ax x,eE p] (iD e):=by
 have O:=h.nk;obtain⟨J,D,HV⟩:=be7 x h.lim h.fbs R p I;by_cases h0:J=0
 case neg=>
  refine⟨J,λe=>absurd e h0,?_⟩;refine ap func61 ntmps61 λK=>?_
  repeat refine jE ?_
  refine Rt.pure (zM iD ?_);rfl
 subst h0;have b:=D rfl;have M:=b.cl;by_cases hb:∃i:Nat,∃k,x.kz[i]?=some k/\p.counts.getD i 0≠0/\eQ (k.fields.length+1) (cH k.fields.length (ci x i k))=true
 .obtain⟨S,w⟩:=hb;obtain⟨s,_,⟨L,j,Q,b2⟩,r⟩:=xq (p:=λi:Nat=>∃k,x.kz[i]?=some k/\p.counts.getD i 0≠0/\eQ (k.fields.length+1) (cH k.fields.length (ci x i k))=true) w;have P:=(zE.1 j).1;refine⟨14,(λe=>by cases e),?_⟩;refine ap func61 ntmps61 λK=>?_
  repeat refine jE ?_
  refine aR mixed ai (γ:=Nat) (λq=>[(6,iD q)]) (λ_=>[]) (λq=>q<=s) (λq=>s-q) 0 (aj av) (Sc.refl _) (zW _) ?_;intro i hi;obtain⟨kd,a⟩:∃y,x.kz[i]?=some y:=⟨_,zD (by omega)⟩
  have v:x.kz[((i:Nat):Int).toNat]?=some kd:=a;obtain⟨c,hc,F⟩:=b.cnt h a;have G:p.counts[((i:Nat):Int).toNat]?=some (c:Int):=hc;have g:p.counts.getD i 0=c:=by rw[List.getD_eq_getElem?_getD,hc];rfl
  have HD:=aN7 x h.sm i kd a (λf C=>(h.fbs kd (zG a) f C).1);have HC2:APure prog 105 [iD ((kd.fields.map aH).length:Nat),mA (ci x i kd)] (if eQ (kd.fields.length+1) (cH kd.fields.length (ci x i kd))then .tup [fV [],iD 14]else .tup [fV (rO (kd.fields.length+1) (cH kd.fields.length (ci x i kd))),iD 0]):=by
   rw[zL];exact aO1 kd.fields.length (ci x i kd) (IY h a)
  have E:=(zE.1 hc).1;by_cases hii:i<s
  .by_cases l:c=0
   .subst l;exact tp
   .have u:eQ (kd.fields.length+1) (cH kd.fields.length (ci x i kd))=false:=by
     cases z:eQ (kd.fields.length+1) (cH kd.fields.length (ci x i kd))with
     |false=>rfl
     |true=>exact absurd ⟨kd,a,by rw[g];omega,z⟩ (r i hii)
    rw[u,if_neg (by decide)]at HC2;exact tp
  .obtain rfl:i=s:=by omega
   obtain rfl:L=kd:=by rw[a]at j;exact(wK j).symm
   rw[b2,if_pos rfl]at HC2;rw[g]at Q
   repeat refine jE ?_
   refine Rt.pure (zM iD ?_);rfl
 .have o:∀(i:Nat)k,x.kz[i]?=some k->p.counts.getD i 0≠0->eQ (k.fields.length+1) (cH k.fields.length (ci x i k))=false:=λi k a hc=>by
   cases z:eQ (k.fields.length+1) (cH k.fields.length (ci x i k))with
   |false=>rfl
   |true=>exact absurd ⟨i,k,a,hc,z⟩ hb
  refine⟨0,λ_=>⟨h,t,I,b,HV,o⟩,?_⟩;refine ap func61 ntmps61 λK=>?_
  repeat refine jE ?_
  refine aR mixed ai (γ:=Nat) (λq=>[(6,iD q)]) (λ_=>[]) (λq=>q<=x.kz.length) (λq=>x.kz.length-q) 0 (aj av) (Sc.refl _) (zW _) ?_;intro i hi;by_cases hii:i<x.kz.length
  .obtain⟨kd,a⟩:∃y,x.kz[i]?=some y:=⟨_,zD (by omega)⟩
   have v:x.kz[((i:Nat):Int).toNat]?=some kd:=a;obtain⟨c,hc,F⟩:=b.cnt h a;have G:p.counts[((i:Nat):Int).toNat]?=some (c:Int):=hc;have g:p.counts.getD i 0=c:=by rw[List.getD_eq_getElem?_getD,hc];rfl
   have HD:=aN7 x h.sm i kd a (λf C=>(h.fbs kd (zG a) f C).1);have HC2:APure prog 105 [iD ((kd.fields.map aH).length:Nat),mA (ci x i kd)] (if eQ (kd.fields.length+1) (cH kd.fields.length (ci x i kd))then .tup [fV [],iD 14]else .tup [fV (rO (kd.fields.length+1) (cH kd.fields.length (ci x i kd))),iD 0]):=by
    rw[zL];exact aO1 kd.fields.length (ci x i kd) (IY h a)
   have E:=(zE.1 hc).1;by_cases l:c=0
   .subst l;exact tp
   .rw[o i kd a (by rw[g];omega),if_neg (by decide)]at HC2;exact tp
  .obtain rfl:i=x.kz.length:=by omega
   repeat refine jE ?_
   refine Rt.pure (zM iD ?_);rfl
abbrev Hj(p:eJ)(i j a b:Nat)(f:am):tQ:=⟨p.seed,[2,(i:Int),(j:Int)],a,b,f.lo,f.hi⟩
theorem NZ{x:ak}{p:eJ}(h:iX x p){i j a b:Nat}(hi:i<=2)(g:j<=10)(e:a<=8)(d:b<=8){f:am}(r:0<=f.lo/\f.lo<=f.hi/\f.hi<=8):lS (Hj p i j a b f) where
 sd:=h.sd.s
 pl:=by simp
 pv:=λv c=>by
  simp only[zU,yF,xE]at c;rcases c with rfl|rfl|rfl<;>(constructor<;>omega)
 fr:=e
 to:=d
 lo:=r.1
 le:=r.2.1
 hi:=by show f.hi<=100;omega
theorem kO(x:ak)(h:o5 x)(p:eJ)(i j t:Nat)(k:au)(f:am)(e:x.kz[i]?=some k)(g:k.fields[j]?=some f)(u:aI x i j=t)(a b:Nat)(w:p.counts[i]?=some (a:Int))(hb:p.counts[t]?=some (b:Int)):APure prog 150 [ax x,eE p,iD i,iD j] (QF (Hj p i j a b f)):=by
 have l:=h.nk;have HU:=Qn x i j (by omega) (λk e=>by have:=h.nf k e;omega);rw[u]at HU;have n:=(zE.1 e).1;have q:=(zE.1 g).1;have o:x.kz[((i:Nat):Int).toNat]?=some k:=e;have r:k.fields[((j:Nat):Int).toNat]?=some f:=g;have v:p.counts[((i:Nat):Int).toNat]?=some (a:Int):=w;have s:p.counts[((t:Nat):Int).toNat]?=some (b:Int):=hb;refine ap func150 ntmps150 λy=>?_
 repeat' first|refine cu ?_|intro b;conv=>whnf
 refine Rs.c ai (m:=1) rfl rfl rfl rfl rfl rfl ?_
 repeat' first|refine cu ?_|intro b;conv=>whnf
 exact Rt.pure rfl
end
section
open Go
def Fk(sd:List Nat)(k i idx:Nat)(f:am):Int:=if f.kind=2 then dN sd [3,(k:Int),(i:Int),(idx:Int)] 1099511627776 else if f.kind=4 then dN sd [5,(k:Int),(i:Int),(idx:Int)] 1099511627776 else 0
def vh(sd:List Nat)(kd:au)(k idx:Nat):Nat->List Int
 |0=>[]
 |i+1=>vh sd kd k idx i++[match kd.fields[i]? with|some f=>Fk sd k i idx f|none=>0]
theorem Oc(sd:List Nat)(k i idx:Nat)(f:am):0<=Fk sd k i idx f/\Fk sd k i idx f<=1099511627776:=by
 unfold Fk;have a:=Fm (sd:=sd) (p:=[3,(k:Int),(i:Int),(idx:Int)]) (n:=1099511627776) (by decide);have h:=Fm (sd:=sd) (p:=[5,(k:Int),(i:Int),(idx:Int)]) (n:=1099511627776) (by decide);split
 .omega
 .split<;>omega
theorem qh(sd:List Nat)(kd:au)(k idx:Nat):∀q,(vh sd kd k idx q).length=q/\∀v∈vh sd kd k idx q,0<=v/\v<=1099511627776
 |0=>by simp[vh]
 |q+1=>by
  obtain⟨b,a⟩:=qh sd kd k idx q;refine⟨by rw[vh,zI,b];rfl,λv h=>?_⟩;rw[vh]at h;rcases zO.1 h with h|h
  .exact a v h
  .rw[zN]at h;subst h;split
   .exact Oc ..
   .omega
theorem qf{a:Int}(d:0<=a/\a<=100){k i idx:Nat}(b:k<=100)(c:i<=100)(hx:idx<=100):x9 [a,(k:Int),(i:Int),(idx:Int)]:=⟨by simp,λv h=>by
 simp only[zU,yF,xE]at h;rcases h with rfl|rfl|rfl|rfl<;>(constructor<;>omega)⟩
theorem mD{A B:Prop}(k:B)(h:ar B->A:=by intro q7;(first|refine bO ?_|refine aA ?_|(refine' ah ?hc ?_;(case hc=>first|exact HB3|exact HB5|exact HD|exact HF)));exact q7.1):A:=h ⟨k⟩
theorem bC1{p:Prop}(h:p:=by rw[vh,hf0,yB];simp only;rw[epk];rfl):p:=h
theorem Pg{p:Prop}(h:p:=by
 repeat refine mD ?_
 refine Ap.go rfl rfl rfl rfl hr (bS _) rfl (zs:=(vh p.seed kd k idx (i+1)).map λn=>[iD n]) bC1 (by rw[zL];omega) (by rw[zL];omega) (λs'=>s') da (λa' c' s' hr=>?_)
 repeat refine mD ?_
 exact⟨(i+1,_,s'),(aj av),Sc.refl _,⟨by simp only;omega,hr⟩,by simp only;omega⟩):p:=h
theorem m6(x:ak)(p:eJ)(h:iX x p)(k idx:Nat)(hx:idx<=100)(kd:au)(a:x.kz[k]?=some kd)(hc:p.counts.getD k 0≠0):∃l:List Int,l.length=kd.fields.length/\(∀v∈l,-4294967296<=v/\v<=4294967296)/\APure prog 197 [ax x,eE p,iD k,iD idx] (bj l):=by
 have b:=h.gx;have E:=b.nk;have G:=(zE.1 a).1;have I:x.kz[((k:Nat):Int).toNat]?=some kd:=a;have j:=b.sm.nf kd (zG a);have e:=h.ng k kd a hc;have R:=I7 b a e;have S:=IY b a;have r:=K6 (n:=kd.fields.length) j;have D:=Tz (n:=kd.fields.length+1);have q:(0:Int)<=2 ^ (kd.fields.length+1)*2097152:=by omega
 obtain⟨w,u⟩:=qh p.seed kd k idx kd.fields.length;have HD:=aN7 x b.sm k kd a (λf t=>(b.fbs kd (zG a) f t).1);have HF:APure prog 238 [iD ((kd.fields.map aH).length:Nat),mA (ci x k kd),bj (vh p.seed kd k idx kd.fields.length)] (.tup [bj (cp kd.fields.length (cH kd.fields.length (ci x k kd)) (vh p.seed kd k idx kd.fields.length) kd.fields.length),iD 0]):=by
  rw[zL];exact BS _ _ S e _ q R _ w u
 have o:=qF R (vh p.seed kd k idx kd.fields.length) kd.fields.length (zT _);refine⟨_,o.l,λv C=>by have:=o.v v C;omega,?_⟩;generalize cp kd.fields.length (cH kd.fields.length (ci x k kd)) (vh p.seed kd k idx kd.fields.length) kd.fields.length=z at *;refine ap func197 ntmps197 λJ=>?_
 repeat refine mD ?_
 refine aR mixed ai (γ:=Nat×Value×af) (λg=>[(11,iD g.1),(9,.v g.2.1)]) (λg=>g.2.2) (λg=>g.1<=kd.fields.length/\Kw (vh p.seed kd k idx g.1) g.2.1 g.2.2) (λg=>kd.fields.length-g.1) (0,.slice none 0 0,[]) (aj av) (Sc.refl _) ⟨zW _,ae.nil _ _⟩ ?_;rintro⟨i,v,s⟩ ⟨hi,hr⟩;simp only at hi hr⊢;by_cases hil:i<kd.fields.length
 .obtain⟨f,hf0⟩:∃y,kd.fields[i]?=some y:=⟨_,zD hil⟩
  have t:kd.fields[((i:Nat):Int).toNat]?=some f:=hf0;have F:=(qh p.seed kd k idx (i+1)).1;have HB3:=QS p.seed h.sd.s [3,(k:Int),(i:Int),(idx:Int)] (qf (by omega) (by omega) (by omega) hx) 1099511627776 (D4 _ _ (.inr (.inr rfl)));have HB5:=QS p.seed h.sd.s [5,(k:Int),(i:Int),(idx:Int)] (qf (by omega) (by omega) (by omega) hx) 1099511627776 (D4 _ _ (.inr (.inr rfl)));by_cases h2:f.kind=2
  .have epk:Fk p.seed k i idx f=dN p.seed [3,(k:Int),(i:Int),(idx:Int)] 1099511627776:=by unfold Fk;rw[if_pos h2]
   exact Pg
  .by_cases h4:f.kind=4
   .have epk:Fk p.seed k i idx f=dN p.seed [5,(k:Int),(i:Int),(idx:Int)] 1099511627776:=by unfold Fk;rw[if_neg h2,if_pos h4]
    exact Pg
   .have epk:Fk p.seed k i idx f=0:=by unfold Fk;rw[if_neg h2,if_neg h4]
    exact Pg
 .obtain rfl:i=kd.fields.length:=by omega
  repeat refine mD ?_
  refine CE.gives (.cons (Vs.refl _ _) (.cons (Vs.refl _ _) (.cons (Vs.row hr (bS _)) (.nil _)))) HF ?_
  repeat refine mD ?_
  exact Rt.pure rfl
theorem EC{sd:List Nat}{p:List Int}{n:Int}(h:n≠0):0<=dN sd p n/\(dN sd p n<n\/dN sd p n < -n):=by
 by_cases h0:0<n
 .have:=Fm (sd:=sd) (p:=p) h0;omega
 .have e:dN sd p n=dN sd p (-n):=by unfold dN;rw[Int.tmod_neg]
  have:=Fm (sd:=sd) (p:=p) (n:=-n) (by omega);rw[e];omega
theorem IP{x:ak}(h:bL x){k f:Nat}{kd:au}{d:am}(a:x.kz[k]?=some kd)(b:kd.fields[f]?=some d){y:dz}(g:bf x y.kind=k)(c:y.field=d.name):cF x y=((k:Int),(f:Int)):=by
 unfold cF;have e:=yp (h.hx.form k kd a).nodup b;rw[g,wb a];simp only;rw[c,e,if_neg (by omega)]
theorem gJ{A B:Prop}(k:B)(h:ar B->A:=by intro q7;(first|refine bO ?_|refine aA ?_|(refine' ah ?hc ?_;(case hc=>first|exact HK|exact HN|exact HV|exact HF|exact HB|exact HS)));exact q7.1):A:=h ⟨k⟩
theorem cq4{p:Prop}(h:p:=by
 refine ap func151 ntmps151 λBB=>?_
 repeat' first|refine gJ ?_|intro b;conv=>whnf
 obtain⟨b12,rfl⟩:∃c,c=b:=⟨_,rfl⟩
 refine aR mixed ai (γ:=Nat×Bool) (λg=>[(13,iD g.1),(11,bD g.2)]) (λ_=>[(b12,.cells 78 (bA kd))]) (λg=>g.1<=p.plants.length/\((∃i:Nat,i<g.1/\∃y,p.plants[i]?=some y/\bf x y.kind=k/\y.field=d.name)->g.2=true)) (λg=>p.plants.length-g.1) (0,false) (aj av) (Sc.refl _) ⟨zW _,λ⟨i,h,_⟩=>absurd h (by simp)⟩ ?_;rintro⟨i,pl⟩ ⟨hi,hpl⟩;simp only at hi hpl⊢;by_cases hil:i<p.plants.length
 .obtain⟨y,hy0⟩:∃y,p.plants[i]?=some y:=⟨_,zD hil⟩
  have hy:p.plants[((i:Nat):Int).toNat]?=some y:=hy0;have HK:=EX x y.kind (by omega);have hno:¬(bf x y.kind=k/\y.field=d.name)->(∃q:Nat,q<i+1/\∃y,p.plants[q]?=some y/\bf x y.kind=k/\y.field=d.name)->pl=true:=by
   rintro hn ⟨q,hq,z,hz,hzk⟩;by_cases e:q=i
   .subst e;rw[hy0]at hz;cases hz;exact absurd hzk hn
   .exact hpl ⟨q,by omega,z,hz,hzk⟩
  by_cases e1:bf x y.kind=k
  .cases e2:(y.field.toList==d.name.toList)with
   |false=>
    repeat' first|refine gJ ?_|intro b;conv=>whnf
    exact⟨(i+1,pl),(aj av),Sc.refl _,⟨by simp only;omega,hno (λhh=>by have:=(EM _ _).2 hh.2;unfold seq at this;rw[e2]at this;cases this)⟩,by simp only;omega⟩
   |true=>
    repeat' first|refine gJ ?_|intro b;conv=>whnf
    exact⟨(i+1,true),(aj av),Sc.refl _,⟨by simp only;omega,λ_=>rfl⟩,by simp only;omega⟩
  .repeat' first|refine gJ ?_|intro b;conv=>whnf
   exact⟨(i+1,pl),(aj av),Sc.refl _,⟨by simp only;omega,hno (λhh=>e1 hh.1)⟩,by simp only;omega⟩
 obtain rfl:i=p.plants.length:=by omega
 obtain⟨q1,hq1⟩:=yO hy1;obtain rfl:pl=true:=hpl ⟨q1,(zE.1 hq1).1,y1,hq1,hk1,hf1⟩
 repeat' first|refine gJ ?_|intro b;conv=>whnf
 refine Rt.pure (zM iD ?_);rfl):p:=h
theorem LP{p:Prop}(h:p:=by
 repeat' first|refine gJ ?_|intro b;conv=>whnf
 exact⟨i+1,(aj av),Sc.refl _,by omega,by omega⟩):p:=h
theorem aT0(x:ak)(p:eJ)(h:iX x p)(k idx f:Nat)(kd:au)(d:am)(a:x.kz[k]?=some kd)(j:kd.fields[f]?=some d)(h24:d.kind=2\/d.kind=4)(c:Nat)(hc:p.counts[k]?=some (c:Int))(hi:idx<c):∃v,(-4294967296<=v/\v<=4294967296)/\APure prog 151 [ax x,eE p,iD k,iD idx,iD f] (iD v):=by
 have o:=h.gx;have O:=o.nk;have L:=h.pl.n;have T:=(zE.1 a).1;have V:=(zE.1 j).1;have U:x.kz[((k:Nat):Int).toNat]?=some kd:=a;have Y:kd.fields[((f:Nat):Int).toNat]?=some d:=j;have P:=o.sm.nf kd (zG a);obtain⟨c',C,Z⟩:=h.ok.cnt o a;obtain rfl:c=c':=by rw[hc]at C;have:=wK C;omega
 have E:p.counts.getD k 0=c:=by rw[List.getD_eq_getElem?_getD,hc];rfl
 have X:=o.fb a j;obtain⟨l,hl,G,HN⟩:=m6 x p h k idx (by omega) kd a (by rw[E];omega);obtain⟨F,r⟩:∃z,l[f]?=some z:=⟨_,zD (by omega)⟩
 have R:l[((f:Nat):Int).toNat]?=some F:=r;have t:=G F (zG r);obtain⟨v,b,hv,hb,HV⟩:=uX x o.sm p h.pl h.hv k f kd d a j c hc (by omega) idx hi;by_cases hpl:∃y∈p.plants,bf x y.kind=k/\y.field=d.name
 case neg=>
  refine⟨F,t,?_⟩;refine ap func151 ntmps151 λBB=>?_
  repeat' first|refine gJ ?_|intro b;conv=>whnf
  obtain⟨b12,rfl⟩:∃c,c=b:=⟨_,rfl⟩
  refine aR mixed ai (γ:=Nat) (λi=>[(13,iD i),(11,bD false)]) (λ_=>[(b12,.cells 78 (bA kd))]) (λi=>i<=p.plants.length) (λi=>p.plants.length-i) 0 (aj av) (Sc.refl _) (zW _) ?_;intro i hi;by_cases hil:i<p.plants.length
  .obtain⟨y,hy0⟩:∃y,p.plants[i]?=some y:=⟨_,zD hil⟩
   have hy:p.plants[((i:Nat):Int).toNat]?=some y:=hy0;have HK:=EX x y.kind (by omega);by_cases e1:bf x y.kind=k
   .have e2:(y.field.toList==d.name.toList)=false:=by
     cases hh:(y.field.toList==d.name.toList)with
     |false=>rfl
     |true=>exact absurd ⟨y,zG hy0,e1,(EM _ _).1 hh⟩ hpl
    exact LP
   .exact LP
  .obtain rfl:i=p.plants.length:=by omega
   repeat' first|refine gJ ?_|intro b;conv=>whnf
   refine Rt.pure (zM iD ?_);rfl
 obtain⟨y1,hy1,hk1,hf1⟩:=hpl;have w:=IP o a j hk1 hf1;have h2:d.kind=2:=(h.ok.pl y1 hy1).2 k f kd d w a j;have HF:=BQ x o.sm p h.pl h.hv k f kd d a j h2 (by omega) (by omega);have Q:=kX h.pl.v (dU x p.plants k f p.plants.length);have M:=JI x p.plants k f p.plants.length;have S:fi x p.plants d k f=d.hi-d.lo+1-iI p.plants (dU x p.plants k f p.plants.length):=rfl;have s:=h.ok.lef y1 hy1 k f kd d w a j;rw[E]at s;have D:ge k f:=by
  have:=((o.ks.pos k kd a).at (by omega) j).2.2 (by omega);unfold ge;omega
 cases b with
 |true=>
  refine⟨v,by omega,?_⟩;exact cq4
 |false=>
  have K:=hb rfl;have u:fi x p.plants d k f≠0:=λe=>by have:=s e;omega
  have hD:=(H9 h.sd D (i:=idx) (by omega)).drw u (by omega);have HB:=QS p.seed h.sd.s [3,(k:Int),(f:Int),(idx:Int)] (qf (by omega) (by omega) (by omega) (by omega)) _ hD;have hbe:=EC (sd:=p.seed) (p:=[3,(k:Int),(f:Int),(idx:Int)]) (n:=fi x p.plants d k f) u;obtain⟨I,e2,J,HS⟩:=BM x o.sm p h.pl h.hv k f kd d a j h2 (by omega) (by omega) (dN p.seed [3,(k:Int),(f:Int),(idx:Int)] (fi x p.plants d k f)) (by omega);refine⟨I,by omega,?_⟩;exact cq4
end
section
open Go
theorem bL.life{x:ak}(h:bL x):∃l,x.lz=[l]/\l.name=br/\yc l/\∀s,(co l.mz s).length<=2:=by
 obtain⟨m,mv,g,f,a,e,d⟩:=h.ls;have c:(fy.take m).length=m:=by rw[zR];simp;omega
 refine⟨_,a,rfl,⟨by simp only;omega,by simp only;omega,λq b=>?_⟩,λs=>?_⟩
 .have:=d q b;simp only;rw[c];exact this
 .have:=h.mc ⟨br,fy.take m,mv⟩ (by rw[a];simp) s;unfold I6 at this;unfold co;rw[zL];exact this
theorem BL(x:ak)(l:bX)(hl:x.lz=[l])(e:l.name=br):APure prog 205 [ax x,sD br] (dl l):=by
 have h0:x.lz[((0:Int)).toNat]?=some l:=by rw[hl];rfl
 have f:x.lz.length=1:=by rw[hl];rfl
 have g:(l.name.toList==br.toList)=true:=by rw[e];exact PN _
 refine ap func205 ntmps205 λi=>?_
 repeat' first|refine aO ?_|intro b;conv=>whnf
 refine aR mixed ai (γ:=Nat) (λq=>[(5,iD q)]) (λ_=>[(b,.cells 93 [.v (zv ZV.str),.v (zv ZV.sl),.v (zv ZV.sl)])]) (λq=>q=0) (λq=>q) 0 (aj av) (Sc.refl _) rfl ?_;intro q a;subst a
 repeat' first|refine aO ?_|intro b;conv=>whnf
 exact Rt.pure rfl
theorem Sq{A B:Prop}(k:B)(h:ar B->A:=by intro q7;(first|refine bO ?_|refine aA ?_|(refine' ah ?hc ?_;(case hc=>first|exact HB|exact HL|exact HW)));exact q7.1):A:=h ⟨k⟩
theorem BK(x:ak)(p:eJ)(h:iX x p)(k idx j:Nat)(kd:au)(f:am)(e:x.kz[k]?=some kd)(w:kd.fields[j]?=some f)(h5:f.kind=5)(hb:0<=f.lo/\f.lo<=f.hi/\f.hi<=6)(F:f.of=br)(hi:idx<8):∃l:List Int,(1<=l.length/\l.length<=101)/\(∀z∈l,0<=z/\z<=100)/\APure prog 153 [ax x,eE p,iD k,iD idx,iD j] (bj l):=by
 have g:=h.gx;have G:=g.nk;have K:=(zE.1 e).1;have M:=(zE.1 w).1;have L:x.kz[((k:Nat):Int).toNat]?=some kd:=e;have O:kd.fields[((j:Nat):Int).toNat]?=some f:=w;have I:=g.sm.nf kd (zG e);obtain⟨l,hl,u,s,v⟩:=g.life;have HL:=BL x l hl u;rw[←F]at HL;have y:ge k j:=by
  have:=((g.ks.pos k kd e).at (by omega) w).2.2 (by omega);unfold ge;omega
 have t:=qf (a:=6) (by omega) (k:=k) (i:=j) (idx:=idx) (by omega) (by omega) (by omega);have Q:=(Ci h.sd y hi).drw (n:=f.hi-f.lo+1) (by omega) (by omega);have HB:=aH1 p.seed h.sd.s [6,(k:Int),(j:Int),(idx:Int)] (by simp) t.v f.lo f.hi ⟨by omega,by omega,by omega,by omega⟩ Q;have P:=Fm (sd:=p.seed) (p:=[6,(k:Int),(j:Int),(idx:Int)]) (n:=f.hi-f.lo+1) (by omega);obtain⟨m,C⟩:∃m:Nat,fX p.seed [6,(k:Int),(j:Int),(idx:Int)] f.lo f.hi=m:=⟨(fX p.seed [6,(k:Int),(j:Int),(idx:Int)] f.lo f.hi).toNat,by unfold fX;omega⟩
 have J:m<=6:=by unfold fX at C;omega
 rw[C]at HB;have HW:=BV l s v p.seed h.sd.s [6,(k:Int),(j:Int),(idx:Int)] (by simp) t.v m (by omega);have o:=aL5 (mv:=l.mz) (sd:=p.seed) (p:=[6,(k:Int),(j:Int),(idx:Int)]) m;have r:=kT (mv:=l.mz) (sd:=p.seed) (p:=[6,(k:Int),(j:Int),(idx:Int)]) (n:=l.tz.length) (by have:=s.n;omega) (λq E=>(s.q q E).2) m;refine⟨_,⟨o.1,by omega⟩,λz D=>by have:=r z D;have:=s.n;omega,?_⟩;refine ap func153 ntmps153 λR=>?_
 repeat' first|refine Sq ?_|intro b;conv=>whnf
 exact Rt.pure rfl
end
end Go.Proofs.YtilnpcolgcmofaaGreatDoor
