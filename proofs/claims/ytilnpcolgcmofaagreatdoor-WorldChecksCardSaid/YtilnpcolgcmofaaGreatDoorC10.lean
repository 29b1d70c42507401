/- A part of the proof. -/
import Derived.Test.YtilnpcolgcmofaaGreatDoorC09
import Derived.Laws.AppendOwn
set_option maxRecDepth 100000
set_option maxHeartbeats 20000000
set_option linter.all false
namespace Go.Proofs.YtilnpcolgcmofaaGreatDoor
open Tryz
section
open Go Go.RowKit Go.Shelf
section
variable {P:Program} {r:Option Nat} {n:Nat} {df:Nat} {ops:Array Oper} {Q:fG} {a:List D} {σ:ae} {md:Region.Mode}
def hQ(l:List Nat)(i:Nat):Bool:=l.any (Nat.beq i)
inductive fB where
 |done
 |one (i:Nat) (t:fB)
 |two (i:Nat) (t:fB) (j:Nat) (u:fB)
 |three (i:Nat) (t:fB) (j:Nat) (u:fB) (k:Nat) (v:fB)
 |four (i:Nat) (t:fB) (j:Nat) (u:fB) (k:Nat) (v:fB) (l:Nat) (w:fB)
 |five (i:Nat) (t:fB) (j:Nat) (u:fB) (k:Nat) (v:fB) (l:Nat) (w:fB) (m:Nat) (x:fB)
 |fst (i:Nat) (t:fB)
def cd(md:Region.Mode)(ops:Array Oper)(E:Nat->Bool):Nat->fB->Array Bool->Bool
 |0,.done,d=>(Region.ready md ops d).isEmpty
 |f+1,.one i t,d=>decide (Region.ready md ops d=[i])&&(E i&&cd md ops E f t (d.setIfInBounds i true))
 |f+1,.two i t j u,d=>decide (Region.ready md ops d=[i,j])&&(E i&&E j&&(cd md ops E f t (d.setIfInBounds i true)&&cd md ops E f u (d.setIfInBounds j true)))
 |f+1,.three i t j u k v,d=>decide (Region.ready md ops d=[i,j,k])&&(E i&&E j&&E k&&(cd md ops E f t (d.setIfInBounds i true)&&(cd md ops E f u (d.setIfInBounds j true)&&cd md ops E f v (d.setIfInBounds k true))))
 |f+1,.four i t j u k v l w,d=>decide (Region.ready md ops d=[i,j,k,l])&&(E i&&E j&&E k&&E l&&(cd md ops E f t (d.setIfInBounds i true)&&(cd md ops E f u (d.setIfInBounds j true)&&(cd md ops E f v (d.setIfInBounds k true)&&cd md ops E f w (d.setIfInBounds l true)))))
 |f+1,.five i t j u k v l w m x,d=>decide (Region.ready md ops d=[i,j,k,l,m])&&(E i&&E j&&E k&&E l&&E m&&(cd md ops E f t (d.setIfInBounds i true)&&(cd md ops E f u (d.setIfInBounds j true)&&(cd md ops E f v (d.setIfInBounds k true)&&(cd md ops E f w (d.setIfInBounds l true)&&cd md ops E f x (d.setIfInBounds m true))))))
 |f+1,.fst i t,d=>(Region.ready md ops d).contains i&&Region.free md ops d i && !E i&&cd md ops E f t (d.setIfInBounds i true)
 |_,_,_=>false
def dM(P:Program)(r:Option Nat)(n:Nat)(df:Nat)(ops:Array Oper)(E:Nat->Bool)(L:List D->ae->Prop):fB->List D->ae->Prop
 |.done,a,σ=>L a σ
 |.one i t,a,σ=>dA P r n df ops E i (dM P r n df ops E L t) a σ
 |.two i t j u,a,σ=>dA P r n df ops E i (dM P r n df ops E L t) a σ/\dA P r n df ops E j (dM P r n df ops E L u) a σ
 |.three i t j u k v,a,σ=>dA P r n df ops E i (dM P r n df ops E L t) a σ/\dA P r n df ops E j (dM P r n df ops E L u) a σ/\dA P r n df ops E k (dM P r n df ops E L v) a σ
 |.four i t j u k v l w,a,σ=>dA P r n df ops E i (dM P r n df ops E L t) a σ/\dA P r n df ops E j (dM P r n df ops E L u) a σ/\dA P r n df ops E k (dM P r n df ops E L v) a σ/\dA P r n df ops E l (dM P r n df ops E L w) a σ
 |.five i t j u k v l w m x,a,σ=>dA P r n df ops E i (dM P r n df ops E L t) a σ/\dA P r n df ops E j (dM P r n df ops E L u) a σ/\dA P r n df ops E k (dM P r n df ops E L v) a σ/\dA P r n df ops E l (dM P r n df ops E L w) a σ/\dA P r n df ops E m (dM P r n df ops E L x) a σ
 |.fst i t,a,σ=>∃o d,ops[i]?=some o/\cq none P ops [] o d a/\dM P r n df ops E L t (aK a o.dst d) σ
def pJ{E:Nat->Bool}{L:List D->ae->Prop}:∀(f:Nat)(t:fB)(b:Array Bool)(a:List D)(σ:ae),HeadInv md ops ops.size b->cd md ops E f t b=true->dM P r n df ops E L t a σ->jr P r n df md ops E L f b a σ
 |0,.done,b,a,σ,_,B,h=>⟨by simpa [cd]using B,h⟩
 |f+1,.one i t,b,a,σ,y,B,h=>by
  simp only[cd,zJ,zQ]at B;refine⟨λA=>(by rw[B.1]at A;cases A),λk z=>?_⟩;have e:=z;rw[B.1]at z;have:k=i:=by simpa using z
  subst this;obtain⟨_,o,C,_⟩:=mem_ready.1 e;exact cK (λp σ' g=>pJ f t _ p σ' (y.set e (zX.1 C).1) B.2.2 g) h
 |f+1,.two i t j u,b,a,σ,y,B,h=>by
  simp only[cd,zJ,zQ]at B;refine⟨λA=>(by rw[B.1]at A;cases A),λk z=>?_⟩;have e:=z;rw[B.1]at z;obtain⟨_,o,C,_⟩:=mem_ready.1 e;have c:=y.set e (zX.1 C).1;have:k=i\/k=j:=by simpa using z
  rcases this with rfl|rfl
  .exact cK (λp σ' g=>pJ f t _ p σ' c B.2.2.1 g) h.1
  .exact cK (λp σ' g=>pJ f u _ p σ' c B.2.2.2 g) h.2
 |f+1,.three i t j u l v,b,a,σ,y,B,h=>by
  simp only[cd,zJ,zQ]at B;refine⟨λA=>(by rw[B.1]at A;cases A),λk z=>?_⟩;have e:=z;rw[B.1]at z;obtain⟨_,o,C,_⟩:=mem_ready.1 e;have c:=y.set e (zX.1 C).1;have:k=i\/k=j\/k=l:=by simpa using z
  rcases this with rfl|rfl|rfl
  .exact cK (λp σ' g=>pJ f t _ p σ' c B.2.2.1 g) h.1
  .exact cK (λp σ' g=>pJ f u _ p σ' c B.2.2.2.1 g) h.2.1
  .exact cK (λp σ' g=>pJ f v _ p σ' c B.2.2.2.2 g) h.2.2
 |f+1,.four i t j u l v m w,b,a,σ,y,B,h=>by
  simp only[cd,zJ,zQ]at B;refine⟨λA=>(by rw[B.1]at A;cases A),λk z=>?_⟩;have e:=z;rw[B.1]at z;obtain⟨_,o,C,_⟩:=mem_ready.1 e;have c:=y.set e (zX.1 C).1;have:k=i\/k=j\/k=l\/k=m:=by simpa using z
  rcases this with rfl|rfl|rfl|rfl
  .exact cK (λp σ' g=>pJ f t _ p σ' c B.2.2.1 g) h.1
  .exact cK (λp σ' g=>pJ f u _ p σ' c B.2.2.2.1 g) h.2.1
  .exact cK (λp σ' g=>pJ f v _ p σ' c B.2.2.2.2.1 g) h.2.2.1
  .exact cK (λp σ' g=>pJ f w _ p σ' c B.2.2.2.2.2 g) h.2.2.2
 |f+1,.five i t j u l v m w q x,b,a,σ,y,B,h=>by
  simp only[cd,zJ,zQ]at B;refine⟨λA=>(by rw[B.1]at A;cases A),λk z=>?_⟩;have e:=z;rw[B.1]at z;obtain⟨_,o,C,_⟩:=mem_ready.1 e;have c:=y.set e (zX.1 C).1;have:k=i\/k=j\/k=l\/k=m\/k=q:=by simpa using z
  rcases this with rfl|rfl|rfl|rfl|rfl
  .exact cK (λp σ' g=>pJ f t _ p σ' c B.2.2.1 g) h.1
  .exact cK (λp σ' g=>pJ f u _ p σ' c B.2.2.2.1 g) h.2.1
  .exact cK (λp σ' g=>pJ f v _ p σ' c B.2.2.2.2.1 g) h.2.2.1
  .exact cK (λp σ' g=>pJ f w _ p σ' c B.2.2.2.2.2.1 g) h.2.2.2.1
  .exact cK (λp σ' g=>pJ f x _ p σ' c B.2.2.2.2.2.2 g) h.2.2.2.2
 |f+1,.fst i t,b,a,σ,y,B,h=>by
  simp only[cd,zJ,xJ]at B;obtain⟨⟨⟨K,M⟩,N⟩,I⟩:=B;obtain⟨o,d,C,J,z⟩:=h;have F:i∈Region.ready md ops b:=by simpa using K
  have G:i<ops.size:=(zX.1 C).1;have H:=pJ f t _ _ _ (y.set F G) I z;exact ar1 (S:=λ_=>True) C N (λ_ _ _ _ _ _ _=>trivial) f b a σ y (Region.free_spec C M) F trivial (λs _=>J.free s) H
 |0,.one _ _,_,_,_,_,B,_=>by cases B
 |0,.three _ _ _ _ _ _,_,_,_,_,B,_=>by cases B
 |0,.four _ _ _ _ _ _ _ _,_,_,_,_,B,_=>by cases B
 |0,.five _ _ _ _ _ _ _ _ _ _,_,_,_,_,B,_=>by cases B
 |0,.two _ _ _ _,_,_,_,_,B,_=>by cases B
 |0,.fst _ _,_,_,_,_,B,_=>by cases B
 |_+1,.done,_,_,_,_,B,_=>by cases B
def Ku(md:Region.Mode)(ops:Array Oper)(E:Nat->Bool)(f:Nat)(t:fB):List Nat->Array Bool->Bool
 |[],l=>cd md ops E f t l
 |i::h,l=>(Region.ready md ops l).contains i&&Region.free md ops l i && !E i&&Ku md ops E f t h (l.setIfInBounds i true)
def aK8{E:Nat->Bool}{L:List D->ae->Prop}{f:Nat}{t:fB}:∀(b:List Nat)(listed:Array Bool)(a:List D)(σ:ae),HeadInv md ops ops.size listed->Ku md ops E f t b listed=true ->
  jV P md ops E (dM P r n df ops E L t) b a σ->jr P r n df md ops E L (b.length+f) listed a σ
 |[],listed,a,σ,inv,B,h=>by
  rw[show([]:List Nat).length+f=f by simp];exact pJ f t listed a σ inv B h
 |i::b,listed,a,σ,inv,B,h=>by
  simp only[Ku,zJ,xJ]at B;obtain⟨⟨⟨k,hf⟩,hE⟩,g⟩:=B;obtain⟨o,d,ho,hy,l⟩:=h;have hr':i∈Region.ready md ops listed:=by simpa using k
  have c:i<ops.size:=(zX.1 ho).1;have H:=aK8 b _ _ _ (inv.set hr' c) g l;rw[show(i::b).length+f=(b.length+f)+1 by simp;omega];rcases hy with⟨hb,hy⟩|hy
  .exact Qi
  .exact Fa
def mA{id:Nat}{l:List Oper}(E:Nat->Bool)(s:List Nat)(f:Nat)(t:fB)(m:P.follows .mixedOrders=true)(c:s.length+f=l.length)(B:Ku .any l.toArray E f t s (Array.replicate l.length false)=true)
  (h:jV P .any l.toArray E (dM P r n df l.toArray E (λa σ=>Q .normal a σ) t) s a σ):ey P r n df (.region id l.toArray true) Q a σ:=by
 refine⟨λw X k d=>?_⟩;have i:HeadInv .any l.toArray l.toArray.size (Array.replicate l.length false):=
  ⟨by simp,λj o _ c=>(by rw[getD_replicate_false]at c;cases c),λt p g=>by omega⟩
 refine wpIn_region_any m ?_;have b:=QI w;have:=NW (w0:=w) (σ0:=σ) (X:=X) _ _ _ _ k { w with drawn:=w.drawn+1 } (kE b) (d.ex b) (aK8 s _ a σ i B h);rw[c]at this;have e:l.toArray.size=l.length:=by simp
 rw[e];exact this
def pH{E:Nat->Bool}{L c:List D->ae->Prop}(h:∀a σ,L a σ->c a σ):∀{t:fB}{a:List D}{σ:ae},dM P r n df ops E L t a σ->dM P r n df ops E c t a σ
 |.done,_,_,b=>h _ _ b
 |.one _ _,_,_,b=>cK (λ_ _=>pH h) b
 |.two _ _ _ _,_,_,b=>⟨cK (λ_ _=>pH h) b.1,cK (λ_ _=>pH h) b.2⟩
 |.three _ _ _ _ _ _,_,_,b=>⟨cK (λ_ _=>pH h) b.1,cK (λ_ _=>pH h) b.2.1,cK (λ_ _=>pH h) b.2.2⟩
 |.four _ _ _ _ _ _ _ _,_,_,b=>⟨cK (λ_ _=>pH h) b.1,cK (λ_ _=>pH h) b.2.1,cK (λ_ _=>pH h) b.2.2.1,cK (λ_ _=>pH h) b.2.2.2⟩
 |.five _ _ _ _ _ _ _ _ _ _,_,_,b=>⟨cK (λ_ _=>pH h) b.1,cK (λ_ _=>pH h) b.2.1,cK (λ_ _=>pH h) b.2.2.1,cK (λ_ _=>pH h) b.2.2.2.1,cK (λ_ _=>pH h) b.2.2.2.2⟩
 |.fst _ _,_,_,b=>let ⟨o,d,h1,h2,h3⟩:=b;⟨o,d,h1,h2,pH h h3⟩
end
section
variable {P:Program} {r:Option Nat} {n:Nat} {df:Nat} {N:Nat} {σ:ae} {a:List D} {f:aP} {T:TypeId->Option TI} {L:List Oper} {Q:ik}
def EK(P:Program)(T:TypeId->Option TI)(N:Nat)(L:List Oper)(i:Nat)(K:aP->Prop)(f:aP):Prop:=match L[i]? with
 |none=>False
 |some o=>J6 L f o λgo=>match go with
  |true=>bif jM o.op then gR P T o f [] (λd=>aX N o.dst d f K)else False
  |false=>aX N o.dst (.v undef) f K
def mx(P:Program)(T:TypeId->Option TI)(r:Option Nat)(n:Nat)(df:Nat)(N:Nat)(L:List Oper)(K:aP->ae->Prop):fB->aP->ae->Prop
 |.done,f,σ=>K f σ
 |.one i t,f,σ=>jA P T r n df N L i (mx P T r n df N L K t) f σ
 |.two i t j u,f,σ=>jA P T r n df N L i (mx P T r n df N L K t) f σ/\jA P T r n df N L j (mx P T r n df N L K u) f σ
 |.three i t j u k v,f,σ=>jA P T r n df N L i (mx P T r n df N L K t) f σ/\jA P T r n df N L j (mx P T r n df N L K u) f σ/\jA P T r n df N L k (mx P T r n df N L K v) f σ
 |.four i t j u k v l w,f,σ=>jA P T r n df N L i (mx P T r n df N L K t) f σ/\jA P T r n df N L j (mx P T r n df N L K u) f σ/\jA P T r n df N L k (mx P T r n df N L K v) f σ/\jA P T r n df N L l (mx P T r n df N L K w) f σ
 |.five i t j u k v l w m x,f,σ=>jA P T r n df N L i (mx P T r n df N L K t) f σ/\jA P T r n df N L j (mx P T r n df N L K u) f σ/\jA P T r n df N L k (mx P T r n df N L K v) f σ/\jA P T r n df N L l (mx P T r n df N L K w) f σ/\jA P T r n df N L m (mx P T r n df N L K x) f σ
 |.fst i t,f,σ=>EK P T N L i (λa=>mx P T r n df N L K t a σ) f
def EJ(l:∀t i,T t=some i->aH P t=some i){i:Nat}{K:aP->Prop}(h:EK P T N L i K f)(s:Sp N a f):∃o d,L.toArray[i]?=some o/\cq none P L.toArray [] o d a/\∃c,Sp N (aK a o.dst d) c/\K c:=by
 unfold EK at h;split at h
 .exact h.elim
 .rename_i o k;have e:L.toArray[i]?=some o:=by simpa using k
  obtain⟨go,w,j⟩:=Q3 (K:=λgo=>match go with
   |true=>bif jM o.op then gR P T o f [] (λd=>aX N o.dst d f K)else False
   |false=>aX N o.dst (.v undef) f K) h s
  cases go with
  |true=>
   obtain⟨n,p⟩:=iH j;obtain⟨d,y,m⟩:=N2 l p;obtain⟨c,b,g⟩:=fT m s;exact⟨o,d,e,.inl ⟨w,n,.of (y.le s.le)⟩,c,b,g⟩
  |false=>
   obtain⟨c,b,g⟩:=fT j s;exact⟨o,_,e,.inr ⟨w,rfl⟩,c,b,g⟩
def gt(p:Nat->Bool):fB->Bool
 |.done=>true
 |.one i t=>p i&&gt p t
 |.two i t j u=>p i&&(gt p t&&(p j&&gt p u))
 |.three i t j u k v=>p i&&(gt p t&&(p j&&(gt p u&&(p k&&gt p v))))
 |.four i t j u k v l w=>p i&&(gt p t&&(p j&&(gt p u&&(p k&&(gt p v&&(p l&&gt p w))))))
 |.five i t j u k v l w m x=>p i&&(gt p t&&(p j&&(gt p u&&(p k&&(gt p v&&(p l&&(gt p w&&(p m&&gt p x))))))))
 |.fst _ t=>gt p t
def pE(e:∀t i,T t=some i->aH P t=some i){E:Nat->Bool}:∀{t:fB}{K:aP->ae->Prop}{f:aP}{σ:ae}{a:List D},gt E t=true->mx P T r n df N L K t f σ->Sp N a f->dM P r n df L.toArray E (λq σ'=>∃p,Sp N q p/\K p σ') t a σ
 |.done,K,f,σ,a,c,h,s=>⟨f,s,h⟩
 |.one i t,K,f,σ,a,c,h,s=>by
  simp only[gt,zJ]at c;exact j9 e c.1 h s (λp σ' q g b=>pE e c.2 g b)
 |.two i t j u,K,f,σ,a,c,h,s=>by
  simp only[gt,zJ]at c;exact⟨j9 e c.1 h.1 s (λp σ' q g b=>pE e c.2.1 g b),j9 e c.2.2.1 h.2 s (λp σ' q g b=>pE e c.2.2.2 g b)⟩
 |.three i t j u k v,K,f,σ,a,c,h,s=>by
  simp only[gt,zJ]at c;exact⟨j9 e c.1 h.1 s (λp σ' q g b=>pE e c.2.1 g b),j9 e c.2.2.1 h.2.1 s (λp σ' q g b=>pE e c.2.2.2.1 g b),j9 e c.2.2.2.2.1 h.2.2 s (λp σ' q g b=>pE e c.2.2.2.2.2 g b)⟩
 |.four i t j u k v l w,K,f,σ,a,c,h,s=>by
  simp only[gt,zJ]at c;exact⟨j9 e c.1 h.1 s (λp σ' q g b=>pE e c.2.1 g b),j9 e c.2.2.1 h.2.1 s (λp σ' q g b=>pE e c.2.2.2.1 g b),j9 e c.2.2.2.2.1 h.2.2.1 s (λp σ' q g b=>pE e c.2.2.2.2.2.1 g b),j9 e c.2.2.2.2.2.2.1 h.2.2.2 s (λp σ' q g b=>pE e c.2.2.2.2.2.2.2 g b)⟩
 |.five i t j u k v l w m x,K,f,σ,a,c,h,s=>by
  simp only[gt,zJ]at c;exact⟨j9 e c.1 h.1 s (λp σ' q g b=>pE e c.2.1 g b),j9 e c.2.2.1 h.2.1 s (λp σ' q g b=>pE e c.2.2.2.1 g b),j9 e c.2.2.2.2.1 h.2.2.1 s (λp σ' q g b=>pE e c.2.2.2.2.2.1 g b),j9 e c.2.2.2.2.2.2.1 h.2.2.2.1 s (λp σ' q g b=>pE e c.2.2.2.2.2.2.2.1 g b),j9 e c.2.2.2.2.2.2.2.2.1 h.2.2.2.2 s (λp σ' q g b=>pE e c.2.2.2.2.2.2.2.2.2 g b)⟩
 |.fst i t,K,f,σ,a,c,h,s=>by
  simp only[gt]at c;obtain⟨o,d,A,g,p,z,y⟩:=EJ (K:=λp=>mx P T r n df N L K t p σ) e h s;exact⟨o,d,A,g,pE e c y z⟩
def iG(m:P.follows .mixedOrders=true)(c:∀t i,T t=some i->aH P t=some i){id:Nat}{O:Array Oper}(d:O=L.toArray)(s:List Nat)(u:Nat)(E:Nat->Bool)(t:fB){γ:Type}(ps:γ->aP)(S:γ->ae)(I:γ->Prop)
  (B:(Nat.beq (s.length+u) L.length&&Ku .any L.toArray E u t s (Array.replicate L.length false)&&gt E t)=true)
  (h:W (iw P T N L E σ s (λf1=>mx P T r n df N L (λf' σ'=>∃g,ei f' (ie (.region id O true) f (ps g))/\Sc σ' (S g)/\I g) t f1 σ) f))
  (kk:∀g,I g->W (GT (ie (.region id O true) f (ps g)) λF=>Q .normal F (S g))):Lp P r n df N (.region id O true) Q f σ:=by
 subst d;simp only[zJ]at B;refine⟨λa b=>?_⟩;refine aG8 (mA (Q:=λe a' σ'=>e= .normal/\∃f',Sp N a' f'/\∃g,ei f' (ie (.region id L.toArray true) f (ps g))/\Sc σ' (S g)/\I g) E s u t m (yH B.1.1) B.1.2 (az6 (λa' σ' j=>?_) (Ri c h.h b))) ?_
 .obtain⟨rfl,f',h1,h2⟩:=j;have:=pE c B.2 h2 h1;exact pH (λa σ h=>⟨rfl,h⟩) this
 .exact E4
end
end
section
open Go
structure iW(a b c:Nat)(w:Wd):Prop where
 k:w.length<=a
 n:∀l∈w,l.length<=b
 f:∀l∈w,∀r∈l,r.length<=c
 v:∀l∈w,∀r∈l,∀v∈r,cp v
variable{w:Wd}
def er.sz(h:er w):iW 10 10 50 w:=⟨h.k,h.n,h.f,h.sm.v⟩
def oK(w:Wd)(k:Nat)(x:List (List Int)):Wd:=w.take k++x::List.replicate (w.length-k-1) []
variable{k:Nat}
def C5(h:k<w.length)(x:List (List Int)):(oK w k x).length=w.length:=by unfold oK;simp;omega
def MA(h:k<w.length)(x:List (List Int)):(oK w k x)[k]?=some x:=by
 unfold oK;rw[yK (by simp;omega),zR,show k-min k w.length=0 by omega]
 rfl
def C4(h:k<w.length)(x y:List (List Int)):(oK w k x).set k y=oK w k y:=by
 unfold oK;rw[List.set_append_right _ _ (by simp;omega),zR,show k-min k w.length=0 by omega]
 rfl
def oy(h:k<w.length):w.take k++List.replicate (w.length-k) []=oK w k []:=by
 unfold oK;rw[show w.length-k=(w.length-k-1)+1 by omega,List.replicate_succ]
 rfl
def tP{l:List (List Int)}(h:w[k]?=some l):oK w k l=w.take (k+1)++List.replicate (w.length-(k+1)) []:=by
 unfold oK;rw[xC,h,show w.length-k-1=w.length-(k+1) by omega];simp
def zw{A B:Prop}(k:B)(h:ar B->A:=by intro q7;(first|refine vl ?_|fail|refine RF ?_);exact q7.1):A:=h ⟨k⟩
def bq9{A B:Prop}(k:B)(h:ar B->A:=by intro q7;(first|refine bh ?_|refine zw ?_|(refine' aj ?hc ?_;(case hc=>fail)));exact q7.1):A:=h ⟨k⟩
def pa{p:Prop}(h:p:=by refine cV λa=>?_;simp only[List.append_eq,List.nil_append,cU,dn,de];omega):p:=h
def ww{a b c:Nat}(w:Wd)(J:iW a b c w)(ha:a<=100)(hb:b<=100)(hc:c<=100):az prog 28 [fI w] [] (λd s=>∃v,d= .v v/\RW w v s):=by
 have hwk:=J.k;refine dB func28 ntmps28 λBB=>?_
 repeat' first|refine aV ?_|intro b;conv=>whnf
 refine Mk.go w.length rfl rfl rfl rfl rfl (by simp) (by omega) (by omega) (λo=>?_)
 repeat' first|refine aV ?_|intro b;conv=>whnf
 have E:RW (w.take 0++List.replicate (w.length-0) []) (.slice (some ⟨o,0,none⟩) w.length w.length) [(o,.cells 70 (List.replicate w.length (.v (.slice none 0 0))))]:=
  aC.made (R:=uX) (x0:=[]) (aC.nil _ _) _ o (by unfold maxLen;omega)
 refine aO mixed ai (γ:=Nat×ae) (λg=>[(4,iD g.1)]) (λg=>g.2) (λg=>g.1<=w.length/\RW (w.take g.1++List.replicate (w.length-g.1) []) (.slice (some ⟨o,0,none⟩) w.length w.length) g.2) (λg=>w.length-g.1) (0,_) (ah av) (Sc.refl _) ⟨zW _,E⟩ ?_;clear E;rintro⟨k,s⟩ ⟨hk,f⟩;simp only at hk f⊢;by_cases hkl:k<w.length
 .obtain⟨l,hl⟩:∃l,w[k]?=some l:=⟨_,zD hkl⟩
  have hl':w[((k:Nat):Int).toNat]?=some l:=hl;have hln:=J.n l (zG hl);rw[oy hkl]at f
  repeat' first|refine aV ?_|intro b;conv=>whnf
  refine aO mixed ai (γ:=Nat×ae) (λg=>[(5,iD g.1)]) (λg=>g.2) (λg=>g.1<=l.length/\RW (oK w k (l.take g.1)) (.slice (some ⟨o,0,none⟩) w.length w.length) g.2) (λg=>l.length-g.1) (0,s) (ah av) (Sc.refl _) ⟨zW _,f⟩ ?_;clear f;rintro⟨i,s⟩ ⟨hi,f⟩;simp only at hi f⊢;by_cases hil:i<l.length
  .obtain⟨r,P⟩:∃r,l[i]?=some r:=⟨_,zD hil⟩
   have hr':l[((i:Nat):Int).toNat]?=some r:=P;have L:r.length<=100:=xH (J.f l (zG hl) r (zG P)) hc;obtain⟨b0,X,e,u,t,τ,e0,I,S,U,F⟩:=aC.at f (MA hkl (l.take i));rw[C5 hkl]at e0
   cases e0
   obtain⟨a1,ca1,rfl⟩:=aC.slice U;obtain⟨vs,s0,q,g1,V,g3⟩:=U.ex;have K:=V.len.1;rw[zR]at K
   repeat' first|refine bq9 ?_|intro b;conv=>whnf
   refine gS ?_;refine iG mixed ai rfl [0,1,2,3,4,7,8,9,10,11,12,13] 7 (hQ [5,6,14,16,18]) (.two 5 (.one 6 (.one 14 (.fst 15 (.one 16 (.fst 17 (.one 18 .done)))))) 6 (.two 5 (.one 14 (.fst 15 (.one 16 (.fst 17 (.one 18 .done))))) 14 (.fst 15 (.one 5 (.one 16 (.fst 17 (.one 18 .done))))))) (γ:=ae) (λ_=>[]) (λg=>g) (λg=>RW (oK w k (l.take (i+1))) (.slice (some ⟨o,0,none⟩) w.length w.length) g) (by decide +kernel) ?_ ?_
   .repeat' first|refine aV ?_|intro b;conv=>whnf|(refine And.intro ?_ ?_<;>(conv=>whnf))|(refine Ld.cellm (tb:=70) (cs:=e) (I.mem_iff.2 yN) (by rw[aR];exact S) ?_)|(refine Ld.cellm (tb:=70) (cs:=e) (yW _ (I.mem_iff.2 yN)) (by rw[aR];exact S) ?_)|(refine Ap.go rfl rfl rfl rfl (ab.e0 _ _ (some ⟨b,0,none⟩)) (zH ([]++s)) (FY r) (zs:=r.map λn=>[iD n]) rfl (vx (c:=100) L (by decide)) (by simp;omega) (λz=>z++s) (λz=>zH _) (λT Q y O=>?_))|(refine Ap.go rfl rfl rfl rfl g1 (τ:=((o,ax.cells 70 e)::(q.flatten++(τ++y)))) (by refine cV λa=>?_;have e1:=pD I a;have e2:=pD g3 a;simp only[List.append_eq,List.nil_append,cU,dn,de]at e1 e2⊢;omega) rfl (zs:=vs.map (λu=>[D.v u])++[[D.v (.slice T (r.map λn=>[iD n]).length Q)]]) rfl (H' (c:=1000) (by omega) (by decide)) (by simp;omega) (λz=>z++((o,ax.cells 70 e)::(q.flatten++(τ++y)))) (λz=>zH _) (λZ Y G M=>?_))
    all_goals
     have C:=ar6 V M (x:=r) O (s':=G++(q.flatten++y)) (zH _);rw[show l.take i++[r]=l.take (i+1) by rw[xC,P];rfl]at C;have j:=F _ _ _ ((o,.cells 70 (e.set k (.v (.slice Z (vs.map (λu=>[D.v u])++[[D.v (.slice T (r.map λn=>[iD n]).length Q)]]).length Y))))::((G++(q.flatten++y))++τ)) C (zH _);rw[C4 hkl]at j;refine Sv.cellm (tb:=70) (cs:=e) (cs':=e.set k (.v (.slice Z (vs.map (λu=>[D.v u])++[[D.v (.slice T (r.map λn=>[iD n]).length Q)]]).length Y))) (τ:=G++(q.flatten++(τ++y))) pa (by rw[aR];exact(zE.1 S).1) rfl (by rw[aR]) ?_
     repeat' first|refine aV ?_|intro b;conv=>whnf
     exact⟨_,(ah aJ),Sc.perm pa,j⟩
   .intro g hg
    repeat' first|refine aV ?_|intro b;conv=>whnf
    exact⟨(i+1,g),(ah av),Sc.refl _,⟨by simp only;omega,hg⟩,by simp only;omega⟩
  .obtain rfl:i=l.length:=by omega
   rw[yM,tP hl]at f
   repeat' first|refine aV ?_|intro b;conv=>whnf
   exact⟨(k+1,s),(ah av),Sc.refl _,⟨by simp only;omega,f⟩,by simp only;omega⟩
 .obtain rfl:k=w.length:=by omega
  rw[yM,wH,List.replicate_zero,zZ]at f
  repeat' first|refine aV ?_|intro b;conv=>whnf
  exact Rt.same ⟨_,rfl,f⟩
end
section
open Go Go.RowKit Go.Shelf
section
variable {P:Program} {r:Option Nat} {n:Nat} {df:Nat} {N:Nat} {σ:ae} {a:List D} {f:aP} {T:TypeId->Option TI} {L:List Oper} {Q:ik} {ρ:Operand->D}
variable{b:Nat}{o:Oper}{t:TypeId}
def aM0(E:∀t i,T t=some i->aH P t=some i){x y:Operand}{f m c:Nat}{k:IntKind}{i:TI}{p:Nat×Bool×Nat×Nat}(j:o.op= .slice t x (some y) none none)(hx:ρ x= .v (.slice (some ⟨b,f,none⟩) m c))(r:T t=some i)(B:i.sl=some p)
  (n:ρ y= .v (.int k (c:Int))) (C:m=c):Yd P o ρ σ (.v (.slice (some ⟨b,f,none⟩) 0 0)):=by
 subst C;intro w X η h A;obtain⟨dst,op,H,pos,G,g⟩:=o;simp only at j;subst j;obtain⟨e,J,I,F⟩:=p;obtain⟨q,z,_⟩:=sq (E t i r) B;have l:=(sj z w).2;have d:=(h x (by simp[Op.operands])).val hx;have a:=(h y (by simp[Op.operands])).val n;refine ev (s:=Instr.sliceAt t (η x) (some (η y)) none none) (u:=.slice (some ⟨b,f,none⟩) 0 0) ?_ (Ex.refl w) (.v _);rw[d];have D:(Instr.sliceBounds true m m (some (η y)) none none).run P w= .ok (m,m,m) w:=by
  simp[Instr.sliceBounds,Instr.sliceBound,Result.andThen,a,asIntOf]
 simp only[Instr.sliceAt,Sem.run_bind,run_underlying q,Result.andThen,Instr.slice,D,l,Sem.run_pure,if_true,wH]
variable{e:TypeId}{cs:List D}{τ:ae}
def ce.apown(U:∀t i,T t=some i->aH P t=some i){p x:Operand}{i j:TI}{ag:Bool}{k J n0 cap o2 m c2:Nat}{new:List D}{K:aP->ae->Prop}
  (O:o.op= .call { callee:=.builtin .append,args:=#[p,x],argTypes:=#[t,t] }) (hp:aN f p= .v (.slice (some ⟨b,0,none⟩) n0 cap)) (hx:aN f x= .v (.slice (some ⟨b,o2,none⟩) m c2)) (ht:T t=some i) (hs:i.sl=some (e,ag,k,J)) (he:T e=some j) (I:j.size=k)
  (hb:σ.Perm ((b,.cells e cs)::τ)) (E:new=(cs.drop o2).take (m*k)) (R:new.length=m*k) (A:n0+m<=cap) (S:n0*k+m*k<=cs.length) (C:new.all cY=true)
  (kk:W (aX N o.dst (.v (.slice (some ⟨b,0,none⟩) (n0+m) cap)) f (λf'=>K f' ((b,.cells e (dQ cs (n0*k) new))::τ)))):ce P r n df L N o f σ K:=by
 refine⟨λM Q a y hw hk=>?_⟩;refine FJ hb ?_;refine nc hw (by rw[O];rfl) λw X Z c=>?_;have l:=y.le p _ _ _ (c.fr.eval p);rw[hp]at l;have l:=l.val rfl;have g:=y.le x _ _ _ (c.fr.eval x);rw[hx]at g;have g:=g.val rfl;obtain⟨hu,hsz,_⟩:=sq (U t i ht) hs;obtain⟨B,u,q1,_,_,q4,_⟩:=FC (U e j he);obtain⟨_,ob,hob,vs,rfl,s⟩:=c.st.at_ b _ yN;have d:=(s.drop o2).take (m*k);rw[←E]at d;have z:B.size=k:=by rw[←I,←q4]
 have q:=run_append_room (P:=P) (w:=w) t o.type e B hu q1 b n0 cap vs.toArray hob ⟨b,o2,none⟩ m c2 ((vs.drop o2).take (m*k)) (by rw[d.len,R,z]) (λj v hv=>by
  rw[yX]at hv;split at hv
  .exact M'
  .cases hv) (aZ6 d C) A (by rw[d.len,R,z];simp[s.len];omega)
 have ee:(execOp Z.eval o).run P w= .ok (.value (.slice (some ⟨b,0,none⟩) (n0+m) cap)) (w.setRow b (vs.take (n0*k)++(vs.drop o2).take (m*k)++vs.drop (n0*k+((vs.drop o2).take (m*k)).length)).toArray):=by
  rw[z]at q;simp only[execOp,O,resolve,invoke,builtin,Sem.run_bind,Sem.run_pure,Result.andThen,vD,List.map_cons,List.map_nil,l,g,q]
 rw[ee];obtain⟨q5,F⟩:=aD4 (cur':=(vs.take (n0*k)++(vs.drop o2).take (m*k)++vs.drop (n0*k+((vs.drop o2).take (m*k)).length)).toArray) hob;have H:bj w (ay ((b,ax.cells e cs)::τ) X) (dQ cs (n0*k) new) (vs.take (n0*k)++(vs.drop o2).take (m*k)++vs.drop (n0*k+((vs.drop o2).take (m*k)).length)):=by
  unfold dQ;rw[d.len];exact((s.take (n0*k)).append d).append (s.drop _)
 obtain⟨g1,g2,Y,V⟩:=c.st.upd (i:=0) rfl (k':=.cells e (dQ cs (n0*k) new)) F q5 ⟨_,rfl,H⟩;obtain⟨f',G,h4⟩:=fT kk.h y;exact⟨_,_,g2,(⟨c.fr.keep F.size Y V,g1,c.df.keep F.size Y V⟩:St _ X df a _ Z).put (.v _) o.dst,hk _ _ _ h4 G⟩
def Vs.sc{σ:ae}(h:Sc σ τ)(d:D):Vs σ d τ d:=⟨λw X _ s r=>⟨h.run w X s,NU r h.sub⟩,h.sub⟩
def Sc.any{cs':List D}(l:cs'.length=cs.length)(h:∀(i:Nat)d',cs'[i]?=some d'->d'= .any\/cs[i]?=some d'):Sc ((b,.cells e cs)::τ) ((b,.cells e cs')::τ):=by
 refine⟨λw X s=>⟨s.nodup,λx k m=>?_,s.xlt,s.gok⟩,λb g=>g⟩;rcases zU.1 m with q|m
 .cases q
  obtain⟨n,o,j,vs,rfl,a⟩:=s.at_ b _ yN;exact⟨n,_,j,vs,rfl,⟨by rw[a.len,l],λi d u f c=>by
   rcases h i d f with rfl|p
   .exact .any u
   .exact a.at_ i d u p c⟩⟩
 .exact s.at_ x k (yQ _ m)
def ab.del{k:Nat}{xs:List (List D)}{n0 cap:Nat}(h:ab e k xs (.slice (some ⟨b,0,none⟩) n0 cap) [(b,.cells e cs)]){i:Nat}(E:i<xs.length) :
  (cs.drop ((i+1)*k)).take ((xs.length-(i+1))*k)=(xs.drop (i+1)).flatten/\(xs.drop (i+1)).flatten.length=(xs.length-(i+1))*k/\n0=xs.length/\xs.length<=cap/\cs.length=cap*k /\
  ∃f,ab e k (xs.take i++xs.drop (i+1)) (.slice (some ⟨b,0,none⟩) (i+(xs.length-(i+1))) cap) [(b,.cells e f)]/\∀τ:ae,Sc ((b,.cells e (dQ cs (i*k) (xs.drop (i+1)).flatten))::τ) ((b,.cells e f)::τ):=by
 obtain⟨J,z,j,H,G,v,B,A,I⟩:=h.block (λh=>by subst h;simp at E)
 cases H
 have u:cs=xs.flatten++j:=by simpa using G
 have t:(xs.take (i+1)).flatten.length=(i+1)*k:=E7;have c:(xs.take i).flatten.length=i*k:=E7;have a:(xs.drop (i+1)).flatten.length=(xs.length-(i+1))*k:=by
  rw[Al (k:=k) (λy hy=>h.len y (List.mem_of_mem_drop hy)),List.length_drop]
 have s:xs.flatten.length=xs.length*k:=Al h.len;have n:xs.flatten=(xs.take (i+1)).flatten++(xs.drop (i+1)).flatten:=by rw[←vW,vF]
 have o:xs.flatten=(xs.take i).flatten++(xs.drop i).flatten:=by rw[←vW,vF]
 have l:cs.length=cap*k:=by rw[u,zI,s];exact A
 have w:(i+1)*k+(xs.length-(i+1))*k=xs.length*k:=by rw[←vC];congr 1;omega
 have r:(i+1)*k=i*k+k:=Nat.succ_mul i k;have x:xs.length*k<=cap*k:=xZ _ v;refine⟨?_,a,rfl,v,l,(xs.take i++xs.drop (i+1)).flatten++List.replicate (cap*k-(i*k+(xs.length-(i+1))*k)) .any,?_,?_⟩
 .rw[u,n,zV,List.drop_left' t,List.take_left' a]
 .refine⟨λy hy=>?_,.inr ⟨b,cap,_,?_,rfl,?_,B,?_,λd F=>(List.mem_replicate.1 F).2⟩⟩
  .rcases zO.1 hy with hy|hy
   .exact h.len y (xG hy)
   .exact h.len y (List.mem_of_mem_drop hy)
  .rw[zI,zR,List.length_drop,vH (by omega)]
  .rw[zI,zR,List.length_drop];omega
  .rw[zI,zR,List.length_drop,vH (by omega),zY,vC];omega
 .intro τ;have m:dQ cs (i*k) (xs.drop (i+1)).flatten=(xs.take i++xs.drop (i+1)).flatten++cs.drop (i*k+(xs.length-(i+1))*k):=by
   unfold dQ;rw[a,vW]
   congr 2
   rw[u,o,zV,List.take_left' c]
  have C:(xs.take i++xs.drop (i+1)).flatten.length=i*k+(xs.length-(i+1))*k:=by rw[vW,zI,c,a]
  rw[m];refine Sc.any (by rw[zI,zI,zY,List.length_drop,l]) (λq d g=>?_);by_cases hlt:q<(xs.take i++xs.drop (i+1)).flatten.length
  .rw[yP hlt]at g⊢;exact .inr g
  .rw[yK (by omega)]at g;exact .inl (List.mem_replicate.1 (zG g)).2
end
end
end Go.Proofs.YtilnpcolgcmofaaGreatDoor
