/- A part of the proof: O2 Bp V3 Cd V4 V5 Jq Ea Eb Za. -/
import Derived.Test.YtilnpcolgcmofaaGreatDoorS09
import Derived.Laws.AppendOwn
set_option maxRecDepth 100000
set_option maxHeartbeats 20000000
set_option linter.all false
namespace Go.Proofs.YtilnpcolgcmofaaGreatDoor
open Tryz
section
open Go Go.RowKit Go.Shelf
section
variable {P:Program} {r:Option Nat} {n:Nat} {df:Nat} {ops:Array Oper} {Q:eY} {a:List D} {σ:af} {md:Region.Mode}
def jE(l:List Nat)(i:Nat):Bool:=l.any (Nat.beq i)
inductive eT where
 |done
 |one (i:Nat) (t:eT)
 |two (i:Nat) (t:eT) (j:Nat) (u:eT)
 |three (i:Nat) (t:eT) (j:Nat) (u:eT) (k:Nat) (v:eT)
 |four (i:Nat) (t:eT) (j:Nat) (u:eT) (k:Nat) (v:eT) (l:Nat) (w:eT)
 |five (i:Nat) (t:eT) (j:Nat) (u:eT) (k:Nat) (v:eT) (l:Nat) (w:eT) (m:Nat) (x:eT)
 |fst (i:Nat) (t:eT)
def bV(md:Region.Mode)(ops:Array Oper)(E:Nat->Bool):Nat->eT->Array Bool->Bool
 |0,.done,d=>(Region.ready md ops d).isEmpty
 |f+1,.one i t,d=>decide (Region.ready md ops d=[i])&&(E i&&bV md ops E f t (d.setIfInBounds i true))
 |f+1,.two i t j u,d=>decide (Region.ready md ops d=[i,j])&&(E i&&E j&&(bV md ops E f t (d.setIfInBounds i true)&&bV md ops E f u (d.setIfInBounds j true)))
 |f+1,.three i t j u k v,d=>decide (Region.ready md ops d=[i,j,k])&&(E i&&E j&&E k&&(bV md ops E f t (d.setIfInBounds i true)&&(bV md ops E f u (d.setIfInBounds j true)&&bV md ops E f v (d.setIfInBounds k true))))
 |f+1,.four i t j u k v l w,d=>decide (Region.ready md ops d=[i,j,k,l])&&(E i&&E j&&E k&&E l&&(bV md ops E f t (d.setIfInBounds i true)&&(bV md ops E f u (d.setIfInBounds j true)&&(bV md ops E f v (d.setIfInBounds k true)&&bV md ops E f w (d.setIfInBounds l true)))))
 |f+1,.five i t j u k v l w m x,d=>decide (Region.ready md ops d=[i,j,k,l,m])&&(E i&&E j&&E k&&E l&&E m&&(bV md ops E f t (d.setIfInBounds i true)&&(bV md ops E f u (d.setIfInBounds j true)&&(bV md ops E f v (d.setIfInBounds k true)&&(bV md ops E f w (d.setIfInBounds l true)&&bV md ops E f x (d.setIfInBounds m true))))))
 |f+1,.fst i t,d=>(Region.ready md ops d).contains i&&Region.free md ops d i && !E i&&bV md ops E f t (d.setIfInBounds i true)
 |_,_,_=>false
def du(P:Program)(r:Option Nat)(n:Nat)(df:Nat)(ops:Array Oper)(E:Nat->Bool)(L:List D->af->Prop):eT->List D->af->Prop
 |.done,a,σ=>L a σ
 |.one i t,a,σ=>db P r n df ops E i (du P r n df ops E L t) a σ
 |.two i t j u,a,σ=>db P r n df ops E i (du P r n df ops E L t) a σ/\db P r n df ops E j (du P r n df ops E L u) a σ
 |.three i t j u k v,a,σ=>db P r n df ops E i (du P r n df ops E L t) a σ/\db P r n df ops E j (du P r n df ops E L u) a σ/\db P r n df ops E k (du P r n df ops E L v) a σ
 |.four i t j u k v l w,a,σ=>db P r n df ops E i (du P r n df ops E L t) a σ/\db P r n df ops E j (du P r n df ops E L u) a σ/\db P r n df ops E k (du P r n df ops E L v) a σ/\db P r n df ops E l (du P r n df ops E L w) a σ
 |.five i t j u k v l w m x,a,σ=>db P r n df ops E i (du P r n df ops E L t) a σ/\db P r n df ops E j (du P r n df ops E L u) a σ/\db P r n df ops E k (du P r n df ops E L v) a σ/\db P r n df ops E l (du P r n df ops E L w) a σ/\db P r n df ops E m (du P r n df ops E L x) a σ
 |.fst i t,a,σ=>∃o d,ops[i]?=some o/\cd none P ops [] o d a/\du P r n df ops E L t (aF a o.dst d) σ
theorem ol{E:Nat->Bool}{L:List D->af->Prop}:∀(f:Nat)(t:eT)(b:Array Bool)(a:List D)(σ:af),HeadInv md ops ops.size b->bV md ops E f t b=true->du P r n df ops E L t a σ->iB P r n df md ops E L f b a σ
 |0,.done,b,a,σ,_,B,h=>⟨by simpa [bV]using B,h⟩
 |f+1,.one i t,b,a,σ,y,B,h=>by
  simp only[bV,zJ,zQ]at B;refine⟨λA=>(by rw[B.1]at A;cases A),λk z=>?_⟩;have e:=z;rw[B.1]at z;have:k=i:=by simpa using z
  subst this;obtain⟨_,o,C,_⟩:=mem_ready.1 e;exact cx (λp σ' g=>ol f t _ p σ' (y.set e (zX.1 C).1) B.2.2 g) h
 |f+1,.two i t j u,b,a,σ,y,B,h=>by
  simp only[bV,zJ,zQ]at B;refine⟨λA=>(by rw[B.1]at A;cases A),λk z=>?_⟩;have e:=z;rw[B.1]at z;obtain⟨_,o,C,_⟩:=mem_ready.1 e;have c:=y.set e (zX.1 C).1;have:k=i\/k=j:=by simpa using z
  rcases this with rfl|rfl
  .exact cx (λp σ' g=>ol f t _ p σ' c B.2.2.1 g) h.1
  .exact cx (λp σ' g=>ol f u _ p σ' c B.2.2.2 g) h.2
 |f+1,.three i t j u l v,b,a,σ,y,B,h=>by
  simp only[bV,zJ,zQ]at B;refine⟨λA=>(by rw[B.1]at A;cases A),λk z=>?_⟩;have e:=z;rw[B.1]at z;obtain⟨_,o,C,_⟩:=mem_ready.1 e;have c:=y.set e (zX.1 C).1;have:k=i\/k=j\/k=l:=by simpa using z
  rcases this with rfl|rfl|rfl
  .exact cx (λp σ' g=>ol f t _ p σ' c B.2.2.1 g) h.1
  .exact cx (λp σ' g=>ol f u _ p σ' c B.2.2.2.1 g) h.2.1
  .exact cx (λp σ' g=>ol f v _ p σ' c B.2.2.2.2 g) h.2.2
 |f+1,.four i t j u l v m w,b,a,σ,y,B,h=>by
  simp only[bV,zJ,zQ]at B;refine⟨λA=>(by rw[B.1]at A;cases A),λk z=>?_⟩;have e:=z;rw[B.1]at z;obtain⟨_,o,C,_⟩:=mem_ready.1 e;have c:=y.set e (zX.1 C).1;have:k=i\/k=j\/k=l\/k=m:=by simpa using z
  rcases this with rfl|rfl|rfl|rfl
  .exact cx (λp σ' g=>ol f t _ p σ' c B.2.2.1 g) h.1
  .exact cx (λp σ' g=>ol f u _ p σ' c B.2.2.2.1 g) h.2.1
  .exact cx (λp σ' g=>ol f v _ p σ' c B.2.2.2.2.1 g) h.2.2.1
  .exact cx (λp σ' g=>ol f w _ p σ' c B.2.2.2.2.2 g) h.2.2.2
 |f+1,.five i t j u l v m w q x,b,a,σ,y,B,h=>by
  simp only[bV,zJ,zQ]at B;refine⟨λA=>(by rw[B.1]at A;cases A),λk z=>?_⟩;have e:=z;rw[B.1]at z;obtain⟨_,o,C,_⟩:=mem_ready.1 e;have c:=y.set e (zX.1 C).1;have:k=i\/k=j\/k=l\/k=m\/k=q:=by simpa using z
  rcases this with rfl|rfl|rfl|rfl|rfl
  .exact cx (λp σ' g=>ol f t _ p σ' c B.2.2.1 g) h.1
  .exact cx (λp σ' g=>ol f u _ p σ' c B.2.2.2.1 g) h.2.1
  .exact cx (λp σ' g=>ol f v _ p σ' c B.2.2.2.2.1 g) h.2.2.1
  .exact cx (λp σ' g=>ol f w _ p σ' c B.2.2.2.2.2.1 g) h.2.2.2.1
  .exact cx (λp σ' g=>ol f x _ p σ' c B.2.2.2.2.2.2 g) h.2.2.2.2
 |f+1,.fst i t,b,a,σ,y,B,h=>by
  simp only[bV,zJ,xJ]at B;obtain⟨⟨⟨K,M⟩,N⟩,I⟩:=B;obtain⟨o,d,C,J,z⟩:=h;have F:i∈Region.ready md ops b:=by simpa using K
  have G:i<ops.size:=(zX.1 C).1;have H:=ol f t _ _ _ (y.set F G) I z;exact aq2 (S:=λ_=>True) C N (λ_ _ _ _ _ _ _=>trivial) f b a σ y (Region.free_spec C M) F trivial (λs _=>J.free s) H
 |0,.one _ _,_,_,_,_,B,_=>by cases B
 |0,.three _ _ _ _ _ _,_,_,_,_,B,_=>by cases B
 |0,.four _ _ _ _ _ _ _ _,_,_,_,_,B,_=>by cases B
 |0,.five _ _ _ _ _ _ _ _ _ _,_,_,_,_,B,_=>by cases B
 |0,.two _ _ _ _,_,_,_,_,B,_=>by cases B
 |0,.fst _ _,_,_,_,_,B,_=>by cases B
 |_+1,.done,_,_,_,_,B,_=>by cases B
def JR(md:Region.Mode)(ops:Array Oper)(E:Nat->Bool)(f:Nat)(t:eT):List Nat->Array Bool->Bool
 |[],l=>bV md ops E f t l
 |i::h,l=>(Region.ready md ops l).contains i&&Region.free md ops l i && !E i&&JR md ops E f t h (l.setIfInBounds i true)
theorem aJ1{E:Nat->Bool}{L:List D->af->Prop}{f:Nat}{t:eT}:∀(b:List Nat)(listed:Array Bool)(a:List D)(σ:af),HeadInv md ops ops.size listed->JR md ops E f t b listed=true ->
  i8 P md ops E (du P r n df ops E L t) b a σ->iB P r n df md ops E L (b.length+f) listed a σ
 |[],listed,a,σ,inv,B,h=>by
  rw[show([]:List Nat).length+f=f by simp];exact ol f t listed a σ inv B h
 |i::b,listed,a,σ,inv,B,h=>by
  simp only[JR,zJ,xJ]at B;obtain⟨⟨⟨k,hf⟩,hE⟩,g⟩:=B;obtain⟨o,d,ho,hy,l⟩:=h;have hr':i∈Region.ready md ops listed:=by simpa using k
  have c:i<ops.size:=(zX.1 ho).1;have H:=aJ1 b _ _ _ (inv.set hr' c) g l;rw[show(i::b).length+f=(b.length+f)+1 by simp;omega];rcases hy with⟨hb,hy⟩|hy
  .exact OS
  .exact ON
theorem bh8{id:Nat}{l:List Oper}(E:Nat->Bool)(s:List Nat)(f:Nat)(t:eT)(m:P.follows .mixedOrders=true)(c:s.length+f=l.length)(B:JR .any l.toArray E f t s (Array.replicate l.length false)=true)
  (h:i8 P .any l.toArray E (du P r n df l.toArray E (λa σ=>Q .normal a σ) t) s a σ):dQ P r n df (.region id l.toArray true) Q a σ:=by
 refine⟨λw X k d=>?_⟩;have i:HeadInv .any l.toArray l.toArray.size (Array.replicate l.length false):=
  ⟨by simp,λj o _ c=>(by rw[getD_replicate_false]at c;cases c),λt p g=>by omega⟩
 refine wpIn_region_any m ?_;have b:=Pf w;have:=Mf (w0:=w) (σ0:=σ) (X:=X) _ _ _ _ k { w with drawn:=w.drawn+1 } (jx b) (d.ex b) (aJ1 s _ a σ i B h);rw[c]at this;have e:l.toArray.size=l.length:=by simp
 rw[e];exact this
theorem oh{E:Nat->Bool}{L c:List D->af->Prop}(h:∀a σ,L a σ->c a σ):∀{t:eT}{a:List D}{σ:af},du P r n df ops E L t a σ->du P r n df ops E c t a σ
 |.done,_,_,b=>h _ _ b
 |.one _ _,_,_,b=>cx (λ_ _=>oh h) b
 |.two _ _ _ _,_,_,b=>⟨cx (λ_ _=>oh h) b.1,cx (λ_ _=>oh h) b.2⟩
 |.three _ _ _ _ _ _,_,_,b=>⟨cx (λ_ _=>oh h) b.1,cx (λ_ _=>oh h) b.2.1,cx (λ_ _=>oh h) b.2.2⟩
 |.four _ _ _ _ _ _ _ _,_,_,b=>⟨cx (λ_ _=>oh h) b.1,cx (λ_ _=>oh h) b.2.1,cx (λ_ _=>oh h) b.2.2.1,cx (λ_ _=>oh h) b.2.2.2⟩
 |.five _ _ _ _ _ _ _ _ _ _,_,_,b=>⟨cx (λ_ _=>oh h) b.1,cx (λ_ _=>oh h) b.2.1,cx (λ_ _=>oh h) b.2.2.1,cx (λ_ _=>oh h) b.2.2.2.1,cx (λ_ _=>oh h) b.2.2.2.2⟩
 |.fst _ _,_,_,b=>let ⟨o,d,h1,h2,h3⟩:=b;⟨o,d,h1,h2,oh h h3⟩
end
section
variable {P:Program} {r:Option Nat} {n:Nat} {df:Nat} {N:Nat} {σ:af} {a:List D} {f:aM} {T:TypeId->Option TI} {L:List Oper} {Q:gJ}
def DB(P:Program)(T:TypeId->Option TI)(N:Nat)(L:List Oper)(i:Nat)(K:aM->Prop)(f:aM):Prop:=match L[i]? with
 |none=>False
 |some o=>Iu L f o λgo=>match go with
  |true=>bif iR o.op then iE P T o f [] (λd=>aR N o.dst d f K)else False
  |false=>aR N o.dst (.v undef) f K
def lg(P:Program)(T:TypeId->Option TI)(r:Option Nat)(n:Nat)(df:Nat)(N:Nat)(L:List Oper)(K:aM->af->Prop):eT->aM->af->Prop
 |.done,f,σ=>K f σ
 |.one i t,f,σ=>iH P T r n df N L i (lg P T r n df N L K t) f σ
 |.two i t j u,f,σ=>iH P T r n df N L i (lg P T r n df N L K t) f σ/\iH P T r n df N L j (lg P T r n df N L K u) f σ
 |.three i t j u k v,f,σ=>iH P T r n df N L i (lg P T r n df N L K t) f σ/\iH P T r n df N L j (lg P T r n df N L K u) f σ/\iH P T r n df N L k (lg P T r n df N L K v) f σ
 |.four i t j u k v l w,f,σ=>iH P T r n df N L i (lg P T r n df N L K t) f σ/\iH P T r n df N L j (lg P T r n df N L K u) f σ/\iH P T r n df N L k (lg P T r n df N L K v) f σ/\iH P T r n df N L l (lg P T r n df N L K w) f σ
 |.five i t j u k v l w m x,f,σ=>iH P T r n df N L i (lg P T r n df N L K t) f σ/\iH P T r n df N L j (lg P T r n df N L K u) f σ/\iH P T r n df N L k (lg P T r n df N L K v) f σ/\iH P T r n df N L l (lg P T r n df N L K w) f σ/\iH P T r n df N L m (lg P T r n df N L K x) f σ
 |.fst i t,f,σ=>DB P T N L i (λa=>lg P T r n df N L K t a σ) f
theorem DA(l:∀t i,T t=some i->aD P t=some i){i:Nat}{K:aM->Prop}(h:DB P T N L i K f)(s:Sp N a f):∃o d,L.toArray[i]?=some o/\cd none P L.toArray [] o d a/\∃c,Sp N (aF a o.dst d) c/\K c:=by
 unfold DB at h;split at h
 .exact h.elim
 .rename_i o k;have e:L.toArray[i]?=some o:=by simpa using k
  obtain⟨go,w,j⟩:=PH (K:=λgo=>match go with
   |true=>bif iR o.op then iE P T o f [] (λd=>aR N o.dst d f K)else False
   |false=>aR N o.dst (.v undef) f K) h s
  cases go with
  |true=>
   obtain⟨n,p⟩:=g7 j;obtain⟨d,y,m⟩:=Mj l p;obtain⟨c,b,g⟩:=fE m s;exact⟨o,d,e,.inl ⟨w,n,.of (y.le s.le)⟩,c,b,g⟩
  |false=>
   obtain⟨c,b,g⟩:=fE j s;exact⟨o,_,e,.inr ⟨w,rfl⟩,c,b,g⟩
def fK(p:Nat->Bool):eT->Bool
 |.done=>true
 |.one i t=>p i&&fK p t
 |.two i t j u=>p i&&(fK p t&&(p j&&fK p u))
 |.three i t j u k v=>p i&&(fK p t&&(p j&&(fK p u&&(p k&&fK p v))))
 |.four i t j u k v l w=>p i&&(fK p t&&(p j&&(fK p u&&(p k&&(fK p v&&(p l&&fK p w))))))
 |.five i t j u k v l w m x=>p i&&(fK p t&&(p j&&(fK p u&&(p k&&(fK p v&&(p l&&(fK p w&&(p m&&fK p x))))))))
 |.fst _ t=>fK p t
theorem od(e:∀t i,T t=some i->aD P t=some i){E:Nat->Bool}:∀{t:eT}{K:aM->af->Prop}{f:aM}{σ:af}{a:List D},fK E t=true->lg P T r n df N L K t f σ->Sp N a f->du P r n df L.toArray E (λq σ'=>∃p,Sp N q p/\K p σ') t a σ
 |.done,K,f,σ,a,c,h,s=>⟨f,s,h⟩
 |.one i t,K,f,σ,a,c,h,s=>by
  simp only[fK,zJ]at c;exact jl e c.1 h s (λp σ' q g b=>od e c.2 g b)
 |.two i t j u,K,f,σ,a,c,h,s=>by
  simp only[fK,zJ]at c;exact⟨jl e c.1 h.1 s (λp σ' q g b=>od e c.2.1 g b),jl e c.2.2.1 h.2 s (λp σ' q g b=>od e c.2.2.2 g b)⟩
 |.three i t j u k v,K,f,σ,a,c,h,s=>by
  simp only[fK,zJ]at c;exact⟨jl e c.1 h.1 s (λp σ' q g b=>od e c.2.1 g b),jl e c.2.2.1 h.2.1 s (λp σ' q g b=>od e c.2.2.2.1 g b),jl e c.2.2.2.2.1 h.2.2 s (λp σ' q g b=>od e c.2.2.2.2.2 g b)⟩
 |.four i t j u k v l w,K,f,σ,a,c,h,s=>by
  simp only[fK,zJ]at c;exact⟨jl e c.1 h.1 s (λp σ' q g b=>od e c.2.1 g b),jl e c.2.2.1 h.2.1 s (λp σ' q g b=>od e c.2.2.2.1 g b),jl e c.2.2.2.2.1 h.2.2.1 s (λp σ' q g b=>od e c.2.2.2.2.2.1 g b),jl e c.2.2.2.2.2.2.1 h.2.2.2 s (λp σ' q g b=>od e c.2.2.2.2.2.2.2 g b)⟩
 |.five i t j u k v l w m x,K,f,σ,a,c,h,s=>by
  simp only[fK,zJ]at c;exact⟨jl e c.1 h.1 s (λp σ' q g b=>od e c.2.1 g b),jl e c.2.2.1 h.2.1 s (λp σ' q g b=>od e c.2.2.2.1 g b),jl e c.2.2.2.2.1 h.2.2.1 s (λp σ' q g b=>od e c.2.2.2.2.2.1 g b),jl e c.2.2.2.2.2.2.1 h.2.2.2.1 s (λp σ' q g b=>od e c.2.2.2.2.2.2.2.1 g b),jl e c.2.2.2.2.2.2.2.2.1 h.2.2.2.2 s (λp σ' q g b=>od e c.2.2.2.2.2.2.2.2.2 g b)⟩
 |.fst i t,K,f,σ,a,c,h,s=>by
  simp only[fK]at c;obtain⟨o,d,A,g,p,z,y⟩:=DA (K:=λp=>lg P T r n df N L K t p σ) e h s;exact⟨o,d,A,g,od e c y z⟩
theorem lu(m:P.follows .mixedOrders=true)(d:∀t i,T t=some i->aD P t=some i){id:Nat}{O:Array Oper}(j:O=L.toArray)(s:List Nat)(u:Nat)(E:Nat->Bool)(t:eT){γ:Type}(b:γ->aM)(S:γ->af)(I:γ->Prop)
  (B:(Nat.beq (s.length+u) L.length&&JR .any L.toArray E u t s (Array.replicate L.length false)&&fK E t)=true)
  (h:W (gU P T N L E σ s (λf1=>lg P T r n df N L (λf' σ'=>∃g,dK f' (gC (.region id O true) f (b g))/\Sc σ' (S g)/\I g) t f1 σ) f))
  (kk:∀g,I g->W (Fj (gC (.region id O true) f (b g)) λF=>Q .normal F (S g))):Lp P r n df N (.region id O true) Q f σ:=by
 subst j;simp only[zJ]at B;refine⟨λa c=>?_⟩;refine Zw (bh8 (Q:=λe a' σ'=>e= .normal/\∃f',Sp N a' f'/\∃g,dK f' (gC (.region id L.toArray true) f (b g))/\Sc σ' (S g)/\I g) E s u t m (yH B.1.1) B.1.2 (Y0 (λa' σ' k=>?_) (PQ d h.h c))) ?_
 .obtain⟨rfl,f',h1,h2⟩:=k;have:=od d B.2 h2 h1;exact oh (λa σ h=>⟨rfl,h⟩) this
 .exact DR
end
end
section
open Go Go.RowKit Go.Shelf
section
variable {P:Program} {r:Option Nat} {n:Nat} {df:Nat} {N:Nat} {σ:af} {a:List D} {f:aM} {T:TypeId->Option TI} {L:List Oper} {Q:gJ} {ρ:Operand->D}
theorem Vs.sc{σ τ:af}(h:Sc σ τ)(d:D):Vs σ d τ d:=⟨λw X _ s r=>⟨h.run w X s,L8 r h.sub⟩,h.sub⟩
theorem Sc.any{b:Nat}{e:TypeId}{cs cs':List D}{τ:af}(l:cs'.length=cs.length)(h:∀(i:Nat)d',cs'[i]?=some d'->d'= .any\/cs[i]?=some d'):Sc ((b,.cells e cs)::τ) ((b,.cells e cs')::τ):=by
 refine⟨λw X s=>⟨s.nodup,λx k m=>?_,s.xlt,s.gok⟩,λb g=>g⟩;rcases zU.1 m with q|m
 .cases q
  obtain⟨n,o,j,vs,rfl,a⟩:=s.at_ b _ yN;exact⟨n,_,j,vs,rfl,⟨by rw[a.len,l],λi d u f c=>by
   rcases h i d f with rfl|p
   .exact .any u
   .exact a.at_ i d u p c⟩⟩
 .exact s.at_ x k (yQ _ m)
end
end
section
open Go Go.RowKit
theorem Ca(a b:Int):decide (a<b)=!decide (b<=a):=by
 by_cases h:b<=a
 .rw[yJ h,yE (by omega)];rfl
 .rw[yE h,yJ (by omega)];rfl
def v7(x:ak)(i:VI):Bool:=!di x i
theorem IF{p:Prop}(h:p:=by
 repeat' first|refine aN ?_|(refine aT ?_;constructor<;>intro hc)
 (all_goals(refine Rt.pure (zM bD ?_);first|rfl|((try simp only[zL]at *)<;>(first|rfl|(symm;first|(refine yJ ?_;omega)|(refine yE ?_;omega))))))):p:=h
theorem tL(x:ak)(j:x.kz.length<=1000000)(g:∀k∈x.kz,k.fields.length<=1000000)(i:VI)(hb:i.op=4\/i.op=5->0<=i.b/\i.b<=5/\0<=i.c):APure prog 186 [Im i,.ro (uh x)] (bD (v7 x i)):=by
 have n:v7 x i=if i.op=4 then decide ((x.kz.length:Int)<=i.b)else if i.op=5 then(if(x.kz.length:Int)<=i.b then true else(match x.kz[i.b.toNat]? with|some k=>decide ((k.fields.length:Int)<=i.c)|none=>true))else false:=by
  unfold v7 di;by_cases h4:i.op=4
  .rw[if_pos h4,if_pos h4,Ca,Bool.not_not]
  .by_cases h5:i.op=5
   .obtain⟨f,e,b⟩:=hb (.inr h5);rw[if_neg h4,if_neg h4,if_pos h5,if_pos h5];by_cases hk:(x.kz.length:Int)<=i.b
    .rw[if_pos hk,yY.2 (by omega)];rfl
    .rw[if_neg hk,zD (by omega)];simp only;rw[Ca,Bool.not_not]
   .rw[if_neg h4,if_neg h4,if_neg h5,if_neg h5];rfl
 rw[n];refine ao func186 ntmps186 λo=>?_;by_cases h4:i.op=4
 .obtain⟨f,e,b⟩:=hb (.inl h4);rw[if_pos h4];exact IF
 .rw[if_neg h4];by_cases h5:i.op=5
  .obtain⟨f,e,b⟩:=hb (.inr h5);rw[if_pos h5];by_cases hk:(x.kz.length:Int)<=i.b
   .rw[if_pos hk];exact IF
   .rw[if_neg hk];obtain⟨k,a⟩:∃k,x.kz[i.b.toNat]?=some k:=⟨_,zD (by omega)⟩
    have l:=g k (zG a);rw[a];simp only;exact IF
  .rw[if_neg h5];exact IF
theorem sk9{A B:Prop}(k:B)(h:ar B->A:=by intro q7;(first|refine bQ ?_|refine aA ?_|(refine' ah ?hc ?_;(case hc=>exact hp _ (zG hy))));exact q7.1):A:=h ⟨k⟩
theorem XG{p:Prop}(h:p:=by
 exact⟨k+1,rfl,rfl,⟨by omega,λi z hi hz=>by
  by_cases e:i=k
  .subst e;rw[show((i:Int)).toNat=i from rfl,hz]at hy;cases hy;assumption
  .exact hno i z (by omega) hz⟩,by omega⟩):p:=h
theorem DX{p:Prop}(h:p:=by
 refine Rt.pure (zM iD ?_);exact(Y8 λi y hy=>hno i y (by have:=(zE.1 hy).1;omega) hy).symm):p:=h
theorem Oz{f:FuncId}{cs:List D}(l:cK)(p:VI->Bool)(hl:l.length<=1000000)(hp:∀y∈l,APure prog f [Im y,.ro cs] (bD (p y))):APure prog 232 [rC l,.clo f [.ro cs]] (iD (idx p l)):=by
 refine ao func232 ntmps232 λb=>?_
 repeat refine sk9 ?_
 refine fW mixed ai (γ:=Nat) (λk=>[(8,iD k)]) (λ_=>[]) (λk=>k<=l.length/\∀i y,i<k->l[i]?=some y->p y=false) (λk=>l.length-k) 0 rfl rfl ⟨by omega,by omega⟩ ?_;rintro k ⟨a,hno⟩;by_cases hlt:k<l.length
 .obtain⟨y,hy⟩:∃y,l[(k:Int).toNat]?=some y:=⟨_,zD hlt⟩
  repeat' first|refine sk9 ?_|(refine aT ?_;constructor<;>intro hc)
  .refine Rt.pure (zM iD ?_);exact(JP hy ‹_› hno).symm
  .exact XG
 .repeat refine sk9 ?_
  exact DX
theorem bp7{A B:Prop}(k:B)(h:ar B->A:=by intro q7;(first|refine bQ ?_|refine aA ?_|(refine' ah ?hc ?_;(case hc=>exact Oz l p hl hp)));exact q7.1):A:=h ⟨k⟩
theorem Jz{f:FuncId}{cs:List D}(l:cK)(p:VI->Bool)(hl:l.length<=1000000)(hp:∀y∈l,APure prog f [Im y,.ro cs] (bD (p y))):APure prog 185 [rC l,.clo f [.ro cs]] (bD (l.any p)):=by
 refine ao func185 ntmps185 λa=>?_
 repeat refine bp7 ?_
 refine Rt.pure (zM bD ?_);exact qM p l
theorem EO.nm{n:Nat}{i:VI}(h:EO n i):i.op=4\/i.op=5->0<=i.b/\i.b<=5/\0<=i.c:=λe=>by
 rcases e with e|e
 .have b:=h.b;have a:=h.c;rw[e]at b a;have:=aL7 b;have c:cy 0 i.c n=true:=a;simp[cy,oF,kQ]at c;omega
 .have b:=h.b;have a:=h.c;rw[e]at b a;have:=aL7 b;have:=ny a;omega
theorem uS(x:ak)(p:cK):QD x p=!p.any (v7 x):=by
 unfold QD
 induction p with
 |nil=>rfl
 |cons i p h=>simp only[List.all_cons,List.any_cons,h,v7,Bool.not_or,Bool.not_not]
theorem uf{A B:Prop}(k:B)(h:ar B->A:=by intro q7;(first|refine bQ ?_|refine aA ?_|(refine' ah ?hc ?_;(case hc=>exact HA)));exact q7.1):A:=h ⟨k⟩
theorem y4(x:ak)(a:x.kz.length<=1000000)(f:∀k∈x.kz,k.fields.length<=1000000)(p:cK)(b:xy p=0):APure prog 139 [ax x,rC p] (bD (QD x p)):=by
 obtain⟨h1,h2⟩:=bc4 b;have HA:=Jz p (v7 x) (by omega) (λi hi=>tL x a f i (h2 i hi).nm);rw[uS];refine ao func139 ntmps139 λe=>?_
 repeat refine uf ?_
 exact Rt.pure rfl
end
section
open Go
def Nz(r:Rf):List D:=[iD r.kind,iD r.field,iD r.up,iD r.least]
def fP(l:List (List Int)):D:=.sl 1 (l.map λr=>[bi r])
def lI(w:Wd):D:=.sl 1 (w.map λl=>[fP l])
def slB(l:List Bool):D:=.sl 1 (l.map λb=>[bD b])
def Pj(k i:Int):List D:=[iD k,iD i]
end
section
open Go Go.RowKit
def jd(w:Wd)(k:Int):Int:=if k<0 then 0 else nR w k
def y7(w:Wd)(k i f:Int):Int:=if k<0\/i<0\/f<0 then 0 else FO w k i f
abbrev uR(w:Wd):D:=.agg [lI w]
theorem getD_some{α:Type}{l:List α}{i:Nat}{x d:α}(h:l[i]?=some x):l.getD i d=x:=by rw[List.getD_eq_getElem?_getD,h];rfl
theorem aE7{α:Type}{l:List α}{i:Nat}{d:α}(h:l.length<=i):l.getD i d=d:=by rw[List.getD_eq_getElem?_getD,yY.2 h];rfl
theorem aD9(w:Wd)(b:w.length<=1000000)(hl:∀l∈w,l.length<=1000000)(k:Int):APure prog 24 [uR w,iD k] (iD (jd w k)):=by
 unfold jd nR;refine ao func24 ntmps24 λe=>?_;by_cases h0:k<0
 .rw[if_pos h0]
  repeat refine aN ?_
  exact Rt.pure rfl
 .rw[if_neg h0];by_cases h1:(w.length:Int)<=k
  .rw[aE7 (by omega)]
   repeat refine aN ?_
   exact Rt.pure rfl
  .obtain⟨l,a⟩:∃l,w[k.toNat]?=some l:=⟨_,zD (by omega)⟩
   have:=hl l (zG a);rw[getD_some a]
   repeat refine aN ?_
   refine Rt.pure (zM iD ?_);rw[zL]
theorem kf{A B:Prop}(k:B)(h:ar B->A:=by intro q7;(first|refine bQ ?_|refine aA ?_|(refine' ah ?hc ?_;(case hc=>exact HC)));exact q7.1):A:=h ⟨k⟩
def wU:=@Nat.lt_or_ge
theorem BT(w:Wd)(j:w.length<=1000000)(hl:∀l∈w,l.length<=1000000/\∀r∈l,r.length<=1000000)(k i f:Int):APure prog 25 [uR w,iD k,iD i,iD f] (iD (y7 w k i f)):=by
 have HC:=aD9 w j (λl h=>(hl l h).1) k;unfold y7 FO;refine ao func25 ntmps25 λo=>?_;by_cases hi:i<0
 .rw[if_pos (.inr (.inl hi))]
  repeat refine kf ?_
  exact Rt.pure rfl
 by_cases hc:jd w k<=i
 .have z:(if k<0\/i<0\/f<0 then(0:Int)else((w.getD k.toNat []).getD i.toNat []).getD f.toNat 0)=0:=by
   by_cases hk:k<0
   .rw[if_pos (.inl hk)]
   .unfold jd nR at hc;rw[if_neg hk]at hc;split
    .rfl
    .rw[aE7 (l:=w.getD k.toNat []) (by omega)];rfl
  rw[z]
  repeat refine kf ?_
  exact Rt.pure rfl
 by_cases hf:f<0
 .rw[if_pos (.inr (.inr hf))]
  repeat refine kf ?_
  exact Rt.pure rfl
 by_cases hk:k<0
 .unfold jd at hc;rw[if_pos hk]at hc;omega
 have a:=hc;unfold jd nR at a;rw[if_neg hk]at a;have e:k.toNat<w.length:=by
  rcases wU k.toNat w.length with h|h
  .exact h
  .rw[aE7 h]at a;simp at a;omega
 obtain⟨l,b⟩:∃l,w[k.toNat]?=some l:=⟨_,zD e⟩
 obtain⟨h1,h2⟩:=hl l (zG b);rw[getD_some b]at a⊢;obtain⟨r,g⟩:∃r,l[i.toNat]?=some r:=⟨_,zD (by omega)⟩
 have h3:=h2 r (zG g);rw[getD_some g,if_neg (by omega)];by_cases hfl:(r.length:Int)<=f
 .rw[aE7 (by omega)]
  repeat refine kf ?_
  exact Rt.pure rfl
 .obtain⟨v,n⟩:∃v,r[f.toNat]?=some v:=⟨_,zD (by omega)⟩
  rw[getD_some n]
  repeat refine kf ?_
  exact Rt.pure rfl
theorem aZ3(v:Value)(w:World):(method (prog.types.size+Made.depth) 68 v "Count").run prog w= .ok (24,v) w:=by kernel_rfl
theorem H0(v:Value)(w:World):(method (prog.types.size+Made.depth) 68 v "Value").run prog w= .ok (25,v) w:=by kernel_rfl
abbrev Qi(b:Nat)(r:List Int):Nat×aE:=(b,.cells 243 (r.map iD))
abbrev Qo(b:Nat)(i:VI):Nat×aE:=(b,.cells 136 (bX i))
theorem ZX(b b2:Nat)(r:List Int)(g:r.length=8)(i:VI)(a:Nat)(f:i.a=(a:Int))(e:a<=7)(v:Int):az prog 140 [iD v,.v (.pointer (some ⟨b,0,none⟩)),.v (.pointer (some ⟨b2,0,none⟩))] [Qo b2 i,Qi b r] (λd σ=>d= .any/\σ=[Qo b2 i,Qi b (r.set a v)]):=by
 refine cU func140 ntmps140 λj=>?_
 repeat refine kf ?_
 refine Ot.yd (bN ai (m:=a) rfl rfl rfl rfl rfl f (by omega)) ?_
 repeat refine kf ?_
 refine Sv.cellm (tb:=243) (cs:=r.map iD) (cs':=(r.set a v).map iD) (τ:=[Qo b2 i]) (List.Perm.swap _ _ _) (by rw[xD,Nat.mul_one,zL];omega) rfl (by rw[xD,Nat.mul_one,wL]) ?_
 repeat refine kf ?_
 exact Rt.by (Vs.trans (Vs.le (λ_ _ v _=>.any v)) (Vs.perm (List.Perm.swap _ _ _))) ⟨rfl,rfl⟩
end
section
open Go Go.RowKit
section
variable {P:Program} {σ:af} {ρ:Operand->D}
theorem Fv{o:Oper}{t d:TypeId}{x y:Operand}{a b:Int}(c:o.op= .binOp .add t x y d)(hx:ρ x= .v (.int .i64 a))(e:ρ y= .v (.int .i64 b)):Yd P o ρ σ (.v (.int .i64 (IntKind.i64.wrap (a+b)))):=by
 intro w X η h f;obtain⟨dst,p,l,pos,k,g⟩:=o;simp only at c;subst c;have j:=(h x (by simp[Op.operands])).val hx;have i:=(h y (by simp[Op.operands])).val e;refine dC (s:=do eqGuard .add t x y (η x) (η y);binOp .add t (η x) (η y)) (u:=.int .i64 (IntKind.i64.wrap (a+b))) ?_ (Ex.refl w) (.v _);rw[j,i];simp[eqGuard,binOp,Op.intArith]
theorem Fp{o:Oper}{t d:TypeId}{x y:Operand}{a b:Int}(c:o.op= .binOp .sub t x y d)(hx:ρ x= .v (.int .i64 a))(e:ρ y= .v (.int .i64 b)):Yd P o ρ σ (.v (.int .i64 (IntKind.i64.wrap (a-b)))):=by
 intro w X η h f;obtain⟨dst,p,l,pos,k,g⟩:=o;simp only at c;subst c;have j:=(h x (by simp[Op.operands])).val hx;have i:=(h y (by simp[Op.operands])).val e;refine dC (s:=do eqGuard .sub t x y (η x) (η y);binOp .sub t (η x) (η y)) (u:=.int .i64 (IntKind.i64.wrap (a-b))) ?_ (Ex.refl w) (.v _);rw[j,i];simp[eqGuard,binOp,Op.intArith]
theorem MC{o:Oper}{n:String}{x:Operand}{t:TypeId}{d:D}(a:o.op= .makeFunc (.method n) #[x] #[])(hx:ρ x= .ifc t d):Yd P o ρ σ (.mth n (.ifc t d)):=by
 intro w X η h c;obtain⟨dst,p,y,pos,e,g⟩:=o;simp only at a;subst a;have b:=h x (by simp[Op.operands]);rw[hx]at b;refine dC (s:=Instr.makeFunc (.method n) ((#[x]:Array Operand).map η) ((#[]:Array Operand).map η)) (u:=.func (.method n) #[η x] #[]) ?_ (Ex.refl w) (.mth n _ _ b);simp[Instr.makeFunc]
theorem Fs{o:Oper}{n:String}{x:Operand}{t:TypeId}{d:D}(c:o.op= .nilCheck x)(hx:ρ x= .mth n (.ifc t d))(m:∀v w,(nilAhead (P.types.size+Made.depth) t v n).run P w= .ok (some false) w):Yd P o ρ σ (.mth n (.ifc t d)):=by
 intro w X η h i;obtain⟨dst,p,y,pos,b,g⟩:=o;simp only at c;subst c;have a:=h x (by simp[Op.operands]);rw[hx]at a;obtain⟨u,f,k⟩:=a.mth_inv;obtain⟨v,j,_⟩:=k.ifc_inv;subst j;have e:(execOp η ⟨dst,.nilCheck x,y,pos,b,g⟩).run P w= .ok (.value (.func (.method n) #[.iface t v] #[])) w:=by
  simp[execOp,f,run_program,m,Result.andThen]
 rw[e];exact⟨Ex.refl w,f ▸ a⟩
end
theorem Hx(v:Value)(w:World):(nilAhead (prog.types.size+Made.depth) 68 v "Value").run prog w= .ok (some false) w:=by kernel_rfl
theorem lS{r:List Int}(h:r.length=8){i:Int}(b:0<=i)(a:i<=7):(r.map iD)[0+i.toNat*1]?=some (iD (eC r i)):=by
 rw[xD,Nat.mul_one,qA,zD (by omega)];unfold eC;rw[List.getD_eq_getElem?_getD,zD (by omega)]
 rfl
def MP(v:Int×Int×Int):D:=.tup [.agg [iD v.1,iD v.2.1],iD v.2.2]
theorem AO(w:Wd)(p:cK)(f:Nat)(n:Int)(r:List Int):bO w p f n r (p.length:Nat)=(0,n,0):=by
 cases f with
 |zero=>unfold bO;rw[if_pos rfl]
 |succ f=>unfold bO;rw[Int.toNat_natCast,yY.2 (zT _)]
theorem AN(w:Wd)(p:cK)(n:Int)(r:List Int)(a:Nat)(h:a≠p.length):bO w p 0 n r a=(0,0,23):=by
 unfold bO;rw[if_neg (by omega)]
theorem LS{w:Wd}{p:cK}{m n:Nat}{r b:List Int}{a k:Nat}{i:VI}{c:Int}(e:p[a]?=some i)(s:gc w r (a:Int) i= .go b c)(d:c=(k:Int))(h:n<m):bO w p (m-n) n r a=bO w p (m-(n+1)) ((n+1:Nat):Int) b k:=by
 rw[show m-n=(m-(n+1))+1 by omega,bO,Int.toNat_natCast,e];simp only[s,d]
 rfl
theorem aW0{w:Wd}{p:cK}{m n:Nat}{r:List Int}{a:Nat}{i:VI}{c:Int}(b:p[a]?=some i)(s:gc w r (a:Int) i= .fin c)(h:n<m):bO w p (m-n) n r a=(c,(n:Int)+1,0):=by
 rw[show m-n=(m-(n+1))+1 by omega,bO,Int.toNat_natCast,b];simp only[s]
theorem eF{A B:Prop}(k:B)(h:ar B->A:=by intro q7;(first|refine bQ ?_|refine aA ?_|(refine' ah ?hc ?_;(case hc=>first|exact HVa|exact HN)));exact q7.1):A:=h ⟨k⟩
theorem ir{A B:Prop}(k:B)(h:ar B->A:=by intro q7;(first|refine zb ?_|fail|refine ZN ?_);exact q7.1):A:=h ⟨k⟩
theorem GJ{A B:Prop}(k:B)(h:ar B->A:=by intro q7;(first|refine bQ ?_|refine ir ?_|(refine' ah ?hc ?_;(case hc=>first|exact HVa|exact HN)));exact q7.1):A:=h ⟨k⟩
theorem Se{A B:Prop}(k:B)(h:ar B->A:=by intro q7;(first|refine bQ ?_|refine aA ?_|(refine' ah ?hc ?_;(case hc=>exact HVa)));exact q7.1):A:=h ⟨k⟩
theorem YC{p:Prop}(h:p:=by
 repeat' first|(refine Bx.r ?_;(with_reducible refine' Ot.yd ?hydb ?_);(case hydb=>first|exact Fv (a:=eC r i.b) (b:=eC r i.c) rfl rfl rfl|exact Fp (a:=eC r i.b) (b:=eC r i.c) rfl rfl rfl))|refine eF ?_|intro b;conv=>whnf|((with_reducible refine' Ot.yd ?hydx ?_);(case hydx=>first|exact bN ai (m:=i.b.toNat) rfl rfl rfl rfl rfl (by omega) (by omega)|exact bN ai (m:=i.c.toNat) rfl rfl rfl rfl rfl (by omega) (by omega)|exact bN ai (m:=i.a.toNat) rfl rfl rfl rfl rfl (by omega) (by omega)))|((refine' Ld.cellm (tb:=243) (cs:=r.map iD) (by simp) ?hldx ?_);(case hldx=>first|exact lS hr hb1 hb2|exact lS hr hc1 hc2|exact lS hr ha1 ha2))|(refine ba (ZX bg b r hr i i.a.toNat (by omega) (by omega) _) (zH ([_,_]++[_])) (λs'=>s'++[(bz,aE.cells 185 [iD 0,iD 0])]) (λs'=>zH _) ?_;(rintro _ _ ⟨rfl,rfl⟩))|fail
 exact⟨(),(aj aw),Sc.refl _,trivial⟩):p:=h
theorem Yp{p:Prop}(h:p:=by
 rw[aW0 hi hs (by omega)]at hR;rw[←hR]
 repeat' first|refine eF ?_|intro b;conv=>whnf|((with_reducible refine' Ot.yd ?hydx ?_);(case hydx=>first|exact bN ai (m:=i.b.toNat) rfl rfl rfl rfl rfl (by omega) (by omega)|exact bN ai (m:=i.c.toNat) rfl rfl rfl rfl rfl (by omega) (by omega)|exact bN ai (m:=i.a.toNat) rfl rfl rfl rfl rfl (by omega) (by omega)))|((refine' Ld.cellm (tb:=243) (cs:=r.map iD) (by simp) ?hldx ?_);(case hldx=>first|exact lS hr hb1 hb2|exact lS hr hc1 hc2|exact lS hr ha1 ha2))|((with_reducible refine' Ot.yd ?hydc ?_);(case hydc=>exact ZY rfl rfl aZ3 (aD9 w hw (λl h=>(hl l h).1) i.b)))|fail
 (refine mT ai (m:=2) rfl rfl rfl rfl rfl rfl rfl ?_;(repeat'(first|refine eF ?_|intro b;conv=>whnf)))
 exact Rt.vs (Vs.drop (yV _))):p:=h
theorem Yo{p:Prop}(h:p:=by
 have hs:gc w r (at_:Int) i= .go r i.c:=by unfold gc;simp[e,hlt]
 rw[LS (k:=i.c.toNat) hi hs (by omega) (by omega)]at hR
 repeat' first|refine eF ?_|intro b;conv=>whnf|((with_reducible refine' Ot.yd ?hydx ?_);(case hydx=>first|exact bN ai (m:=i.b.toNat) rfl rfl rfl rfl rfl (by omega) (by omega)|exact bN ai (m:=i.c.toNat) rfl rfl rfl rfl rfl (by omega) (by omega)|exact bN ai (m:=i.a.toNat) rfl rfl rfl rfl rfl (by omega) (by omega)))|((refine' Ld.cellm (tb:=243) (cs:=r.map iD) (by simp) ?hldx ?_);(case hldx=>first|exact lS hr hb1 hb2|exact lS hr hc1 hc2|exact lS hr ha1 ha2))|fail
 exact⟨(n+1,i.c.toNat,_),(aj aw),Sc.sl (yG _ _),⟨by simp only;omega,by simp only;omega,hr,hR⟩,by simp only;omega⟩):p:=h
theorem Yn{p:Prop}(h:p:=by
 have hs:gc w r (at_:Int) i= .go r (at_+1):=by unfold gc;simp[e,hlt]
 rw[LS (k:=at_+1) hi hs rfl (by omega)]at hR
 repeat' first|refine eF ?_|intro b;conv=>whnf|((with_reducible refine' Ot.yd ?hydx ?_);(case hydx=>first|exact bN ai (m:=i.b.toNat) rfl rfl rfl rfl rfl (by omega) (by omega)|exact bN ai (m:=i.c.toNat) rfl rfl rfl rfl rfl (by omega) (by omega)|exact bN ai (m:=i.a.toNat) rfl rfl rfl rfl rfl (by omega) (by omega)))|((refine' Ld.cellm (tb:=243) (cs:=r.map iD) (by simp) ?hldx ?_);(case hldx=>first|exact lS hr hb1 hb2|exact lS hr hc1 hc2|exact lS hr ha1 ha2))|fail
 exact⟨(n+1,at_+1,_),(aj aw),Sc.sl (yG _ _),⟨by simp only;omega,by simp only;omega,hr,hR⟩,by simp only;omega⟩):p:=h
theorem OT{p:Prop}(h:p:=by
 rintro _ _
 repeat' first|refine eF ?_|intro b;conv=>whnf
 exact⟨(n+1,at_+1,_),(aj aw),Sc.sl (yG _ _),⟨by simp only;omega,by simp only;omega,by simp only[yR];exact hr,hR⟩,by simp only;omega⟩):p:=h
theorem XK{p:Prop}(h:p:=by
 rw[←hR]
 repeat' first|refine eF ?_|intro b;conv=>whnf
 (refine mT ai (m:=1) rfl rfl rfl rfl rfl rfl rfl ?_;(repeat'(first|refine eF ?_|intro b;conv=>whnf)))
 exact Rt.vs (Vs.drop (yV _))):p:=h
def wH:=@Nat.sub_self
theorem yS(x:ak)(E:x.kz.length<=1000000)(F:∀k∈x.kz,k.fields.length<=1000000)(p:cK)(K:p.length<=1000000)(w:Wd)(hw:w.length<=1000000)(hl:∀l∈w,l.length<=1000000/\∀r∈l,r.length<=1000000)(t:Int) :
  APure prog 93 [ax x,rC p,.ifc 68 (uR w),iD t] (MP (fR x p w t)):=by
 have HVa:=yy p K;unfold fR;by_cases hv:xy p=0
 .rw[if_neg (by omega)];have HN:=y4 x E F p hv;rw[hv]at HVa;obtain⟨J,C⟩:=bc4 hv;by_cases hm:t<0\/1000000<t
  .rw[if_pos hm];refine ao func93 ntmps93 λI=>?_
   repeat' first|refine eF ?_|intro b;conv=>whnf|(refine aT ?_;constructor<;>intro hc)
   all_goals exact Rt.vs (Vs.drop (yV _))
  .rw[if_neg hm]
   cases v:QD x p with
   |false=>
    rw[v]at HN;rw[if_pos rfl];refine ao func93 ntmps93 λI=>?_
    repeat' first|refine eF ?_|intro b;conv=>whnf
    exact Rt.vs (Vs.drop (yV _))
   |true=>
    rw[v]at HN;rw[if_neg (by decide)];obtain⟨m,rfl⟩:∃m:Nat,t=(m:Int):=⟨t.toNat,by omega⟩
    rw[Int.toNat_natCast];refine ao func93 ntmps93 λI=>?_
    repeat' first|refine eF ?_|intro b;conv=>whnf
    rename_i bz;obtain⟨bg,rfl⟩:∃c,c=b:=⟨_,rfl⟩
    refine aV mixed ai (γ:=Nat×Nat×List Int) (λg=>[(13,iD g.1),(12,iD g.2.1)]) (λg=>[Qi bg g.2.2,(bz,aE.cells 185 [iD 0,iD 0])]) (λg=>g.1<=m/\g.2.1<=p.length/\g.2.2.length=8/\bO w p (m-g.1) g.1 g.2.2 g.2.1=bO w p m 0 (List.replicate 8 0) 0) (λg=>m-g.1) (0,0,List.replicate 8 0) (aj aw) (Sc.refl _) ⟨zW _,zW _,rfl,rfl⟩ ?_;rintro⟨n,at_,r⟩ ⟨v,G,hr,hR⟩;simp only at v G hr hR⊢;by_cases q:at_=p.length
    .subst q;rw[AO]at hR;exact XK
    by_cases D:n=m
    .subst D;rw[wH,AN _ _ _ _ _ q]at hR;exact XK
    obtain⟨i,hi⟩:∃y,p[at_]?=some y:=⟨_,zD (by omega)⟩
    have M:p[((at_:Nat):Int).toNat]?=some i:=hi;obtain⟨L,f,j,o⟩:=C i (zG hi);have u:i.op=0\/i.op=1\/i.op=2\/i.op=3\/i.op=4\/i.op=5\/i.op=6\/i.op=7\/i.op=8:=by omega
    rcases u with e|e|e|e|e|e|e|e|e
    .have hs:gc w r (at_:Int) i= .fin i.a:=by unfold gc;simp[e]
     rw[aW0 hi hs (by omega)]at hR;rw[←hR]
     repeat' first|refine eF ?_|intro b;conv=>whnf
     (refine mT ai (m:=2) rfl rfl rfl rfl rfl rfl rfl ?_;(repeat'(first|refine eF ?_|intro b;conv=>whnf)))
     exact Rt.vs (Vs.drop (yV _))
    .rw[e]at f j o;obtain⟨ha1,ha2⟩:=wv f;have hs:gc w r (at_:Int) i= .go (r.set i.a.toNat i.b) (at_+1):=by unfold gc;simp[e]
     rw[LS (k:=at_+1) hi hs rfl (by omega)]at hR
     repeat' first|refine eF ?_|intro b;conv=>whnf|(refine ba (ZX bg b r hr i i.a.toNat (by omega) (by omega) _) (zH ([_,_]++[_])) (λs'=>s'++[(bz,aE.cells 185 [iD 0,iD 0])]) (λs'=>zH _) ?_;(rintro _ _ ⟨rfl,rfl⟩))|fail
     exact⟨(n+1,at_+1,_),(aj aw),Sc.sl (yG _ _),⟨by simp only;omega,by simp only;omega,by simp only[yR];exact hr,hR⟩,by simp only;omega⟩
    .rw[e]at f j o;obtain⟨ha1,ha2⟩:=wv f;obtain⟨hb1,hb2⟩:=wv j;obtain⟨hc1,hc2⟩:=wv o;have hs:gc w r (at_:Int) i= .go (r.set i.a.toNat (IntKind.i64.wrap (eC r i.b+eC r i.c))) (at_+1):=by unfold gc;simp[e]
     rw[LS (k:=at_+1) hi hs rfl (by omega)]at hR
     repeat' first|refine GJ ?_|intro b;conv=>whnf|fail
     (refine Dr.r ?_;refine W.mk ?_)
     refine lu mixed ai rfl [0,1,2,3,4,5,6,7,8,9] 1 (jE [10]) (.one 10 .done) (γ:=Unit) (λ_=>[]) (λ_=>[Qo b i,Qi bg (r.set i.a.toNat (IntKind.i64.wrap (eC r i.b+eC r i.c))),(bz,aE.cells 185 [iD 0,iD 0])]) (λ_=>True) (by decide +kernel) ?_ ?_
     .exact YC
     .exact OT
    .rw[e]at f j o;obtain⟨ha1,ha2⟩:=wv f;obtain⟨hb1,hb2⟩:=wv j;obtain⟨hc1,hc2⟩:=wv o;have hs:gc w r (at_:Int) i= .go (r.set i.a.toNat (IntKind.i64.wrap (eC r i.b-eC r i.c))) (at_+1):=by unfold gc;simp[e]
     rw[LS (k:=at_+1) hi hs rfl (by omega)]at hR
     repeat' first|refine GJ ?_|intro b;conv=>whnf|fail
     (refine Dr.r ?_;refine W.mk ?_)
     refine lu mixed ai rfl [0,1,2,3,4,5,6,7,8,9] 1 (jE [10]) (.one 10 .done) (γ:=Unit) (λ_=>[]) (λ_=>[Qo b i,Qi bg (r.set i.a.toNat (IntKind.i64.wrap (eC r i.b-eC r i.c))),(bz,aE.cells 185 [iD 0,iD 0])]) (λ_=>True) (by decide +kernel) ?_ ?_
     .exact YC
     .exact OT
    .rw[e]at f j o;obtain⟨ha1,ha2⟩:=wv f;obtain⟨hb1,hb2⟩:=aL7 j;have s:jd w i.b=nR w i.b:=if_neg (by omega);have hs:gc w r (at_:Int) i= .go (r.set i.a.toNat (jd w i.b)) (at_+1):=by unfold gc;simp[e,s]
     rw[LS (k:=at_+1) hi hs rfl (by omega)]at hR
     repeat' first|refine eF ?_|intro b;conv=>whnf|((with_reducible refine' Ot.yd ?hydc ?_);(case hydc=>exact ZY rfl rfl aZ3 (aD9 w hw (λl h=>(hl l h).1) i.b)))|(refine ba (ZX bg b r hr i i.a.toNat (by omega) (by omega) _) (zH ([_,_]++[_])) (λs'=>s'++[(bz,aE.cells 185 [iD 0,iD 0])]) (λs'=>zH _) ?_;(rintro _ _ ⟨rfl,rfl⟩))|fail
     exact⟨(n+1,at_+1,_),(aj aw),Sc.sl (yG _ _),⟨by simp only;omega,by simp only;omega,by simp only[yR];exact hr,hR⟩,by simp only;omega⟩
    .rw[e]at f j o;obtain⟨ha1,ha2⟩:=wv f;obtain⟨hb1,hb2⟩:=aL7 j;obtain⟨hc1,hc2⟩:=ny o;have s:jd w i.b=nR w i.b:=if_neg (by omega);by_cases hne:eC r i.a<0
     .have hs:gc w r (at_:Int) i= .fin 251:=by unfold gc;simp[e,hne]
      exact Yp
     by_cases hge:jd w i.b<=eC r i.a
     .have hs:gc w r (at_:Int) i= .fin 251:=by unfold gc;simp[e,s ▸ hge]
      exact Yp
     have z:y7 w i.b (eC r i.a) i.c=FO w i.b (eC r i.a) i.c:=if_neg (by omega);have hs:gc w r (at_:Int) i= .go (r.set i.a.toNat (y7 w i.b (eC r i.a) i.c)) (at_+1):=by unfold gc;simp[e,z,hne];omega
     rw[LS (k:=at_+1) hi hs rfl (by omega)]at hR
     repeat' first|refine GJ ?_|intro b;conv=>whnf|fail
     refine Dr.l (by decide +kernel) ?_
     repeat' first|refine GJ ?_|intro b;conv=>whnf|((with_reducible refine' Ot.yd ?hydx ?_);(case hydx=>first|exact bN ai (m:=i.b.toNat) rfl rfl rfl rfl rfl (by omega) (by omega)|exact bN ai (m:=i.c.toNat) rfl rfl rfl rfl rfl (by omega) (by omega)|exact bN ai (m:=i.a.toNat) rfl rfl rfl rfl rfl (by omega) (by omega)))|((refine' Ld.cellm (tb:=243) (cs:=r.map iD) (by simp) ?hldx ?_);(case hldx=>first|exact lS hr hb1 hb2|exact lS hr hc1 hc2|exact lS hr ha1 ha2))|((with_reducible refine' Ot.yd ?hydc ?_);(case hydc=>exact ZY rfl rfl aZ3 (aD9 w hw (λl h=>(hl l h).1) i.b)))|fail
     (refine Dr.r ?_;refine W.mk ?_)
     refine lu mixed ai rfl [0,1,2,3,4,5,6,7,8,9,10,11,12,13] 1 (jE [14]) (.one 14 .done) (γ:=Unit) (λ_=>[]) (λ_=>[Qo b i,Qi bg (r.set i.a.toNat (y7 w i.b (eC r i.a) i.c)),(bz,aE.cells 185 [iD 0,iD 0])]) (λ_=>True) (by decide +kernel) ?_ ?_
     .repeat' first|refine eF ?_|intro b;conv=>whnf|((with_reducible refine' Ot.yd ?hydx ?_);(case hydx=>first|exact bN ai (m:=i.b.toNat) rfl rfl rfl rfl rfl (by omega) (by omega)|exact bN ai (m:=i.c.toNat) rfl rfl rfl rfl rfl (by omega) (by omega)|exact bN ai (m:=i.a.toNat) rfl rfl rfl rfl rfl (by omega) (by omega)))|((refine' Ld.cellm (tb:=243) (cs:=r.map iD) (by simp) ?hldx ?_);(case hldx=>first|exact lS hr hb1 hb2|exact lS hr hc1 hc2|exact lS hr ha1 ha2))|((with_reducible refine' Ot.yd ?hydv ?_);(case hydv=>first|exact MC rfl rfl|exact Fs rfl rfl Hx|exact ZY rfl rfl H0 (BT w hw hl i.b (eC r i.a) i.c)))|(refine ba (ZX bg b r hr i i.a.toNat (by omega) (by omega) _) (zH ([_,_]++[_])) (λs'=>s'++[(bz,aE.cells 185 [iD 0,iD 0])]) (λs'=>zH _) ?_;(rintro _ _ ⟨rfl,rfl⟩))|fail
      exact⟨(),(aj aw),Sc.refl _,trivial⟩
     .exact OT
    .rw[e]at f j o;obtain⟨ha1,ha2⟩:=LW f;have hs:gc w r (at_:Int) i= .go r i.a:=by unfold gc;simp[e]
     rw[LS (k:=i.a.toNat) hi hs (by omega) (by omega)]at hR
     repeat' first|refine eF ?_|intro b;conv=>whnf
     exact⟨(n+1,i.a.toNat,_),(aj aw),Sc.sl (yG _ _),⟨by simp only;omega,by simp only;omega,hr,hR⟩,by simp only;omega⟩
    .rw[e]at f j o;obtain⟨ha1,ha2⟩:=wv f;obtain⟨hb1,hb2⟩:=wv j;obtain⟨hc1,hc2⟩:=LW o;by_cases hlt:eC r i.a<eC r i.b
     .exact Yo
     .exact Yn
    .rw[e]at f j o;obtain⟨ha1,ha2⟩:=wv f;obtain⟨hb1,hb2⟩:=wv j;obtain⟨hc1,hc2⟩:=LW o;by_cases hlt:eC r i.a=eC r i.b
     .exact Yo
     .exact Yn
 .rw[if_pos hv];refine ao func93 ntmps93 λI=>?_
  repeat' first|refine Se ?_|intro b;conv=>whnf
  refine mT ai (m:=0) rfl rfl rfl rfl rfl rfl rfl ?_
  repeat' first|refine Se ?_|intro b;conv=>whnf
  exact Rt.vs (Vs.drop (yV _))
end
section
open Go Go.RowKit Go.Shelf
theorem zB{cs x:List D}{o m:Nat}{d:D}(h:∀j,j<x.length->cs[o+j]?=x[j]?)(c:m<x.length):ft cs o (x.set m d)=cs.set (o+m) d:=by
 have l:o+x.length<=cs.length:=by
  have:=h (x.length-1) (by omega);rw[zD (by omega:x.length-1<x.length)]at this;have:=(zE.1 this).1;omega
 unfold ft;apply xY;intro i;rw[xP,yR];rcases wU i o with a|a
 .rw[zV,yP (by rw[zR];omega),yX,if_pos a,if_neg (by omega)]
 .rcases wU i (o+x.length)with b|b
  .rw[zV,yK (by rw[zR];omega),zR,vH (by omega),yP (by rw[yR];omega),xP];by_cases e:o+m=i
   .rw[if_pos e,if_pos (by omega),if_pos (by omega),if_pos (by omega)]
   .rw[if_neg e,if_neg (by omega),←h (i-o) (by omega),show o+(i-o)=i by omega]
  .rw[yK (by rw[zI,zR,yR];omega),zI,zR,yR,vH (by omega),xR,if_neg (by omega),show o+x.length+(i-(o+x.length))=i by omega]
theorem pB1{e:TypeId}{k:Nat}{xs:List (List D)}{b n c:Nat}{cs:List D}(h:ae e k xs (.slice (some ⟨b,0,none⟩) n c) [(b,.cells e cs)]){i m:Nat}{x:List D}{d:D}(hx:xs[i]?=some x)(r:m<k):ae e k (xs.set i (x.set m d)) (.slice (some ⟨b,0,none⟩) n c) [(b,.cells e (cs.set (i*k+m) d))]:=by
 have l:=(zE.1 hx).1;have a:=h.len x (zG hx);obtain⟨s,g,f,q,p,j⟩:=h.get hx
 cases q
 have o:f=cs:=by
  have:=List.cons.inj p
  simpa using this.1.symm
 subst o;have:=h.put l (x':=x.set m d) (by rw[yR];exact a);rw[zB (by rw[a];exact j) (by omega)]at this;exact this
end
section
open Go
def nb(m:Nat):Nat:=if h:m=0 then 0 else nb (m/256)+1
termination_by m
decreasing_by exact Nat.div_lt_self (Nat.pos_of_ne_zero h) (by decide)
theorem QM:nb 0=0:=by rw[nb];simp
theorem kJ{m:Nat}(h:m≠0):nb m=nb (m/256)+1:=by rw[nb];simp[h]
theorem BZ:∀(m:Nat),m<256 ^ nb m
 |m=>by
  by_cases h:m=0
  .subst h;rw[QM];decide
  .rw[kJ h,Nat.pow_succ];have a:=BZ (m/256);omega
termination_by m=>m
decreasing_by exact Nat.div_lt_self (Nat.pos_of_ne_zero h) (by decide)
theorem B0:∀(m:Nat),m≠0->256 ^ (nb m-1)<=m
 |m,h=>by
  rw[kJ h,Nat.add_sub_cancel];by_cases h0:m/256=0
  .rw[h0,QM];omega
  .have b:=B0 (m/256) h0;have a:nb (m/256)=nb (m/256)-1+1:=by rw[kJ h0];simp
   rw[a,Nat.pow_succ];omega
termination_by m=>m
decreasing_by exact Nat.div_lt_self (Nat.pos_of_ne_zero h) (by decide)
theorem bs2{m k:Nat}(d:m<256 ^ k)(a:k=0\/256 ^ (k-1)<=m):nb m=k:=by
 by_cases b:m=0
 .subst b;rw[QM];rcases a with a|a
  .exact a.symm
  .have:0<256 ^ (k-1):=Nat.pow_pos (by decide);omega
 .have f:=BZ m;have e:=B0 m b;rcases Nat.lt_trichotomy (nb m) k with h|h|h
  .exfalso;have c:256 ^ nb m<=256 ^ (k-1):=Nat.pow_le_pow_right (by decide) (by omega);rcases a with a|a<;>omega
  .exact h
  .exfalso;have c:256 ^ k<=256 ^ (nb m-1):=Nat.pow_le_pow_right (by decide) (by omega);omega
theorem B1(m j:Nat):m/256 ^ j=0↔nb m<=j:=by
 constructor
 .intro h;by_cases b:m=0
  .subst b;rw[QM];omega
  .have d:=B0 m b;have c:m<256 ^ j:=by
    have:=(Nat.div_eq_zero_iff).1 h;have p:0<256 ^ j:=Nat.pow_pos (by decide);omega
   rcases wU j (nb m)with a|a
   .have:256 ^ j<=256 ^ (nb m-1):=Nat.pow_le_pow_right (by decide) (by omega);omega
   .exact a
 .intro h;have e:=BZ m;have:256 ^ nb m<=256 ^ j:=Nat.pow_le_pow_right (by decide) h;exact Nat.div_eq_of_lt (by omega)
theorem aZ0{m:Nat}(h:m<9223372036854775808):nb m<=8:=by
 rw[←B1];exact Nat.div_eq_of_lt (by omega)
def nM:Nat->Nat->List Nat
 |0,_=>[]
 |k+1,m=>nM k (m/256)++[m%256]
theorem x2:∀(k m:Nat),(nM k m).length=k
 |0,_=>rfl
 |k+1,m=>by rw[nM,zI,x2 k];rfl
theorem kZ:∀(k m:Nat)(d:Nat),d∈nM k m->d<256
 |0,_,d,h=>by cases h
 |k+1,m,d,h=>by
  rw[nM]at h;rcases zO.1 h with h|h
  .exact kZ k _ d h
  .rw[zN]at h;omega
theorem aQ3:∀(k m q:Nat),q<k->(nM k m)[q]?=some (m/256 ^ (k-1-q)%256)
 |0,_,q,h=>by omega
 |k+1,m,q,h=>by
  rw[nM];by_cases hq:q<k
  .rw[yP (by rw[x2];exact hq),aQ3 k _ q hq,Nat.div_div_eq_div_mul,show k+1-1-q=(k-1-q)+1 by omega,Nat.pow_succ,Nat.mul_comm 256]
  .obtain rfl:q=k:=by omega
   rw[yK (by rw[x2];exact zT _),x2,wH,show q+1-1-q=0 by omega];simp
def hK(n:Bool)(d:Nat):Nat:=if n then 255-d else d
theorem nu{n:Bool}{d:Nat}(h:d<256):hK n d<256:=by unfold hK;split<;>omega
def yg(n:Int):Nat:=if n<0 then(-1-n).toNat else n.toNat
def bF(n:Int):List Nat:=hK (decide (n<0)) (128+nb (yg n))::(nM (nb (yg n)) (yg n)).map (hK (decide (n<0)))
def dU(l:List Int):List Nat:=bF l.length++l.flatMap bF
theorem qb{n:Int}(h:cA n):yg n<9223372036854775808:=by
 have b:=h.lo;have a:=h.hi;unfold yg;split<;>omega
theorem DD(n:Int):(bF n).length=nb (yg n)+1:=by unfold bF;rw[List.length_cons,zL,x2]
theorem E6{n:Int}(h:cA n):(bF n).length<=9:=by have:=aZ0 (qb h);rw[DD];omega
theorem kY{n:Int}(h:cA n):∀d∈bF n,d<256:=by
 intro d b;have:=aZ0 (qb h);unfold bF at b;rcases zU.1 b with a|a
 .rw[a];exact nu (by omega)
 .obtain⟨e,f,c⟩:=xM.1 a;rw[←c];exact nu (kZ _ _ _ f)
end
section
open Go
section
variable {α β:Type}
def many(f:List Nat->α×Nat×Int):Nat->List Nat->List α×Nat×Int
 |0,_=>([],0,0)
 |n+1,b=>if(f b).2.2≠0 then([],0,(f b).2.2)
  else if(many f n (b.drop (f b).2.1)).2.2≠0 then([],0,(many f n (b.drop (f b).2.1)).2.2)
  else((f b).1::(many f n (b.drop (f b).2.1)).1,(f b).2.1+(many f n (b.drop (f b).2.1)).2.1,0)
end
def vm(l:List (List Int)):List Nat:=bF l.length++l.flatMap dU
def W9(w:List (List (List Int))):List Nat:=bF w.length++w.flatMap vm
section
variable {α:Type} {f:List Nat->α×Nat×Int} {c:Int}
end
structure WdR(w:List (List (List Int))):Prop where
 k:cA w.length
 n:∀l∈w,cA l.length
 f:∀l∈w,∀r∈l,cA r.length
 v:∀l∈w,∀r∈l,∀v∈r,cA v
theorem Iw{l:List Int}(n:cA l.length)(h:∀v∈l,cA v):∀d∈dU l,d<256:=by
 intro d b;unfold dU at b;rcases zO.1 b with a|a
 .exact kY n d a
 .obtain⟨v,e,c⟩:=List.mem_flatMap.1 a;exact kY (h v e) d c
end
section
open Go
def et(x:cB)(n:Nat):cB:=(x >>> n) |||(x <<< (32-n))
def fx(x:cB)(i j k:Nat):cB:=et x i ^^^ et x j ^^^ et x k
def qS(x:cB)(d:Nat):cB:=(x <<< 8) |||BitVec.ofNat 32 d
def jq(a b c d:Nat):cB:=qS (qS (qS (qS 0 a) b) c) d
theorem yt(a b c d:Nat):((BitVec.ofNat 32 a <<< 24 |||BitVec.ofNat 32 b <<< 16) |||BitVec.ofNat 32 c <<< 8) |||BitVec.ofNat 32 d=jq a b c d:=by
 unfold jq qS;simp only[BitVec.shiftLeft_or_distrib,←BitVec.shiftLeft_add,Nat.reduceAdd];simp
def ii(p:cB):cB:=et p 7 ^^^ et p 18 ^^^ (p >>> 3)
def kc(q:cB):cB:=et q 17 ^^^ et q 19 ^^^ (q >>> 10)
def bH(b:List Nat):Nat->List cB
 |0=>[]
 |t+1=>bH b t++[if t<16 then jq (b.getD (4*t) 0) (b.getD (4*t+1) 0) (b.getD (4*t+2) 0) (b.getD (4*t+3) 0)
   else(bH b t).getD (t-16) 0+ii ((bH b t).getD (t-15) 0)+(bH b t).getD (t-7) 0+kc ((bH b t).getD (t-2) 0)]
theorem I8(b:List Nat):∀t,(bH b t).length=t
 |0=>rfl
 |t+1=>by rw[bH,zI,I8 b t];rfl
theorem mw(b:List Nat){i:Nat}:∀{t:Nat},i<t->(bH b t)[i]?=(bH b (i+1))[i]?
 |0,h=>by omega
 |t+1,h=>by
  by_cases e:i=t
  .subst e;rfl
  .have a:i<t:=by omega
   rw[bH,yP (by rw[I8];exact a)];exact mw b a
structure S8 where
 a:cB
 b:cB
 c:cB
 d:cB
 e:cB
 f:cB
 g:cB
 h:cB
def S8.list(s:S8):List cB:=[s.a,s.b,s.c,s.d,s.e,s.f,s.g,s.h]
def EZ(e f g:cB):cB:=(e &&& f) ^^^ (~~~e &&& g)
def uX(a b c:cB):cB:=(a &&& b) ^^^ (a &&& c) ^^^ (b &&& c)
def SX(s:S8)(k w:cB):S8:=
 ⟨s.h+fx s.e 6 11 25+EZ s.e s.f s.g+k+w+(fx s.a 2 13 22+uX s.a s.b s.c),s.a,s.b,s.c,s.d+(s.h+fx s.e 6 11 25+EZ s.e s.f s.g+k+w),s.e,s.f,s.g⟩
def CC(t:Nat):cB:=BitVec.ofNat 32 (ev.getD t 0)
def cY(s:S8)(b:List Nat):Nat->S8
 |0=>s
 |t+1=>SX (cY s b t) (CC t) ((bH b 64).getD t 0)
def S8.add(s t:S8):S8:=⟨s.a+t.a,s.b+t.b,s.c+t.c,s.d+t.d,s.e+t.e,s.f+t.f,s.g+t.g,s.h+t.h⟩
def Fb(s:S8)(b:List Nat):S8:=s.add (cY s b 64)
def yb:S8:=⟨0x6a09e667,0xbb67ae85,0x3c6ef372,0xa54ff53a,0x510e527f,0x9b05688c,0x1f83d9ab,0x5be0cd19⟩
def fa(m:List Nat):Nat->S8
 |0=>yb
 |n+1=>Fb (fa m n) ((m.drop (64*n)).take 64)
def vK:=@List.take_append_of_le_length
theorem mr(m t:List Nat):∀n,64*n<=m.length->fa (m++t) n=fa m n
 |0,_=>rfl
 |n+1,h=>by
  rw[fa,fa,mr m t n (by omega),List.drop_append_of_le_length (by omega),vK (by rw[List.length_drop];omega)]
def qf(n:Nat):List Nat:=nM 8 (8*n)
def gP(n:Nat):Nat:=(119-n%64)%64
def cw(n:Nat):List Nat:=128::(List.replicate (gP n) 0++qf n)
theorem aY3(n:Nat):(cw n).length=gP n+9:=by simp[cw,qf,x2]
theorem G'(n:Nat):(n+(cw n).length)%64=0:=by rw[aY3];unfold gP;omega
def jO(s:S8)(i:Nat):Nat:=(s.list.getD (i/4) 0).toNat/2 ^ (24-8*(i%4))%256
def o8(m:List Nat):List Nat:=(List.range 32).map (jO (fa (m++cw m.length) ((m.length+(cw m.length).length)/64)))
structure ou(m:List Nat)(s:S8)(b:List Nat):Prop where
 st:s=fa m (m.length/64)
 len:b.length=64
 bl:b.take (m.length%64)=m.drop (64*(m.length/64))
theorem ou.begin(b:List Nat)(h:b.length=64):ou [] yb b:=⟨rfl,h,by simp⟩
def uL(b:List Nat)(at_:Nat)(t:List Nat):List Nat:=b.take at_++t++b.drop (at_+t.length)
theorem BC{b t:List Nat}{a:Nat}(h:a+t.length<=b.length):(uL b a t).length=b.length:=by
 unfold uL;simp only[zI,zR,List.length_drop];omega
theorem ou.more{m b t:List Nat}{s:S8}(h:ou m s b)(c:m.length%64+t.length<64):ou (m++t) s (uL b (m.length%64) t):=by
 have d:(m++t).length/64=m.length/64:=by rw[zI];omega
 have a:(m++t).length%64=m.length%64+t.length:=by rw[zI];omega
 have l:=h.len;refine⟨?_,by rw[BC (by omega)];exact l,?_⟩
 .rw[d,mr m t _ (by omega)];exact h.st
 .rw[d,a,List.drop_append_of_le_length (by omega),←h.bl];unfold uL;rw[vK (by simp only[zI,zR];omega),yL (by simp only[zI,zR];omega)]
def ED(t:Nat)(parts:List (List Nat)):List Nat:=(o8 (t::parts.flatMap λp=>bF p.length++p)).take 16
end
end Go.Proofs.YtilnpcolgcmofaaGreatDoor
