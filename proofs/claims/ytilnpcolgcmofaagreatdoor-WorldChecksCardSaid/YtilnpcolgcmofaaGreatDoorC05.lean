/- A part of the proof. -/
import Derived.Test.YtilnpcolgcmofaaGreatDoorC04
set_option maxRecDepth 100000
set_option maxHeartbeats 20000000
set_option linter.all false
namespace Go.Proofs.YtilnpcolgcmofaaGreatDoor
open Tryz
section
open Go Go.RowKit Go.Shelf
section
variable {P:Program} {r:Option Nat} {n:Nat} {df:Nat} {ops:Array Oper} {Q:fG} {a:List D} {σ:ae} {md:Region.Mode} {al:Option (Nat×TypeId)}
def vI:=@Array.getElem?_setIfInBounds_ne
def aX7{m g:Nat}{L:List D->Prop}(n:∀i b,i<m->HeadInv md ops m b->b.getD i true=false->∀t,m<=t->t ∉ Region.ready md ops b) :
  ∀(l:List Oper)(k:Nat)(b:Array Bool)(a:List D),(∀j,j<l.length->l[j]?=ops[k+j]?)->k+l.length=m->HeadInv md ops m b->(∀j,j<k->b.getD j false=true) ->
  Region.lexHead md ops g l.length k b=true->sx al P ops σ L l a ->
  jE al P md ops σ m (λc z=>Region.seqB md ops g m c=true/\(∀j,j<m->c.getD j false=true)/\L z) l.length b a
 |[],k,b,a,_,u,_,s,B,h=>by
  obtain rfl:k=m:=by simpa using u
  exact⟨by simpa [Region.lexHead]using B,s,h⟩
 |o::l,k,b,a,x,u,v,s,B,h=>by
  have p:ops[k]?=some o:=by simpa using(x 0 (by simp)).symm
  simp only[List.length_cons,Region.lexHead,zJ]at B u;obtain⟨⟨G,J⟩,w⟩:=B;have f:k∈Region.ready md ops b:=by simpa using G
  have q:aOp al P ops σ k (sx al P ops σ L l) a:=by unfold aOp;simp only[p];exact h
  obtain⟨d,F,M⟩:=aO4 p q;have r:k<b.size:=by
   have y:=(mem_ready.1 f).1;refine Nat.lt_of_not_le λH=>?_;rw[Array.getD_eq_getD_getElem?,Array.getElem?_eq_none (by omega)]at y
   cases y
  exact aT4 p (λA E C=>n k A (by omega) E C) (by omega) (λc z K=>seqB_ready K.1) l.length b a v (Region.free_spec p J) f F
   (aX7 n l (k+1) _ _ (λj I=>by have:=x (j+1) (by simp;omega);simpa [vQ,Nat.add_comm 1 j]using this) (by omega) (v.set f (by omega)) (λj I=>by
    by_cases e:j=k
    .subst e;simp[Array.getD_eq_getD_getElem?,r]
    .have:=s j (by omega);rw[Array.getD_eq_getD_getElem?,vI (by omega)]
     simpa [Array.getD_eq_getD_getElem?]using this) w M)
def Ax(X:Nat->Prop)(df:Nat)(σ:ae)(s:Nat)(t0:TypeId)(z:List Value)(w0:World)(g:Option Nat)(w:World)(a:List D)(fr:Act):Prop:=match g with
 |none=>St w X df a σ fr
 |some b=>St w (λx=>X x\/x=b) df a σ fr/\w0.heap.size<=b/\w.heap[b]?=some (.cells z.toArray t0 (0,0))/\fr.tmps[s]?=some (.pointer (some ⟨b,0,none⟩))/\¬ay σ X b
def Ax.step{X:Nat->Prop}{s:Nat}{t0:TypeId}{z:List Value}{w0 w w':World}{g:Option Nat}{fr:Act}{dst:Option Tmp}{d:D}{u:Value}(h:Ax X df σ s t0 z w0 g w a fr)(hx:Ex w w')(j:∀f,(g=none->f=X)->(∀b,g=some b->f=λx=>X x\/x=b)->Rd w' (ay σ f) d u)(c:dst≠some s) :
  Ax X df σ s t0 z w0 g w' (aK a dst d) (fr.put dst u):=by
 cases g with
 |none=>exact(St.ex h hx).put (j X (λ_=>rfl) (λb e=>by cases e)) dst
 |some b=>
  obtain⟨o,n,l,k,m⟩:=h;refine⟨(o.ex hx).put (j _ (λe=>by cases e) (λp e=>by cases e;rfl)) dst,n,(hx.block b (zX.1 l).1).trans l,?_,m⟩
  cases dst with
  |none=>exact k
  |some i=>
   have:i≠s:=λe=>c (by rw[e]);simp[Act.put,this,k]
variable{X:Nat->Prop}{s:Nat}{t0:TypeId}{fr:Act}
def Ax.some_st{z:List Value}{w0 w:World}{g:Option Nat}(h:Ax X df σ s t0 z w0 g w a fr) :
  ∃c:Nat->Prop,(g=none->c=X)/\(∀b,g=some b->c=λx=>X x\/x=b)/\St w c df a σ fr:=by
 cases g with
 |none=>exact⟨X,(λ_=>rfl),(λb e=>by cases e),h⟩
 |some b=>exact⟨_,(λe=>by cases e),(λd e=>by cases e;rfl),h.1⟩
def Ax.made{w0 w:World}(c:St w X df a σ fr)(f:Ex w0 w)(cs:Array Value)(t:s<fr.tmps.size) :
  Ax X df σ s t0 cs.toList w0 (some w.heap.size) (w.alloc (.cells cs t0)) (aK a (some s) .any) (fr.put (some s) (.pointer (some ⟨w.heap.size,0,none⟩))):=by
 have hx:Ex w (w.alloc (.cells cs t0)):=(Ex.refl w).alloc;have O:∀x,x<w.heap.size->¬ay σ X x->¬ay σ (λx=>X x\/x=w.heap.size) x:=by
  intro x l n e;rcases e with(e|e)|e
  .exact n (.inl e)
  .omega
  .exact n (.inr e)
 have S:∀x,x<w.heap.size->¬ay σ X x->(w.alloc (.cells cs t0)).heap[x]?=w.heap[x]?:=λx l _=>hx.block x l;refine⟨St.put (⟨c.fr.keep hx.size O S,⟨c.st.nodup,λb k m=>?_,λb d=>?_,c.st.gok.keep hx.size O S (λb d=>?_)⟩,c.df.keep hx.size O S⟩:St (w.alloc (.cells cs t0)) (λx=>X x\/x=w.heap.size) df a σ fr) (.any _) (some s),f.size,?_,?_,Se c.st (zT _)⟩
 .obtain⟨p,o,i,j⟩:=c.st.at_ b k m;have g:=(zX.1 i).1;refine⟨λh=>?_,o,(hx.block b g).trans i,tK hx.size O S j⟩;rcases h with h|h
  .exact p h
  .omega
 .rcases d with d|rfl
  .exact yI (c.st.xlt b d) hx.size
  .simp
 .rcases d with(d|rfl)|d
  .exact yI (c.st.xlt b d) hx.size
  .simp
  .exact yI (c.st.lt d) hx.size
 .unfold World.alloc;simp
 .simp[Act.put,t]
def ar2{l:Array Bool}{i j:Nat}{b:Bool}(h:i≠j):(l.setIfInBounds i true).getD j b=l.getD j b:=by
 simp only[Array.getD_eq_getD_getElem?,vI h]
def ap9{m g i0 s:Nat}{t0:TypeId}{Z:List Value}{o0:Oper}{L:Array Bool->List D->Prop}{Q':Exit->Act->World->Prop}{X:Nat->Prop}{w0:World}
  (S:ops[i0]?=some o0) (J:o0.op= .alloc t0) (C:o0.dst=some s) (B:o0.guard=none) (Q:∀(j:Nat)o,ops[j]?=some o->o.dst=some s->j=i0) (H:s<a.length)
  (c:∀w,∃z,(zeroValue t0).run P w= .ok z w/\z.cells.toList=Z)
  (Y:∀l a A w b,Ex w0 w->Ax X df σ s t0 Z w0 (some b) w a A->L l a->wpAnyIn (FW r) n P md ops Q' g l A w)
  (E:∀l a,L l a->l.getD i0 false=true) :
  ∀(f:Nat)(l:Array Bool)(a:List D)(A:Act)(w:World)(q:Option Nat),s<a.length->Ex w0 w->Ax X df σ s t0 Z w0 q w a A->i0<l.size->(q=none->l.getD i0 true=false)->(∀b,q=some b->l.getD i0 false=true) ->
   jE (some (s,t0)) P md ops σ m L f l a->wpAnyIn (FW r) n P md ops Q' (f+g) l A w
 |0,l,a,A,w,q,I,hx,R,y,hn,hb,h=>by
  rw[xD]
  cases q with
  |none=>have F:=E _ _ h;rw[getD_both (hn rfl)]at F;cases F
  |some b=>exact Y _ _ _ _ _ hx R h
 |f+1,l,a,A,w,q,I,hx,R,y,hn,hb,h=>by
  rw[show f+1+g=(f+g)+1 by omega];refine⟨λhh=>absurd hh h.1,λi hi=>?_⟩;have h2:=(h.2 i hi).2;obtain⟨hun,t,p,_⟩:=mem_ready.1 hi;have O:∀d,s<(aK a t.dst d).length:=λd=>by cases t.dst<;>simp[aK,I]
  unfold aOp at h2;unfold wpOpIn;simp only[p]at h2⊢;obtain⟨X',hX1,hX2,G⟩:=R.some_st;rcases h2 with⟨k1,k2,d,k3,k4⟩|⟨k1,k2⟩
  .rw[if_pos (by rw[NS G.fr k1])];refine⟨hY t w _,?_⟩;rw[show(FW r).round=r from rfl,ax4 k2];rcases k3 with⟨q1,q2⟩|⟨q1,⟨s',t',q2,q3,q4⟩,rfl⟩
   .have K:t.dst≠some s:=λe=>by simp[rG,e]at q1
    have k:i≠i0:=λe=>by subst e;rw[S]at p;cases p;exact K C
    have F:=q2 w X' A.eval (λx _=>G.fr.eval x) G.st;generalize(execOp A.eval t).run P w=res at F;have T:∀{N:World}{u:Value},Ex w N->Rd N (ay σ X') d u->Ax X df σ s t0 Z w0 q N (aK a t.dst d) (A.put t.dst u):=λhxx hr=>R.step hxx (λX'' e1 e2=>by
     have:X''=X':=by
      cases q with
      |none=>rw[e1 rfl,hX1 rfl]
      |some b=>rw[e2 b rfl,hX2 b rfl]
     rw[this];exact hr) K
    have V:q=none->(l.setIfInBounds i true).getD i0 true=false:=λe=>by rw[ar2 k];exact hn e
    have W:∀b,q=some b->(l.setIfInBounds i true).getD i0 false=true:=λb e=>by rw[ar2 k];exact hb b e
    cases res with
    |ok x N=>
     cases x<;>simp only[YU]at F
     case value u=>exact ap9 S J C B Q H c Y E f _ _ _ _ q (O d) (hx.trans F.1) (T F.1 F.2) (by simpa using y) V W k4
     case enter fn args=>
      obtain⟨rfl,hc⟩:=F;refine⟨λhd=>by simp[FW,Fence.wide]at hd,?_⟩;have hc':CallsIn Fence.wide (n-1) P fn args N _:=callsIn_wide.2 hc;have:CallsIn (FW r) (n-1) P fn args N _:=hc';refine this.mono λe w'' he=>?_;obtain⟨u,rfl,U,hr2⟩:=he;exact ap9 S J C B Q H c Y E f _ _ _ _ q (O d) (hx.trans U) (T U hr2) (by simpa using y) V W k4
    |halt x N=>simp only[YU]at F
   .cases q2
    have k:i=i0:=Q i t p q4;subst k;have hgh:q=none:=by
     cases q with
     |none=>rfl
     |some b=>have h3:=hb b rfl;rw[getD_both hun]at h3;cases h3
    subst hgh;have M:St w X df a σ A:=R;obtain⟨z,z1,z2⟩:=c w;have e:(execOp A.eval t).run P w= .ok (.value (.pointer (some ⟨w.heap.size,0,none⟩))) (w.alloc (.cells z.cells t0)):=by
     simp only[execOp,q3,Sem.run_bind,Instr.alloc,z1,Result.andThen,newVar,newRow,newObj]
     rfl
    rw[e];have hm:=Ax.made (t0:=t0) M hx z.cells (by rw[M.fr.size];exact I);rw[z2]at hm;rw[q4]at k4
    show wpAnyIn _ _ _ _ _ _ _ _ (A.put t.dst _) _;rw[q4];refine ap9 S J C B Q H c Y E f _ _ _ _ (some w.heap.size) (by simpa [aK]using I) (hx.trans ((Ex.refl w).alloc)) hm (by simpa using y) (λe=>by cases e) (λb _=>?_) k4;simp[Array.getD_eq_getD_getElem?,y]
  .rw[if_neg (by rw[NS G.fr k1];simp)];have k:i≠i0:=λe=>by
    subst e;rw[S]at p;cases p
    simp[gK,B]at k1
   have K:t.dst≠some s:=λe=>k (Q i t p e);refine⟨hY t w _,ap9 S J C B Q H c Y E f _ _ _ _ q (O _) hx (R.step (Ex.refl w) (λ_ _ _=>.v _) K) (by simpa using y) (λe=>by rw[ar2 k];exact hn e) (λb e=>by rw[ar2 k];exact hb b e) k2⟩
def mB{id:Nat}{l:List Oper}(m i0 s:Nat)(t0:TypeId)(o0:Oper){T:TypeId->Option TI}(hT:∀t i,T t=some i->aH P t=some i){c:TI}(W:T t0=some c)(hz:c.zero.length=c.size)(hp:0<c.size)(hm:P.follows .mixedOrders=true)(hB:Region.lexTailB .any l.toArray m=true)
  (h0:l[i0]?=some o0) (him:i0<m) (hop:o0.op= .alloc t0) (hd0:o0.dst=some s) (hg0:o0.guard=none) (hu:∀(j:Nat)o,l[j]?=some o->o.dst=some s->j=i0) (K:s<a.length)
  (h:sx (some (s,t0)) P l.toArray σ (λS=>S.length=a.length/\∀b,bW P r n df l.toArray Q (l.drop m) (S.set s (.v (.pointer (some ⟨b,0,none⟩)))) ((b,.cells t0 (c.zero.map λz=>.v (zv z)))::σ)) (l.take m) a):ey P r n df (.region id l.toArray true) Q a σ:=by
 refine⟨λw X fr hs=>?_⟩;simp only[Region.lexTailB,zJ,zQ]at hB;obtain⟨⟨⟨⟨hsel,B⟩,Y⟩,hc⟩,M⟩:=hB;have hn':m<l.length:=by simpa using B
 have q:(l.take m).length=m:=by simp;omega
 have R:(l.drop m).length=l.toArray.size-m:=by simp
 have J:HeadInv .any l.toArray m (Array.replicate l.toArray.size false):=
  ⟨by simp,λj oj _ hl=>(by rw[getD_replicate_false]at hl;cases hl),λt _ W=>getD_in (by simpa using W) (getD_replicate_false _ _)⟩
 have H:=aX7 (md:=.any) (g:=l.toArray.size-m) (λi ls hi i1 i2=>tail_waits Y hc B i1 _ i rfl hi i2) (l.take m) 0 _ a (λj N=>by
  have hj':j<m:=by rw[q]at N;exact N
  simp[hj']) (by simpa using q) J (λj N=>by omega) (by rw[q];exact M) h
 refine wpIn_region_any hm ?_;have E:=QI w;have C:∀w,∃z,(zeroValue t0).run P w= .ok z w/\z.cells.toList=c.zero.map zv:=λw=>QK (hT t0 c W) hz hp w;have:=ap9 (r:=r) (n:=n) (df:=df) (Q':=Pw w X df σ Q) (g:=l.toArray.size-m) (X:=X) (w0:={ w with drawn:=w.drawn+1 }) (i0:=i0) (o0:=o0) (a:=a) (by simpa using h0) hop hd0 hg0 (λj o N=>hu j o (by simpa using N)) K C
  (λf S G A b V Z U=>by
   obtain⟨F,g2,g3,g4,g5⟩:=Z;have y:∀x,ay ((b,ax.cells t0 (c.zero.map λz=>.v (zv z)))::σ) X x↔ay σ (λx=>X x\/x=b) x:=by
    intro x;simp only[ay,aT,List.map_cons,zU];constructor
    .rintro(h|h|h)
     .exact .inl (.inl h)
     .exact .inl (.inr h)
     .exact .inr h
    .rintro((h|h)|h)
     .exact .inl h
     .exact .inr (.inl h)
     .exact .inr (.inr h)
   have hkp:∀{d:D}{u:Value},Rd A (ay σ (λx=>X x\/x=b)) d u->Rd A (ay ((b,ax.cells t0 (c.zero.map λz=>.v (zv z)))::σ) X) d u:=λh=>h.keep (zT _) (λx _ B L=>B ((y x).1 L)) (λ_ _ _=>rfl);have hbs:b<A.heap.size:=(zX.1 g3).1;have hSt:St A X df (S.set s (.v (.pointer (some ⟨b,0,none⟩)))) ((b,.cells t0 (c.zero.map λz=>.v (zv z)))::σ) G:=by
    refine⟨⟨by simp[F.fr.size],λi d I=>?_⟩,⟨?_,λb' k p=>?_,λx hx=>F.st.xlt x (.inl hx),F.st.gok.mono (λx hx=>(y x).1 hx)⟩,F.df.keep (zT _) (λx _ B L=>B ((y x).1 L)) (λ_ _ _=>rfl)⟩
    .rw[xP]at I;split at I
     .rename_i e;subst e;split at I
      .cases I;exact⟨_,g4,.v _⟩
      .cases I
     .obtain⟨u,k1,k2⟩:=F.fr.at_ i d I;exact⟨u,k1,hkp k2⟩
    .simp only[aT,List.map_cons,wZ];exact⟨λp=>g5 (.inr p),F.st.nodup⟩
    .rcases zU.1 p with e|p
     .cases e
      refine⟨λhX=>g5 (.inl hX),_,g3,(c.zero.map zv),rfl,?_⟩;have:=My (w:=A) (O:=ay ((b,ax.cells t0 (c.zero.map λz=>.v (zv z)))::σ) X) (c.zero.map zv);rw[vA]at this;exact this
     .obtain⟨q1,o,q2,q3⟩:=F.st.at_ b' k p;exact⟨λhX=>q1 (.inl hX),o,q2,tK (zT _) (λx _ B L=>B ((y x).1 L)) (λ_ _ _=>rfl) q3⟩
   have hMv:Mv w σ A ((b,.cells t0 (c.zero.map λz=>.v (zv z)))::σ):=by
    refine⟨(E.trans V).keep,λx hx=>?_⟩;simp only[aT,List.map_cons,zU]at hx;rcases hx with rfl|hx
    .exact .inr (xH E.size g2)
    .exact .inl hx
   have:=av7 (md:=.any) (Q':=Pw w X df σ Q) (l.drop m) m f G A (λj=>by simp[xR]) (by rw[R];exact U.1)
    (K7 (λe a w'' hp=>pA2 hMv hp) _ _ _ ((U.2.2.2 b).run A X G hSt))
   rwa [R]at this)
  (λf S U=>U.2.1 i0 him) _ _ _ fr _ none K (Ex.refl _) (show Ax X df σ s t0 _ _ none _ a fr from hs.ex E) (by have:=(zE.1 h0).1;simpa using this) (λ_=>getD_in (by have:=(zE.1 h0).1;simpa using this) (getD_replicate_false _ _)) (λb e=>by cases e) H
 rw[q,show m+(l.toArray.size-m)=l.toArray.size by omega]at this;exact this
end
end
section
open Go Go.RowKit Go.Shelf
section
variable {P:Program} {r:Option Nat} {n:Nat} {df:Nat} {ops:Array Oper} {Q:fG} {a:List D} {σ:ae} {md:Region.Mode}
def only(L:List Tmp)(a:List D):List D:=a.mapIdx λi d=>if i∈L then d else .any
def ox(L:List Tmp)(a:List D):(only L a).length=a.length:=by simp[only]
variable{d:D}
def ow{L:List Tmp}{dst:Option Tmp}(h:∀i,dst=some i->i ∉ L):only L (aK a dst d)=only L a:=by
 cases dst with
 |none=>rfl
 |some i=>
  refine xY λj=>?_;simp only[only,aK,List.getElem?_mapIdx,xP];by_cases e:i=j
  .subst e;have:=h i rfl;by_cases hl:i<a.length
   .simp[hl,this]
   .simp[hl]
  .simp[e]
variable{X:Nat->Prop}{w:World}{fr:Act}
def St.mask(L:List Tmp)(h:St w X df a σ fr):St w X df (only L a) σ fr:=by
 refine⟨⟨by rw[ox];exact h.fr.size,λi d b=>?_⟩,h.st,h.df⟩;simp only[only,List.getElem?_mapIdx,xN]at b;obtain⟨d0,f,e⟩:=b;obtain⟨u,c,k⟩:=h.fr.at_ i d0 f;refine⟨u,c,?_⟩;subst e;split
 .exact k
 .exact .any _
def St.back{w':World}{dst:Option Tmp}{σ':ae}{f:Act}(h:St w X df a σ fr)(q:Mv w σ w' σ'){s:List D}(l:St w' X df s σ' f)(z:s.length=a.length)(B:∀i,dst=some i->i<a.length->s[i]?=some d)(k:∃u,f.tmps=(fr.put dst u).tmps):St w' X df (aK a dst d) σ' f:=by
 obtain⟨u,k⟩:=k;have keep:∀{e:D}{v:Value},Rd w (ay σ X) e v->Rd w' (ay σ' X) e v:=λh=>h.keep q.keep.size (λb x n o=>by
  rcases o with o|o
  .exact n (.inl o)
  .rcases q.new b o with y|y
   .exact n (.inr y)
   .omega) (λb x n=>q.keep.block b x (λA=>n (.inr A)))
 refine⟨⟨?_,λi e g=>?_⟩,l.st,l.df⟩
 .have:=l.fr.size
  cases dst<;>simpa [aK,z]using this
 .cases dst with
  |none=>
   obtain⟨v,p,m⟩:=h.fr.at_ i e g;exact⟨v,by rw[k];exact p,keep m⟩
  |some j=>
   by_cases c:j=i
   .subst c;refine l.fr.at_ j e ?_;simp only[aK,xP,if_true]at g;split at g
    .rename_i t;rw[B j rfl t];exact g
    .cases g
   .have r:a[i]?=some e:=by simpa [aK,xP,c]using g
    obtain⟨v,p,m⟩:=h.fr.at_ i e r;exact⟨v,by rw[k];simpa [Act.put,vI c]using p,keep m⟩
variable{i:Nat}{o:Oper}
def rk{F:Fence}{Q Q':Exit->Act->World->Prop}(t:ops[i]?=some o)(q:∀e a w,Q e a w->e= .normal)(h:wpListIn F n P ops Q [o] fr w) :
  wpOpIn F n P ops Q' i (λj k=>Q .normal j k/\∃u,j.tmps=(fr.put o.dst u).tmps) fr w:=by
 unfold wpOpIn;simp only[t];unfold wpListIn at h;split at h
 .rename_i l;rw[if_pos l];unfold Oper.wpIn at h⊢;refine⟨h.1,?_⟩;have m:=h.2;generalize(o.semAt F.round fr.eval).run P w=r at *
  cases r with
  |ok x k=>
   cases x<;>simp only[Oper.uponIn]at m⊢
   case value u=>exact⟨m,u,rfl⟩
   case skip=>exact⟨m,undef,rfl⟩
   case defer d=>exact⟨m,undef,by cases o.dst<;>rfl⟩
   case enter f args=>
    refine⟨m.1,m.2.mono λe g b=>?_⟩
    cases e with
    |returned v=>exact⟨b,v,rfl⟩
    |panicked c=>have:=q _ _ _ b;cases this
    |outgrown=>obtain⟨y,s,p⟩:=b;have:=q _ _ _ p;cases this
   case row=>exact⟨m.1,m.2.mono λv g b=>⟨b,v,rfl⟩⟩
   case round=>
    refine⟨m.1,m.2.mono λe g b=>?_⟩
    cases e with
    |returned v=>exact⟨b,v,rfl⟩
    |panicked c=>have:=q _ _ _ b;cases this
    |outgrown=>obtain⟨y,s,p⟩:=b;have:=q _ _ _ p;cases this
  |halt x k=>cases x<;>simp only[Oper.uponIn]at m⊢ <;> first|exact m.elim|(have:=q _ _ _ m;cases this)
 .rename_i l;rw[if_neg l];exact⟨h.1,h.2,undef,rfl⟩
def Sw(P:Program)(r:Option Nat)(n:Nat)(df:Nat)(ops:Array Oper)(o:Oper)(K:List D->ae->Prop)(a:List D)(σ:ae):Prop:=
 bW P r n df ops (λe b σ'=>e= .normal/\b.length=a.length/\∃d,(∀i,o.dst=some i->i<a.length->b[i]?=some d)/\K (aK a o.dst d) σ') [o] (only (o.looksAt ops) a) σ
def dA(P:Program)(r:Option Nat)(n:Nat)(df:Nat)(ops:Array Oper)(E:Nat->Bool)(i:Nat)(K:List D->ae->Prop)(a:List D)(σ:ae):Prop:=match ops[i]? with
 |none=>False
 |some o=>match E i with
  |false=>∃d,cq none P ops σ o d a/\K (aK a o.dst d) σ
  |true=>Sw P r n df ops o K a σ
def jr(P:Program)(r:Option Nat)(n:Nat)(df:Nat)(md:Region.Mode)(ops:Array Oper)(E:Nat->Bool)(L:List D->ae->Prop):Nat->Array Bool->List D->ae->Prop
 |0,l,a,σ=>Region.ready md ops l=[]/\L a σ
 |f+1,l,a,σ=>Region.ready md ops l≠[]/\∀i∈Region.ready md ops l,dA P r n df ops E i (jr P r n df md ops E L f (l.setIfInBounds i true)) a σ
variable{K:List D->ae->Prop}
def Sw.mono{b:List D->ae->Prop}(h:∀a σ,K a σ->b a σ)(c:Sw P r n df ops o K a σ):Sw P r n df ops o b a σ:=
 ⟨λw X l s=>K7 (λe a w⟨m,σ',⟨j,k,d,i,g⟩,f⟩=>⟨m,σ',⟨j,k,d,i,h _ _ g⟩,f⟩) _ _ _ (bW.run c w X l s)⟩
variable{E:Nat->Bool}
def cK{f:List D->ae->Prop}(h:∀a σ,K a σ->f a σ)(b:dA P r n df ops E i K a σ):dA P r n df ops E i f a σ:=by
 unfold dA at *;split
 .rename_i c;simp only[c]at b
 .rename_i o c;simp only[c]at b;split
  .rename_i e;simp only[e]at b;obtain⟨d,j,g⟩:=b;exact⟨d,j,h _ _ g⟩
  .rename_i e;simp only[e]at b;exact b.mono h
variable{p:Prop}
def Zq(h:p:=by
 refine⟨e,?_,hS,λs hs=>(hy s hs).put h3,by rw[←aw6 a d e h2];exact k2⟩;unfold cq at *;rw[aE0 h1]at k1;rcases k1 with⟨q1,q2,q3⟩|q
 .exact .inl ⟨q1,q2,q3.congr (λx hx=>(bd4 λi hi=>at8 (h1 i hi) x hx).symm)⟩
 .exact .inr q):p:=h
variable{S:ae->Prop}
def JY{j:Nat}{k:Oper}(v:ops[j]?=some k)(c:o.apart ops k=true)
  (y:E j=true->∀s,S s) (hS:S σ) (hy:∀s,S s->cq none P ops s o d a) (h:dA P r n df ops E j K (aK a o.dst d) σ) :
  dA P r n df ops E j (λg σ'=>S σ'/\(∀s,S s->cq none P ops s o d g)/\K (aK g o.dst d) σ') a σ:=by
 obtain⟨h1,h2,h3⟩:=Oper.apart_spec c;unfold dA at *;simp only[v]at *
 cases b:E j with
 |false=>
  simp only[b]at h⊢;obtain⟨e,k1,k2⟩:=h;exact Zq
 |true=>
  simp only[b]at h⊢;unfold Sw at *;rw[ow h1]at h;refine⟨λw X z hs=>K7 (λe g A⟨f,σ',⟨q1,t,l,q2,q3⟩,m⟩=>⟨f,σ',⟨q1,by rw[t];cases o.dst<;>simp[aK],l,(λi hi u=>q2 i hi (by cases o.dst<;>simpa [aK]using u)),y b σ',λs hs=>(hy s hs).put h3,?_⟩,m⟩) _ _ _ (h.run w X z hs)⟩;rw[←aw6 a d l h2];exact q3
def ar1{y:Oper}{L:List D->ae->Prop}(J:ops[i]?=some y)(x:E i=false)
  (R:∀l,HeadInv md ops ops.size l->l.getD i true=false->∀j∈Region.ready md ops l,E j=true->∀s,S s) :
  ∀(f:Nat)(l:Array Bool)(a:List D)(σ:ae),HeadInv md ops ops.size l ->
   (∀j o,ops[j]?=some o->j≠i->l.getD j true=false->(∀e∈o.after,Region.binds md e=true->e.on≠i)->y.apart ops o=true) ->
   i∈Region.ready md ops l->S σ->(∀s,S s->cq none P ops s y d a) ->
   jr P r n df md ops E L f (l.setIfInBounds i true) (aK a y.dst d) σ->jr P r n df md ops E L (f+1) l a σ:=by
 intro f
 induction f with
 |zero=>
  intro l a σ v _ g A z H;refine⟨λh=>(by rw[h]at g;cases g),λj q=>?_⟩;by_cases b:j=i
  .subst b;unfold dA;simp only[J,x];exact⟨d,z _ A,H⟩
  .have:=ready_mono q b;rw[H.1]at this
   cases this
 |succ f M=>
  intro l a σ v c g A z H;have t:=(mem_ready.1 g).1;refine⟨λh=>(by rw[h]at g;cases g),λj q=>?_⟩;by_cases b:j=i
  .subst b;unfold dA;simp only[J,x];exact⟨d,z _ A,H⟩
  .obtain⟨hjun,o,m,w⟩:=mem_ready.1 q;have F:j<ops.size:=(zX.1 m).1;have u:∀e∈o.after,Region.binds md e=true->e.on≠i:=λe O Q G=>by
    have K:=w e O Q;rw[G,getD_both t]at K
    cases K
   have T:=JY m (c j o m b hjun u) (R l v t j q) A z (H.2 j (ready_mono q b));refine cK (λU σ' I=>M (l.setIfInBounds j true) U σ' (v.set q F) (λk ok N C hunk B=>c k ok N C ?_ B) (ready_mono g (Ne.symm b)) I.1 I.2.1 ?_) T
   .exact EY
   .rw[Array.setIfInBounds_comm _ _ b];exact I.2.2
def x7(md:Region.Mode)(ops:Array Oper)(i:Nat):List Nat->List Nat->List Nat
 |[],a=>a
 |j::l,a=>x7 md ops i l (bif a.any (λk=>Region.waitsFor md ops j k)then j::a else a)
def Ky(md:Region.Mode)(ops:Array Oper)(E:Nat->Bool)(i:Nat):Bool:=
 (List.range ops.size).all λe=>!E e||(x7 md ops i (List.range ops.size) []).contains e||(x7 md ops i (List.range ops.size) [i]).contains e && !Nat.beq e i
def wK:=@Option.some.inj
def mi{d:Array Bool}{i:Nat}(v:HeadInv md ops ops.size d)(o:d.getD i true=false) :
  ∀(l a:List Nat),(∀k∈a,d.getD k false=false/\(k=i\/k ∉ Region.ready md ops d))->∀k∈x7 md ops i l a,d.getD k false=false/\(k=i\/k ∉ Region.ready md ops d)
 |[],a,h,k,b=>h k b
 |j::l,a,h,k,b=>by
  refine mi v o l _ (λk b=>?_) k b
  cases r:a.any (λk=>Region.waitsFor md ops j k)with
  |false=>rw[r]at b;exact h k b
  |true=>
   rw[r]at b;rcases zU.1 b with rfl|b
   .obtain⟨x,q,y⟩:=wC.1 r;obtain⟨s,c,e,t,f,n⟩:=Region.waitsFor_spec y;have u:=(h x q).1;constructor
    .cases A:d.getD k false with
     |false=>rfl
     |true=>have m:=v.closed k s c A e t f;rw[n,u]at m;cases m
    .refine .inr λz=>?_;obtain⟨_,w,p,g⟩:=mem_ready.1 z;have:w=s:=wK (p.symm.trans c);subst this;have m:=g e t f;rw[n,u]at m
     cases m
   .exact h k b
def Kx(h:Ky md ops E i=true)(d:Array Bool)(v:HeadInv md ops ops.size d)(n:d.getD i true=false)(j:Nat)(g:j∈Region.ready md ops d):E j=false:=by
 cases o:E j with
 |false=>rfl
 |true=>
  exfalso;obtain⟨_,q,b,_⟩:=mem_ready.1 g;have f:j<ops.size:=(zX.1 b).1;have a:=yA.1 h j (xT.2 f);simp only[o,Bool.not_true,Bool.false_or,xO,zJ,List.contains_iff_mem,xJ]at a;rcases a with a|⟨a,p⟩
  .have:=mi v n _ [] (λk c=>by cases c) j a;rcases this.2 with e|e
   .subst e;have:∀(l:List Nat),x7 md ops j l []=[]:=λl=>by induction l with
     |nil=>rfl
     |cons x l m=>simpa [x7]using m
    rw[this]at a;cases a
   .exact e g
  .have:=mi v n _ [i] (λk c=>by
    have:k=i:=by simpa using c
    subst this;exact⟨getD_both n,.inl rfl⟩) j a
   rcases this.2 with e|e
   .subst e;simp at p
   .exact e g
def nX(md:Region.Mode)(ops:Array Oper):List Nat->Array Bool->Bool
 |[],d=>(Region.ready md ops d).isEmpty
 |k::l,d=>decide (Region.ready md ops d=[k])&&nX md ops l (d.setIfInBounds k true)
def DH(md:Region.Mode)(ops:Array Oper)(E:Nat->Bool)(r:List Nat):List Nat->Array Bool->Bool
 |[],l=>nX md ops r l
 |i::h,l=>(Region.ready md ops l).contains i&&Region.free md ops l i && !E i&&DH md ops E r h (l.setIfInBounds i true)
def Em(P:Program)(r:Option Nat)(n:Nat)(df:Nat)(ops:Array Oper)(E:Nat->Bool)(L:List D->ae->Prop):List Nat->List D->ae->Prop
 |[],a,σ=>L a σ
 |k::l,a,σ=>dA P r n df ops E k (Em P r n df ops E L l) a σ
def jV(P:Program)(md:Region.Mode)(ops:Array Oper)(E:Nat->Bool)(L:List D->ae->Prop):List Nat->List D->ae->Prop
 |[],a,σ=>L a σ
 |i::h,a,σ=>∃o d,ops[i]?=some o/\((Ky md ops E i=true/\cq none P ops σ o d a)\/cq none P ops [] o d a)/\jV P md ops E L h (aK a o.dst d) σ
def aR9{E:Nat->Bool}{L:List D->ae->Prop}:∀(l:List Nat)(d:Array Bool)(a:List D)(σ:ae),nX md ops l d=true->Em P r n df ops E L l a σ->jr P r n df md ops E L l.length d a σ
 |[],d,a,σ,B,h=>⟨by simpa [nX]using B,h⟩
 |k::l,d,a,σ,B,h=>by
  simp only[nX,zJ,zQ]at B;refine⟨λc=>(by rw[B.1]at c;cases c),λi b=>?_⟩;rw[B.1]at b;have:i=k:=by simpa using b
  subst this;exact cK (λf σ' e=>aR9 l _ f σ' B.2 e) h
def Yd.free{ρ:Operand->D}(h:Yd P o ρ [] d):Yd P o ρ σ d:=by
 intro w X η j s;have i:∀x,ay [] (ay σ X) x↔ay σ X x:=λx=>⟨λh=>h.elim id (λh=>by cases h),.inl⟩
 have t1:∀{a:World}{d:D}{u:Value},Rd a (ay σ X) d u->Rd a (ay [] (ay σ X)) d u:=λh=>h.keep (zT _) (λx _ n l=>n ((i x).1 l)) (λ_ _ _=>rfl);have t2:∀{a:World}{d:D}{u:Value},Rd a (ay [] (ay σ X)) d u->Rd a (ay σ X) d u:=λh=>h.keep (zT _) (λx _ n l=>n ((i x).2 l)) (λ_ _ _=>rfl);have c:=h w (ay σ X) η (λx hx=>t1 (j x hx)) ⟨List.nodup_nil,λb k v=>(by cases v),λb g=>by
  rcases g with g|g
  .exact s.xlt b g
  .exact s.lt g,s.gok.mono (λx hx=>(i x).1 hx)⟩
 generalize(execOp η o).run P w=r at c
 cases r with
 |ok x a=>
  cases x<;>simp only[YU]at c⊢
  case value u=>exact⟨c.1,t2 c.2⟩
  case enter f args=>exact⟨c.1,c.2.mono λe m⟨u,t,p,q⟩=>⟨u,t,p,t2 q⟩⟩
 |halt x a=>simp only[YU]at c
def cq.free(h:cq none P ops [] o d a)(s:ae):cq none P ops s o d a:=by
 rcases h with⟨e,c,b⟩|h
 .exact .inl ⟨e,c,.of b.yd.free⟩
 .exact .inr h
def Qi(h:p:=by
 exact ar1 (S:=λs=>s=σ) ho hE (λls i1 i2 j hj e=>by rw[Kx hb ls i1 i2 j hj]at e;cases e) _ listed a σ inv (Region.free_spec ho hf) hr' rfl (λs e=>by subst e;exact hy) H):p:=h
def Fa(h:p:=by
 exact ar1 (S:=λ_=>True) ho hE (λ_ _ _ _ _ _ _=>trivial) _ listed a σ inv (Region.free_spec ho hf) hr' trivial (λs _=>hy.free s) H):p:=h
def aS0{E:Nat->Bool}{L:List D->ae->Prop}{t:List Nat}:∀(b:List Nat)(listed:Array Bool)(a:List D)(σ:ae),HeadInv md ops ops.size listed->DH md ops E t b listed=true ->
  jV P md ops E (Em P r n df ops E L t) b a σ->jr P r n df md ops E L (b.length+t.length) listed a σ
 |[],listed,a,σ,inv,B,h=>by
  rw[show([]:List Nat).length+t.length=t.length by simp];exact aR9 t listed a σ B h
 |i::b,listed,a,σ,inv,B,h=>by
  simp only[DH,zJ,xJ]at B;obtain⟨⟨⟨g,hf⟩,hE⟩,f⟩:=B;obtain⟨o,d,ho,hy,k⟩:=h;have hr':i∈Region.ready md ops listed:=by simpa using g
  have c:i<ops.size:=(zX.1 ho).1;have H:=aS0 b _ _ _ (inv.set hr' c) f k;rw[show(i::b).length+t.length=(b.length+t.length)+1 by simp;omega];rcases hy with⟨hb,hy⟩|hy
  .exact Qi
  .exact Fa
inductive ne where
 |done
 |one (i:Nat) (t:ne)
 |two (i:Nat) (t:ne) (j:Nat) (u:ne)
 |three (i:Nat) (t:ne) (j:Nat) (u:ne) (k:Nat) (v:ne)
def ir(md:Region.Mode)(ops:Array Oper):Nat->ne->Array Bool->Bool
 |0,.done,l=>(Region.ready md ops l).isEmpty
 |f+1,.one i t,l=>decide (Region.ready md ops l=[i])&&ir md ops f t (l.setIfInBounds i true)
 |f+1,.two i t j u,l=>decide (Region.ready md ops l=[i,j])&&(ir md ops f t (l.setIfInBounds i true)&&ir md ops f u (l.setIfInBounds j true))
 |f+1,.three i t j u k v,l=>decide (Region.ready md ops l=[i,j,k])&&(ir md ops f t (l.setIfInBounds i true)&&(ir md ops f u (l.setIfInBounds j true)&&ir md ops f v (l.setIfInBounds k true)))
 |_,_,_=>false
def iv(P:Program)(r:Option Nat)(n:Nat)(df:Nat)(ops:Array Oper)(E:Nat->Bool)(L:List D->ae->Prop):ne->List D->ae->Prop
 |.done,a,σ=>L a σ
 |.one i t,a,σ=>dA P r n df ops E i (iv P r n df ops E L t) a σ
 |.two i t j u,a,σ=>dA P r n df ops E i (iv P r n df ops E L t) a σ/\dA P r n df ops E j (iv P r n df ops E L u) a σ
 |.three i t j u k v,a,σ=>dA P r n df ops E i (iv P r n df ops E L t) a σ/\dA P r n df ops E j (iv P r n df ops E L u) a σ/\dA P r n df ops E k (iv P r n df ops E L v) a σ
def QT{E:Nat->Bool}{L:List D->ae->Prop}:∀(f:Nat)(t:ne)(d:Array Bool)(a:List D)(σ:ae),ir md ops f t d=true->iv P r n df ops E L t a σ->jr P r n df md ops E L f d a σ
 |0,.done,d,a,σ,B,h=>⟨by simpa [ir]using B,h⟩
 |f+1,.one i t,d,a,σ,B,h=>by
  simp only[ir,zJ,zQ]at B;refine⟨λg=>(by rw[B.1]at g;cases g),λk e=>?_⟩;rw[B.1]at e;have:k=i:=by simpa using e
  subst this;exact cK (λc σ' b=>QT f t _ c σ' B.2 b) h
 |f+1,.two i t j u,d,a,σ,B,h=>by
  simp only[ir,zJ,zQ]at B;refine⟨λg=>(by rw[B.1]at g;cases g),λk e=>?_⟩;rw[B.1]at e;have:k=i\/k=j:=by simpa using e
  rcases this with rfl|rfl
  .exact cK (λc σ' b=>QT f t _ c σ' B.2.1 b) h.1
  .exact cK (λc σ' b=>QT f u _ c σ' B.2.2 b) h.2
 |f+1,.three i t j u l v,d,a,σ,B,h=>by
  simp only[ir,zJ,zQ]at B;refine⟨λg=>(by rw[B.1]at g;cases g),λk e=>?_⟩;rw[B.1]at e;have:k=i\/k=j\/k=l:=by simpa using e
  rcases this with rfl|rfl|rfl
  .exact cK (λc σ' b=>QT f t _ c σ' B.2.1 b) h.1
  .exact cK (λc σ' b=>QT f u _ c σ' B.2.2.1 b) h.2.1
  .exact cK (λc σ' b=>QT f v _ c σ' B.2.2.2 b) h.2.2
 |0,.one _ _,_,_,_,B,_=>by cases B
 |0,.three _ _ _ _ _ _,_,_,_,B,_=>by cases B
 |0,.two _ _ _ _,_,_,_,B,_=>by cases B
 |_+1,.done,_,_,_,B,_=>by cases B
def kJ(md:Region.Mode)(ops:Array Oper)(E:Nat->Bool)(f:Nat)(t:ne):List Nat->Array Bool->Bool
 |[],l=>ir md ops f t l
 |i::h,l=>(Region.ready md ops l).contains i&&Region.free md ops l i && !E i&&kJ md ops E f t h (l.setIfInBounds i true)
def aK7{E:Nat->Bool}{L:List D->ae->Prop}{f:Nat}{t:ne}:∀(b:List Nat)(listed:Array Bool)(a:List D)(σ:ae),HeadInv md ops ops.size listed->kJ md ops E f t b listed=true ->
  jV P md ops E (iv P r n df ops E L t) b a σ->jr P r n df md ops E L (b.length+f) listed a σ
 |[],listed,a,σ,inv,B,h=>by
  rw[show([]:List Nat).length+f=f by simp];exact QT f t listed a σ B h
 |i::b,listed,a,σ,inv,B,h=>by
  simp only[kJ,zJ,xJ]at B;obtain⟨⟨⟨k,hf⟩,hE⟩,g⟩:=B;obtain⟨o,d,ho,hy,l⟩:=h;have hr':i∈Region.ready md ops listed:=by simpa using k
  have c:i<ops.size:=(zX.1 ho).1;have H:=aK7 b _ _ _ (inv.set hr' c) g l;rw[show(i::b).length+f=(b.length+f)+1 by simp;omega];rcases hy with⟨hb,hy⟩|hy
  .exact Qi
  .exact Fa
def NW{E:Nat->Bool}{X:Nat->Prop}{w0:World}{σ0:ae}:∀(f:Nat)(l:Array Bool)(a:List D)(σ:ae)(c:Act)(w:World),Mv w0 σ0 w σ->St w X df a σ c->jr P r n df md ops E (λa σ=>Q .normal a σ) f l a σ ->
  wpAnyIn (FW r) n P md ops (Pw w0 X df σ0 Q) f l c w
 |0,l,a,σ,c,w,m,s,h=>⟨h.1,a,σ,h.2,s,m⟩
 |f+1,l,a,σ,c,w,m,s,h=>by
  refine⟨λT=>absurd T h.1,λi M=>?_⟩;have g:=h.2 i M;unfold dA at g;split at g
  .exact g.elim
  .rename_i o F;split at g
   .obtain⟨d,J,A⟩:=g;unfold wpOpIn;simp only[F];rcases J with⟨y,I,H⟩|⟨y,rfl⟩
    .rw[if_pos (by rw[NS s.fr y])];refine⟨hY o w _,?_⟩;rw[show(FW r).round=r from rfl,ax4 I];have b:=H.yd w X c.eval (λx _=>s.fr.eval x) s.st;generalize(execOp c.eval o).run P w=t at b
     cases t with
     |ok x q=>
      cases x<;>simp only[YU]at b
      case value u=>exact NW f _ _ _ _ _ (m.trans (kE b.1)) ((s.ex b.1).put b.2 o.dst) A
      case enter fn args=>
       obtain⟨rfl,O⟩:=b;refine⟨λB=>by simp[FW,Fence.wide]at B,?_⟩;have C:CallsIn Fence.wide (n-1) P fn args q _:=callsIn_wide.2 O;have:CallsIn (FW r) (n-1) P fn args q _:=C;refine this.mono λe G N=>?_;obtain⟨u,rfl,j,z⟩:=N;exact NW f _ _ _ _ _ (m.trans (kE j)) ((s.ex j).put z o.dst) A
     |halt x q=>simp only[YU]at b
    .rw[if_neg (by rw[NS s.fr y];simp)];exact⟨hY o w _,NW f _ _ _ _ _ m (s.put (.v _) o.dst) A⟩
   .have S:=bW.run g w X c (s.mask _);refine wpOpIn_mono ?_ (rk (Q':=Pw w0 X df σ0 Q) F (λe a w⟨_,_,⟨h,_⟩,_⟩=>h) S);rintro U q ⟨⟨V,σ',⟨_,L,d,B,R⟩,k,p⟩,K⟩;exact NW f _ _ _ _ _ (m.trans p) (St.back s p k L B K) R
variable{l:List Oper}{id:Nat}
def mC(E:Nat->Bool)(s b:List Nat)(m:P.follows .mixedOrders=true)(d:s.length+b.length=l.length)(B:DH .any l.toArray E b s (Array.replicate l.length false)=true)
  (h:jV P .any l.toArray E (Em P r n df l.toArray E (λa σ=>Q .normal a σ) b) s a σ):ey P r n df (.region id l.toArray true) Q a σ:=by
 refine⟨λw X k f=>?_⟩;have i:HeadInv .any l.toArray l.toArray.size (Array.replicate l.length false):=
  ⟨by simp,λj o _ d=>(by rw[getD_replicate_false]at d;cases d),λt p g=>by omega⟩
 refine wpIn_region_any m ?_;have c:=QI w;have:=NW (w0:=w) (σ0:=σ) (X:=X) _ _ _ _ k { w with drawn:=w.drawn+1 } (kE c) (f.ex c) (aS0 s _ a σ i B h);rw[d]at this;have e:l.toArray.size=l.length:=by simp
 rw[e];exact this
def aL2(E:Nat->Bool)(s:List Nat)(f:Nat)(t:ne)(m:P.follows .mixedOrders=true)(c:s.length+f=l.length)(B:kJ .any l.toArray E f t s (Array.replicate l.length false)=true)
  (h:jV P .any l.toArray E (iv P r n df l.toArray E (λa σ=>Q .normal a σ) t) s a σ):ey P r n df (.region id l.toArray true) Q a σ:=by
 refine⟨λw X k d=>?_⟩;have i:HeadInv .any l.toArray l.toArray.size (Array.replicate l.length false):=
  ⟨by simp,λj o _ c=>(by rw[getD_replicate_false]at c;cases c),λt p g=>by omega⟩
 refine wpIn_region_any m ?_;have b:=QI w;have:=NW (w0:=w) (σ0:=σ) (X:=X) _ _ _ _ k { w with drawn:=w.drawn+1 } (kE b) (d.ex b) (aK7 s _ a σ i B h);rw[c]at this;have e:l.toArray.size=l.length:=by simp
 rw[e];exact this
end
end
end Go.Proofs.YtilnpcolgcmofaaGreatDoor
