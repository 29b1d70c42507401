/- A part of the proof. -/
import Derived.Test.YtilnpcolgcmofaaGreatDoorC01
import Derived.StillTail
import Derived.Laws.Cells
import Derived.Shelf.Abstract
import Derived.IntWalk
set_option maxRecDepth 100000
set_option maxHeartbeats 20000000
set_option linter.all false
namespace Go.Proofs.YtilnpcolgcmofaaGreatDoor
open Tryz
section
open Go Go.RowKit
def jM:Op->Bool
 |.defer _=>false
 |.select _ _=>false
 |_=>true
variable{o:Oper}
def ax4(h:jM o.op=true)(r:Option Nat)(ρ:Operand->Value):Oper.semAt r ρ o=execOp ρ o:=by
 cases r with
 |none=>rfl
 |some l=>exact Oper.semAt_some l ρ o (λc a=>by rw[a]at h;cases h)
def YU(P:Program)(w:World)(X:Nat->Prop)(σ:ae)(d:D):Result Next->Prop
 |.ok (.value u) b=>Ex w b/\Rd b (ay σ X) d u
 |.ok (.enter f s) b=>b=w/\Calls P f s w (λe a=>∃u,e= .returned u/\Ex w a/\Rd a (ay σ X) d u)
 |_=>False
def Yd(P:Program)(o:Oper)(ρ:Operand->D)(σ:ae)(d:D):Prop:=
 ∀(w:World)(X:Nat->Prop)(η:Operand->Value),(∀x∈o.op.operands,Rd w (ay σ X) (ρ x) (η x))->aW w X σ->YU P w X σ d ((execOp η o).run P w)
def Yd.congr{P:Program}{ρ ρ':Operand->D}{σ:ae}{d:D}(h:Yd P o ρ σ d)(e:∀x∈o.op.operands,ρ' x=ρ x):Yd P o ρ' σ d:=
 λw X η a s=>h w X η (λx hx=>by rw[←e x hx];exact a x hx) s
def gK(ops:Array Oper)(a:List D)(o:Oper):Option Bool:=
 match o.guard with
 |none=>some true
 |some (j,w)=>
  match(ops[j]?).bind (·.dst)with
  |some t=>(match a[t]? with|some (.v x)=>(match x with|.bool b=>some (b==w)|_=>some false)|_=>none)
  |none=>none
def NS{ops:Array Oper}{a:List D}{t:Bool}{w:World}{O:Nat->Prop}{s:Array Value}(f:FR w O a s)(h:gK ops a o=some t):Region.wanted o (yielded ops s)=t:=by
 unfold gK at h;unfold Region.wanted;split at h
 .rename_i g;cases h;simp only[g]
 .rename_i j b g;simp only[g];split at h
  .rename_i l c;split at h
   .rename_i x d;obtain⟨u,i,e⟩:=f.at_ _ _ d;have:=e.val rfl;subst this;simp only[yielded,c,Option.bind_some,i]
    cases u<;>simp only at h<;>cases h<;>first|rfl|(rename_i k;cases k<;>cases b<;>rfl)
   .cases h
  .cases h
section
variable {P:Program} {r:Option Nat} {n:Nat} {df:Nat} {ops:Array Oper} {Q:fG} {a:List D} {σ:ae}
def Pw(w:World)(X:Nat->Prop)(df:Nat)(σ:ae)(Q:fG):Exit->Act->World->Prop:=λe f a=>∃b σ',Q e b σ'/\St a X df b σ' f/\Mv w σ a σ'
def pA2{w w':World}{X:Nat->Prop}{σ σ':ae}(m:Mv w σ w' σ'){e:Exit}{fr:Act}{a:World}(h:Pw w' X df σ' Q e fr a):Pw w X df σ Q e fr a:=by
 obtain⟨f,s,d,c,b⟩:=h;exact⟨f,s,d,c,m.trans b⟩
def K7{F:Fence}{p Q:Exit->Act->World->Prop}(q:∀e a w,p e a w->Q e a w):∀(l:List Oper)(r:Act)(w:World),wpListIn F n P ops p l r w->wpListIn F n P ops Q l r w
 |[],_,_,h=>q _ _ _ h
 |o::l,r,w,h=>by
  unfold wpListIn at h⊢;split at h
  .rename_i i;rw[if_pos i];have m:=Oper.wpIn_mono (λa w h=>K7 q l a w h) h;unfold Oper.wpIn at m⊢;refine⟨m.1,?_⟩;have m:=m.2;generalize(o.semAt F.round r.eval).run P w=s at *
   cases s with
   |ok x t=>
    cases x<;>simp only[Oper.uponIn]at m⊢ <;> try exact m
    case enter f args=>
     refine⟨m.1,m.2.mono λe g b=>?_⟩
     cases e with
     |returned v=>exact b
     |panicked c=>exact q _ _ _ b
     |outgrown=>obtain⟨k,d,j⟩:=b;exact⟨k,d,q _ _ _ j⟩
    case round=>
     refine⟨m.1,m.2.mono λe g b=>?_⟩
     cases e with
     |returned v=>exact b
     |panicked c=>exact q _ _ _ b
     |outgrown=>obtain⟨k,d,j⟩:=b;exact⟨k,d,q _ _ _ j⟩
   |halt x t=>cases x<;>simp only[Oper.uponIn]at m⊢ <;> first|exact q _ _ _ m|exact m
  .rename_i i;rw[if_neg i];exact⟨h.1,K7 q l _ _ h.2⟩
structure bW(P:Program)(r:Option Nat)(n:Nat)(df:Nat)(ops:Array Oper)(Q:fG)(l:List Oper)(a:List D)(σ:ae):Prop where
 run:∀(w:World)(X:Nat->Prop)(fr:Act),St w X df a σ fr->wpListIn (FW r) n P ops (Pw w X df σ Q) l fr w
def pu(h:Q .normal a σ):bW P r n df ops Q [] a σ:=⟨λw X f s=>⟨a,σ,h,s,Mv.refl _ _⟩⟩
variable{id:Nat}
def rZ(h:bW P r n df ops Q ops.toList a σ):ey P r n df (.region id ops false) Q a σ:=⟨λw X f s=>wpIn_region_list (h.run w X f s)⟩
def hY(o:Oper)(w:World)(ρ:Operand->Value):∀f,o.about P w ρ=some f->(FW r).fn f:=λ_ _=>trivial
variable{o:Oper}{t:List Oper}
def yx(b:gK ops a o=some false)(h:bW P r n df ops Q t (aK a o.dst (.v undef)) σ):bW P r n df ops Q (o::t) a σ:=by
 refine⟨λw X f s=>?_⟩;unfold wpListIn;rw[if_neg (by rw[NS s.fr b];simp)];exact⟨hY o w _,h.run w X _ (s.put (.v _) o.dst)⟩
def nc(z:gK ops a o=some true)(B:jM o.op=true)
  (h:∀w X g,St w X df a σ g->(match(execOp g.eval o).run P w with
   |.ok (.value u) b=>∃d σ',Mv w σ b σ'/\St b X df (aK a o.dst d) σ' (g.put o.dst u)/\bW P r n df ops Q t (aK a o.dst d) σ'
   |.ok .skip b=>∃σ',Mv w σ b σ'/\St b X df (aK a o.dst (.v undef)) σ' (g.put o.dst undef)/\bW P r n df ops Q t (aK a o.dst (.v undef)) σ'
   |.ok (.enter f args) b=>b=w/\Calls P f args w (λe c=>∃u,e= .returned u/\∃d σ',Mv w σ c σ'/\St c X df (aK a o.dst d) σ' (g.put o.dst u)/\bW P r n df ops Q t (aK a o.dst d) σ')
   |_=>False)):bW P r n df ops Q (o::t) a σ:=by
 refine⟨λw X g q=>?_⟩;have h:=h w X g q;unfold wpListIn;rw[if_pos (by rw[NS q.fr z])];refine⟨hY o w _,?_⟩;rw[show(FW r).round=r from rfl,ax4 B];generalize(execOp g.eval o).run P w=s at h;have fin:∀{b:World}{l:Act}{y:List D}{σ':ae},Mv w σ b σ'->St b X df y σ' l->bW P r n df ops Q t y σ'->wpListIn (FW r) n P ops (Pw w X df σ Q) t l b:=
  λC m E=>K7 (λe a c A=>pA2 C A) t _ _ (E.run _ X _ m)
 cases s with
 |ok x b=>
  cases x<;>simp only at h<;>try exact h.elim
  case value u=>obtain⟨d,σ',k,j,i⟩:=h;exact fin k j i
  case skip=>obtain⟨σ',k,j,i⟩:=h;exact fin k j i
  case enter f args=>
   obtain⟨rfl,H⟩:=h;refine⟨λG=>by simp[FW,Fence.wide]at G,?_⟩;have p:CallsIn Fence.wide (n-1) P f args b _:=callsIn_wide.2 H;have:CallsIn (FW r) (n-1) P f args b _:=p;refine this.mono λe c F=>?_;obtain⟨u,rfl,d,σ',k,j,i⟩:=F;exact fin k j i
 |halt x b=>exact h.elim
variable{d:D}
def uL(k:gK ops a o=some true)(m:jM o.op=true)(y:Yd P o (iy a) σ d)(h:bW P r n df ops Q t (aK a o.dst d) σ):bW P r n df ops Q (o::t) a σ:=by
 refine nc k m λw X g s=>?_;have b:=y w X g.eval (λx _=>s.fr.eval x) s.st;generalize(execOp g.eval o).run P w=c at b
 cases c with
 |ok x j=>
  cases x<;>simp only[YU]at b
  case value u=>exact⟨d,σ,kE b.1,(s.ex b.1).put b.2 o.dst,h⟩
  case enter f args=>exact⟨b.1,b.2.mono λe i⟨u,p,hx,l⟩=>⟨u,p,d,σ,kE hx,(s.ex hx).put l o.dst,h⟩⟩
 |halt x j=>simp only[YU]at b
def aw6(a:List D){x y:Option Tmp}(d e:D)(h:∀i,x=some i->y≠some i):aK (aK a x d) y e=aK (aK a y e) x d:=by
 cases x with
 |none=>rfl
 |some i=>
  cases y with
  |none=>rfl
  |some j=>
   have:i≠j:=λb=>h i rfl (by rw[b]);simp only[aK];exact List.set_comm _ _ this
def bd4{a:List D}{dst:Option Tmp}{x:Operand}(h:∀i,dst=some i->x ≠ .tmp i):iy (aK a dst d) x=iy a x:=by
 cases dst with
 |none=>rfl
 |some i=>
  cases x with
  |tmp t=>
   have:i≠t:=λe=>h i rfl (by rw[e]);simp[iy,aK,List.getD_eq_getElem?_getD,xP,this]
  |_=>rfl
def yW:=@List.mem_append_right
def aE0{dst:Option Tmp}(h:∀i,dst=some i->i ∉ o.looksAt ops):gK ops (aK a dst d) o=gK ops a o:=by
 cases dst with
 |none=>rfl
 |some i=>
  unfold gK;split
  .rfl
  .rename_i j w g;split
   .rename_i t b;have:i≠t:=λe=>h i rfl (by
     subst e;unfold Oper.looksAt;refine yW _ ?_;simp[g,b])
    simp[aK,xP,this]
   .rfl
def rG(al:Option (Nat×TypeId))(o:Oper):Bool:=match al with
 |none=>false
 |some (s,_)=>match o.dst with|some i=>Nat.beq i s|none=>false
def Hd(al:Option (Nat×TypeId))(P:Program)(o:Oper)(ρ:Operand->D)(σ:ae)(d:D):Prop:=
 (rG al o=false/\Yd P o ρ σ d)\/(rG al o=true/\(∃s t,al=some (s,t)/\o.op= .alloc t/\o.dst=some s)/\d= .any)
def Hd.congr{al:Option (Nat×TypeId)}{P:Program}{ρ ρ':Operand->D}{σ:ae}(h:Hd al P o ρ σ d)(e:∀x∈o.op.operands,ρ' x=ρ x):Hd al P o ρ' σ d:=by
 rcases h with⟨b,a⟩|h
 .exact .inl ⟨b,a.congr e⟩
 .exact .inr h
def Hd.yd{P:Program}{ρ:Operand->D}{σ:ae}(h:Hd none P o ρ σ d):Yd P o ρ σ d:=by
 rcases h with⟨_,h⟩|⟨h,_⟩
 .exact h
 .cases h
def Hd.of{P:Program}{ρ:Operand->D}{σ:ae}(h:Yd P o ρ σ d):Hd none P o ρ σ d:=.inl ⟨rfl,h⟩
variable {al:Option (Nat×TypeId)}
def aOp(al:Option (Nat×TypeId))(P:Program)(ops:Array Oper)(σ:ae)(i:Nat)(K:List D->Prop)(a:List D):Prop:=
 match ops[i]? with
 |none=>K a
 |some o=>(gK ops a o=some true/\jM o.op=true/\∃d,Hd al P o (iy a) σ d/\K (aK a o.dst d))\/(gK ops a o=some false/\K (aK a o.dst (.v undef)))
variable{i:Nat}{K:List D->Prop}
def F0{g:List D->Prop}(h:∀a,K a->g a)(b:aOp al P ops σ i K a):aOp al P ops σ i g a:=by
 unfold aOp at *;split
 .rename_i c;simp only[c]at b;exact h _ b
 .rename_i o c;simp only[c]at b;rcases b with⟨f,e,d,k,j⟩|⟨f,e⟩
  .exact .inl ⟨f,e,d,k,h _ j⟩
  .exact .inr ⟨f,h _ e⟩
def cq(al:Option (Nat×TypeId))(P:Program)(ops:Array Oper)(σ:ae)(o:Oper)(d:D)(a:List D):Prop:=
 (gK ops a o=some true/\jM o.op=true/\Hd al P o (iy a) σ d)\/(gK ops a o=some false/\d= .v undef)
def cq.aOp(c:ops[i]?=some o)(y:cq al P ops σ o d a)(h:K (aK a o.dst d)):aOp al P ops σ i K a:=by
 unfold Proofs.YtilnpcolgcmofaaGreatDoor.aOp;simp only[c];rcases y with⟨b,f,e⟩|⟨b,rfl⟩
 .exact .inl ⟨b,f,d,e,h⟩
 .exact .inr ⟨b,h⟩
def aO4(e:ops[i]?=some o)(h:aOp al P ops σ i K a):∃d,cq al P ops σ o d a/\K (aK a o.dst d):=by
 unfold aOp at h;simp only[e]at h;rcases h with⟨c,b,d,g,f⟩|⟨c,b⟩
 .exact⟨d,.inl ⟨c,b,g⟩,f⟩
 .exact⟨_,.inr ⟨c,rfl⟩,b⟩
def xK:=@List.mem_append_left
def at8(h:i ∉ o.looksAt ops):∀x∈o.op.operands,x ≠ .tmp i:=by
 intro x hx e;subst e;exact h (xK _ (List.mem_filterMap.2 ⟨.tmp i,by simpa using hx,rfl⟩))
def cq.put(y:cq al P ops σ o d a){dst:Option Tmp}{e:D}(h:∀i,dst=some i->i ∉ o.looksAt ops):cq al P ops σ o d (aK a dst e):=by
 unfold cq at *;rw[aE0 h];rcases y with⟨b,g,f⟩|b
 .exact .inl ⟨b,g,f.congr λx hx=>bd4 λi c=>at8 (h i c) x hx⟩
 .exact .inr b
def Lh{j:Nat}{c:Oper}(r:ops[j]?=some c)(p:o.apart ops c=true)
  (y:cq al P ops σ o d a) (h:aOp al P ops σ j K (aK a o.dst d)):aOp al P ops σ j (λm=>cq al P ops σ o d m/\K (aK m o.dst d)) a:=by
 obtain⟨l,g,f⟩:=Oper.apart_spec p;unfold aOp at *;simp only[r]at *;rw[aE0 l]at h;rcases h with⟨b,k,e,q,n⟩|⟨b,k⟩
 .refine .inl ⟨b,k,e,q.congr (λx hx=>(bd4 λi s=>at8 (l i s) x hx).symm),y.put f,?_⟩;rw[←aw6 a d e g];exact n
 .refine .inr ⟨b,y.put f,?_⟩;rw[←aw6 a d _ g];exact k
variable {md:Region.Mode}
def jE(al:Option (Nat×TypeId))(P:Program)(md:Region.Mode)(ops:Array Oper)(σ:ae)(m:Nat)(L:Array Bool->List D->Prop):Nat->Array Bool->List D->Prop
 |0,l,a=>L l a
 |f+1,l,a=>Region.ready md ops l≠[]/\∀i∈Region.ready md ops l,i<m/\aOp al P ops σ i (jE al P md ops σ m L f (l.setIfInBounds i true)) a
def EY{p:Prop}(h:p:=by
 by_cases hjk:j=k
 .subst hjk;exact hjun
 .rw[getD_set_ne true hjk]at hunk;exact hunk):p:=h
def aT4{m:Nat}{z:Oper}{L:Array Bool->List D->Prop}(F:ops[i]?=some z)
  (u:∀l,HeadInv md ops m l->l.getD i true=false->∀t,m<=t->t ∉ Region.ready md ops l) (M:i<m)
  (q:∀l a,L l a->∀j∈Region.ready md ops l,m<=j) :
  ∀(f:Nat)(l:Array Bool)(a:List D),HeadInv md ops m l ->
   (∀j s,ops[j]?=some s->j≠i->l.getD j true=false->(∀e∈s.after,Region.binds md e=true->e.on≠i)->z.apart ops s=true) ->
   i∈Region.ready md ops l->cq al P ops σ z d a ->
   jE al P md ops σ m L f (l.setIfInBounds i true) (aK a z.dst d)->jE al P md ops σ m L (f+1) l a:=by
 intro f
 induction f with
 |zero=>
  intro l a v _ r A H;have n:=(mem_ready.1 r).1;refine⟨λh=>(by rw[h]at r;cases r),λj o=>?_⟩;have g:j<m:=Nat.lt_of_not_le λh=>u l v n j h o;refine⟨g,?_⟩;by_cases b:j=i
  .subst b;exact A.aOp F H
  .have:=q _ _ H j (ready_mono o b);omega
 |succ f J=>
  intro l a v c r A H;have n:=(mem_ready.1 r).1;refine⟨λh=>(by rw[h]at r;cases r),λj o=>?_⟩;have g:j<m:=Nat.lt_of_not_le λh=>u l v n j h o;refine⟨g,?_⟩;by_cases b:j=i
  .subst b;exact A.aOp F H
  .obtain⟨hjun,s,w,y⟩:=mem_ready.1 o;have x:∀e∈s.after,Region.binds md e=true->e.on≠i:=λe N O E=>by
    have I:=y e N O;rw[E,getD_both n]at I
    cases I
   have Q:=Lh w (c j s w b hjun x) A (H.2 j (ready_mono o b)).2;refine F0 (λR G=>J (l.setIfInBounds j true) R (v.set o g) (λk ok K C hunk B=>c k ok K C ?_ B) (ready_mono r (Ne.symm b)) G.1 ?_) Q
   .exact EY
   .rw[Array.setIfInBounds_comm _ _ b];exact G.2
def sx(al:Option (Nat×TypeId))(P:Program)(ops:Array Oper)(σ:ae)(L:List D->Prop):List Oper->List D->Prop
 |[],a=>L a
 |o::r,a=>(gK ops a o=some true/\jM o.op=true/\∃d,Hd al P o (iy a) σ d/\sx al P ops σ L r (aK a o.dst d))\/(gK ops a o=some false/\sx al P ops σ L r (aK a o.dst (.v undef)))
structure RE(P:Program)(ops:Array Oper)(σ:ae)(L:List D->Prop)(l:List Oper)(a:List D):Prop where
 run:sx none P ops σ L l a
def zJ:=@Bool.and_eq_true
def vQ:=@Nat.add_assoc
def aT3{m g:Nat}{L:List D->Prop}(e:∀i b,i<m->HeadInv md ops m b->b.getD i true=false->∀t,m<=t->t ∉ Region.ready md ops b) :
  ∀(l:List Oper)(k:Nat)(b:Array Bool)(a:List D),(∀j,j<l.length->l[j]?=ops[k+j]?)->k+l.length=m->HeadInv md ops m b ->
  Region.lexHead md ops g l.length k b=true->sx al P ops σ L l a ->
  jE al P md ops σ m (λc u=>Region.seqB md ops g m c=true/\L u) l.length b a
 |[],k,b,a,_,q,_,B,h=>by
  obtain rfl:k=m:=by simpa using q
  exact⟨by simpa [Region.lexHead]using B,h⟩
 |o::l,k,b,a,s,q,v,B,h=>by
  have n:ops[k]?=some o:=by simpa using(s 0 (by simp)).symm
  simp only[List.length_cons,Region.lexHead,zJ]at B q;obtain⟨⟨A,C⟩,r⟩:=B;have f:k∈Region.ready md ops b:=by simpa using A
  have p:aOp al P ops σ k (sx al P ops σ L l) a:=by unfold aOp;simp only[n];exact h
  obtain⟨d,z,K⟩:=aO4 n p;exact aT4 n (λw y x=>e k w (by omega) y x) (by omega) (λc u E=>seqB_ready E.1) l.length b a v (Region.free_spec n C) f z
   (aT3 e l (k+1) _ _ (λj F=>by have:=s (j+1) (by simp;omega);simpa [vQ,Nat.add_comm 1 j]using this) (by omega) (v.set f (by omega)) r K)
def zQ:=@decide_eq_true_eq
def av7{F:Fence}{Q':Exit->Act->World->Prop}:∀(l:List Oper)(k:Nat)(d:Array Bool)(f:Act)(w:World),(∀j,l[j]?=ops[k+j]?) ->
  Region.seqB md ops l.length k d=true->wpListIn F n P ops Q' l f w->wpAnyIn F n P md ops Q' l.length d f w
 |[],_,_,_,_,_,B,h=>⟨by simpa [Region.seqB]using B,h⟩
 |o::l,k,d,f,w,b,B,h=>by
  have p:ops[k]?=some o:=by simpa using(b 0).symm
  simp only[List.length_cons,Region.seqB,zJ,zQ]at B;refine⟨λe=>(by rw[B.1]at e;cases e),λi c=>?_⟩;rw[B.1]at c;have a:i=k:=by simpa using c
  subst a;have m:wpOpIn F n P ops Q' i (wpListIn F n P ops Q' l) f w:=by unfold wpOpIn;simp only[p];exact h
  exact wpOpIn_mono (λr g q=>av7 l (i+1) _ r g (λj=>by have:=b (j+1);simpa [vQ,Nat.add_comm 1 j]using this) B.2 q) m
def xD:=@Nat.zero_add
def RZ{m g:Nat}{L:Array Bool->List D->Prop}{Q':Exit->Act->World->Prop}{X:Nat->Prop}{w0:World}
  (k:∀l a b w,Ex w0 w->St w X df a σ b->L l a->wpAnyIn (FW r) n P md ops Q' g l b w) :
  ∀(f:Nat)(l:Array Bool)(a:List D)(b:Act)(w:World),Ex w0 w->St w X df a σ b->jE none P md ops σ m L f l a->wpAnyIn (FW r) n P md ops Q' (f+g) l b w
 |0,l,a,b,w,hx,s,h=>by rw[xD];exact k _ _ _ _ hx s h
 |f+1,l,a,b,w,hx,s,h=>by
  rw[show f+1+g=(f+g)+1 by omega];refine⟨λM=>absurd M h.1,λi H=>?_⟩;have p:=(h.2 i H).2;unfold aOp at p;unfold wpOpIn;split
  .rename_i B;simp only[B]at p;exact RZ k f _ a b w hx s p
  .rename_i o B;simp only[B]at p;rcases p with⟨z,y,d,G,E⟩|⟨z,y⟩
   .rw[if_pos (by rw[NS s.fr z])];refine⟨hY o w _,?_⟩;rw[show(FW r).round=r from rfl,ax4 y];have c:=G.yd w X b.eval (λx _=>s.fr.eval x) s.st;generalize(execOp b.eval o).run P w=t at c
    cases t with
    |ok x q=>
     cases x<;>simp only[YU]at c
     case value u=>exact RZ k f _ _ _ _ (hx.trans c.1) ((s.ex c.1).put c.2 o.dst) E
     case enter fn args=>
      obtain⟨rfl,K⟩:=c;refine⟨λJ=>by simp[FW,Fence.wide]at J,?_⟩;have C:CallsIn Fence.wide (n-1) P fn args q _:=callsIn_wide.2 K;have:CallsIn (FW r) (n-1) P fn args q _:=C;refine this.mono λe F I=>?_;obtain⟨u,rfl,j,A⟩:=I;exact RZ k f _ _ _ _ (hx.trans j) ((s.ex j).put A o.dst) E
    |halt x q=>simp only[YU]at c
   .rw[if_neg (by rw[NS s.fr z];simp)];exact⟨hY o w _,RZ k f _ _ _ _ hx (s.put (.v _) o.dst) y⟩
def QI(w:World):Ex w { w with drawn:=w.drawn+1 }:=(Ex.refl w).drew
def xR:=@List.getElem?_drop
variable{l:List Oper}
def bd9(m:Nat)(N:P.follows .mixedOrders=true)(C:Region.lexTailB .any l.toArray m=true)
  (h:RE P l.toArray σ (λD=>bW P r n df l.toArray Q (l.drop m) D σ) (l.take m) a):ey P r n df (.region id l.toArray true) Q a σ:=by
 refine⟨λw X S J=>?_⟩;simp only[Region.lexTailB,zJ,zQ]at C;obtain⟨⟨⟨⟨y,z⟩,q⟩,R⟩,x⟩:=C;have M:m<l.length:=by simpa using z
 have b:(l.take m).length=m:=by simp;omega
 have k:(l.drop m).length=l.toArray.size-m:=by simp
 have c:HeadInv .any l.toArray m (Array.replicate l.toArray.size false):=
  ⟨by simp,λj T _ A=>(by rw[getD_replicate_false]at A;cases A),λt _ I=>getD_in (by simpa using I) (getD_replicate_false _ _)⟩
 have H:=aT3 (md:=.any) (g:=l.toArray.size-m) (λi U O G F=>tail_waits q R z G _ i rfl O F) (l.take m) 0 _ a (λj B=>by
  have u:j<m:=by rw[b]at B;exact B
  simp[u]) (by simpa using b) c (by rw[b];exact x) h.run
 refine wpIn_region_any N ?_;have f:=QI w;have:=RZ (r:=r) (n:=n) (df:=df) (Q':=Pw w X df σ Q) (g:=l.toArray.size-m) (X:=X) (w0:={ w with drawn:=w.drawn+1 }) (λd D o v p s L=>by
  have:=av7 (md:=.any) (Q':=Pw w X df σ Q) (l.drop m) m d o v (λj=>by simp[xR]) (by rw[k];exact L.1)
   (K7 (λe a E K=>pA2 (kE (f.trans p)) K) _ _ _ (L.2.run v X o s))
  rwa [k]at this) _ _ _ S _ (Ex.refl _) (J.ex f) H
 rw[b,show m+(l.toArray.size-m)=l.toArray.size by omega]at this;exact this
def av3:∀(f k:Nat)(l:Array Bool),Region.lexFrom md ops f k l=true->Region.lexHead md ops 0 f k l=true
 |0,k,l,h=>h
 |f+1,k,l,h=>by
  simp only[Region.lexFrom,Region.lexHead,zJ]at h⊢;exact⟨h.1,av3 f (k+1) _ h.2⟩
def Fz(x:P.follows .mixedOrders=true)(B:Region.lexB .any l.toArray=true)
  (h:RE P l.toArray σ (λk=>Q .normal k σ) l a):ey P r n df (.region id l.toArray true) Q a σ:=by
 refine⟨λw X z s=>?_⟩;simp only[Region.lexB,zJ]at B;have b:HeadInv .any l.toArray l.toArray.size (Array.replicate l.toArray.size false):=
  ⟨by simp,λj C _ q=>(by rw[getD_replicate_false]at q;cases q),λt _ p=>getD_in (by simpa using p) (getD_replicate_false _ _)⟩
 have H:=aT3 (md:=.any) (m:=l.toArray.size) (g:=0) (λi D I F E t p u=>by
   obtain⟨_,o,v,_⟩:=mem_ready.1 u;have:=(zX.1 v).1;omega) l 0 _ a (λj G=>by simp) (by simp) b (av3 _ _ _ (by simpa using B.2)) h.run
 refine wpIn_region_any x ?_;have c:=QI w;have:=RZ (r:=r) (n:=n) (df:=df) (Q':=Pw w X df σ Q) (g:=0) (X:=X) (w0:={ w with drawn:=w.drawn+1 }) (λd k y A e f L=>
  ⟨by simpa [Region.seqB]using L.1,k,σ,L.2,f,kE (c.trans e)⟩) _ _ _ z _ (Ex.refl _) (s.ex c) H
 rw[show l.length+0=l.toArray.size by simp]at this;exact this
end
end
section
open Go Go.RowKit Go.Shelf
inductive ZV where
 |int (k:IntKind)|bool|str|ptr|sl|map|fn|ifc
 deriving DecidableEq
def zv:ZV->Value
 |.int k=>.int k 0|.bool=>.bool false|.str=>.string ⟨#[]⟩|.ptr=>.pointer none|.sl=>.slice none 0 0|.map=>.map none|.fn=>.nilFunc|.ifc=>.nilIface
def u6:Value->Option ZV
 |.int k n=>if n=0 then some (.int k)else none
 |.bool b=>if b=false then some .bool else none
 |.string s=>if s.data.size=0 then some .str else none
 |.pointer none=>some .ptr
 |.slice none 0 0=>some .sl
 |.map none=>some .map
 |.nilFunc=>some .fn
 |.nilIface=>some .ifc
 |_=>none
def GZ{v:Value}{z:ZV}(h:u6 v=some z):v=zv z:=by
 unfold u6 at h;split at h<;>(try(split at h))<;>(try cases h)<;>first
  |(rename_i a;subst a;rfl)
  |(rename_i s a;cases s;simp at a;subst a;rfl)
  |rfl
  |skip
structure TI where
 agg:Bool
 size:Nat
 fs:List (Nat×Bool×Nat):=[]
 sl:Option (Nat×Bool×Nat×Nat):=none
 arr:Option (Nat×Bool×Nat):=none
 zero:List ZV:=[]
 str:Bool:=false
 deriving DecidableEq
def rH:TypeDesc->Bool
 |.struct _|.array _ _=>true
 |_=>false
def eQ(P:Program)(t:TypeId):Option (Bool×Nat):=
 match P.info? t,P.underlying t with
 |some i,some u=>some (rH u,i.size)
 |_,_=>none
def aH(P:Program)(t:TypeId):Option TI:=
 match P.info? t,P.underlying t with
 |some i,some u=>some {
   agg:=rH u,size:=i.size,
   fs:=match u with|.struct fs=>(fs.toList.mapM λf=>(eQ P f.type).map λs=>(f.offset,s.1,s.2)).getD []|_=>[],
   sl:=match u with|.slice e=>(eQ P e).map λs=>(e,s.1,s.2,P.bytesOf e)|_=>none,
   arr:=match u with|.array n e=>(eQ P e).map λs=>(n,s.1,s.2)|_=>none,
   zero:=(i.zero.bind λv=>v.cells.toList.mapM u6).getD [],
   str:=match u with|.string=>true|_=>false }
 |_,_=>none
variable{t:TypeId}{i:TI}
def FC{P:Program}(h:aH P t=some i):∃a u,P.info? t=some a/\P.underlying t=some u/\i.agg=rH u/\i.size=a.size /\
  i.fs=(match u with|.struct d=>(d.toList.mapM λf=>(eQ P f.type).map λs=>(f.offset,s.1,s.2)).getD []|_=>[]) /\
  i.sl=(match u with|.slice e=>(eQ P e).map λs=>(e,s.1,s.2,P.bytesOf e)|_=>none) /\
  i.arr=(match u with|.array n e=>(eQ P e).map λs=>(n,s.1,s.2)|_=>none) /\
  i.zero=(a.zero.bind λv=>v.cells.toList.mapM u6).getD []/\i.str=(match u with|.string=>true|_=>false):=by
 unfold aH at h;split at h
 .rename_i a u c b
  cases h
  exact⟨a,u,c,b,rfl,rfl,rfl,rfl,rfl,rfl,rfl⟩
 .cases h
def sj{P:Program}{b:Bool}{n:Nat}(h:eQ P t=some (b,n))(w:World):(isAgg t).run P w= .ok b w/\(sizeOf t).run P w= .ok n w:=by
 unfold eQ at h;split at h
 .rename_i i u c a
  cases h
  refine⟨?_,by simp[sizeOf,typeInfo,program,Sem.run,c]⟩;simp only[isAgg,Sem.run_bind,run_underlying a,Result.andThen]
  cases u<;>rfl
 .cases h
def N6{P:Program}(h:aH P t=some i)(w:World):(isAgg t).run P w= .ok i.agg w/\(sizeOf t).run P w= .ok i.size w:=by
 obtain⟨f,u,d,c,b,a,_⟩:=FC h;exact sj (by simp[eQ,d,c,b,a]) w
def y3(b o n:Nat):(⟨b,o,none⟩:Addr).add n=⟨b,o+n,none⟩:=by
 unfold Addr.add;split
 .rename_i h;subst h;rfl
 .rfl
section
variable {P:Program} {σ:ae} {w:World} {X:Nat->Prop}
def uR:D->D->D->Option (Prop×D)
 |.v (.bool true),x,_=>some (True,x)
 |.v (.bool false),_,y=>some (True,y)
 |_,_,_=>none
def zi:D->Option (Prop×D)
 |.any=>none
 |d=>some (True,.ro (gX d))
def Rh:D->Option (Prop×D)
 |.ro c=>some (True,.ro c)
 |.clo f c=>some (True,.clo f c)
 |.v (.pointer (some a))=>some (True,.v (.pointer (some a)))
 |.v (.func (.func f) x y)=>some (True,.v (.func (.func f) x y))
 |_=>none
structure cp(n:Int):Prop where
 lo:-9223372036854775808<=n
 hi:n<=9223372036854775807
def vj:BinOp->Value->Value->Option (Prop×Value)
 |.add,.int .i64 x,.int .i64 y=>some (cp (x+y),.int .i64 (x+y))
 |.sub,.int .i64 x,.int .i64 y=>some (cp (x-y),.int .i64 (x-y))
 |.mul,.int .i64 x,.int .i64 y=>some (cp (x*y),.int .i64 (x*y))
 |.lss,.int .i64 x,.int .i64 y=>some (True,.bool (decide (x<y)))
 |.leq,.int .i64 x,.int .i64 y=>some (True,.bool (decide (x<=y)))
 |.gtr,.int .i64 x,.int .i64 y=>some (True,.bool (decide (y<x)))
 |.geq,.int .i64 x,.int .i64 y=>some (True,.bool (decide (y<=x)))
 |.eql,.int .i64 x,.int .i64 y=>some (True,.bool (decide (x=y)))
 |.neq,.int .i64 x,.int .i64 y=>some (True,.bool (!decide (x=y)))
 |.lss,.int .u8 x,.int .u8 y=>some (True,.bool (decide (x<y)))
 |.leq,.int .u8 x,.int .u8 y=>some (True,.bool (decide (x<=y)))
 |.gtr,.int .u8 x,.int .u8 y=>some (True,.bool (decide (y<x)))
 |.geq,.int .u8 x,.int .u8 y=>some (True,.bool (decide (y<=x)))
 |.eql,.int .u8 x,.int .u8 y=>some (True,.bool (decide (x=y)))
 |.neq,.int .u8 x,.int .u8 y=>some (True,.bool (!decide (x=y)))
 |.gtr,.int .u64 x,.int .u64 y=>some (True,.bool (decide (y<x)))
 |.rem,.int .i64 x,.int .i64 y=>some (y≠0,.int .i64 (x.tmod y))
 |.quo,.int .i64 x,.int .i64 y=>some (y≠0/\cp (x.tdiv y),.int .i64 (x.tdiv y))
 |.eql,.string x,.string y=>some (True,.bool (x.toList==y.toList))
 |.neq,.string x,.string y=>some (True,.bool (!(x.toList==y.toList)))
 |.add,.string x,.string y=>some (x.size+y.size<=9223372036854775807,.string (x++y))
 |_,_,_=>none
def Rp(b:BinOp):D->D->Option (Prop×D)
 |.v x,.v y=>(vj b x y).map λp=>(p.1,.v p.2)
 |_,_=>none
def vUn:UnOp->Value->Option (Prop×Value)
 |.not,.bool b=>some (True,.bool (!b))
 |.neg,.int .i64 n=>some (cp (-n),.int .i64 (-n))
 |_,_=>none
def aUn(u:UnOp):D->Option (Prop×D)
 |.v x=>(vUn u x).map λp=>(p.1,.v p.2)
 |_=>none
def oC(agg:Bool)(cs:List D):D:=bif agg then .agg cs else cs.headD .any
def uS:Option TI->D->Option (Prop×D)
 |some i,.ro c=>bif Nat.ble i.size c.length&&(i.agg||i.size==1)then some (True,oC i.agg (c.take i.size))else none
 |_,_=>none
def Lv:Option TI->Nat->D->Option (Prop×D)
 |some i,f,.ro c=>match i.fs[f]? with
  |some (a,_,n)=>bif Nat.ble a c.length && !(n==0)then some (True,.ro (c.drop a))else none
  |none=>none
 |some i,f,.v (.pointer (some ⟨b,o,none⟩))=>match i.fs[f]? with
  |some (a,_,n)=>bif !(n==0)then some (True,.v (.pointer (some ⟨b,o+a,none⟩)))else none
  |none=>none
 |_,_,_=>none
def jD:Option TI->Nat->D->Option (Prop×D)
 |some i,f,.agg c=>match i.fs[f]? with
  |some (o,a,n)=>bif Nat.ble (o+n) c.length&&(a||n==1)then some (True,oC a ((c.drop o).take n))else none
  |none=>none
 |_,_,_=>none
def LA:Nat->D->Option (Prop×D)
 |i,.tup s=>match s[i]? with|some d=>some (True,d)|none=>none
 |i,.v (.tuple vs)=>match vs[i]? with|some d=>some (True,.v d)|none=>none
 |_,_=>none
def F6:Option TI->D->Option (Prop×D)
 |some i,.sl _ x=>bif i.sl.isSome then some (True,.v (.int .i64 x.length))else none
 |some i,.v (.slice _ n _)=>bif i.sl.isSome then some (True,.v (.int .i64 n))else none
 |some i,.v (.string s)=>bif i.str then some (True,.v (.int .i64 s.size))else none
 |_,_=>none
def za:Option TI->D->D->Option (Prop×D)
 |some i,.ro c,.v (.int _ (.ofNat j))=>match i.arr with
  |some (n,_,k)=>bif Nat.blt j n&&Nat.ble (j*k) c.length then some (True,.ro (c.drop (j*k)))else none
  |none=>none
 |some i,.v (.slice (some ⟨b,off,none⟩) n _),.v (.int _ j)=>match i.sl with
  |some (_,_,k,_)=>some (0<=j/\j<n,.v (.pointer (some ⟨b,off+j.toNat*k,none⟩)))
  |none=>none
 |_,_,_=>none
def F7(T:TypeId->Option TI)(c:Call)(ρ:Operand->D):Option (Prop×D):=
 match c.callee,c.args.toList,c.argTypes.toList with
 |.builtin .len,[x],[t]=>F6 (T t) (ρ x)
 |_,_,_=>none
def iQ(T:TypeId->Option TI)(op:Op)(ρ:Operand->D):Option (Prop×D):=
 match op with
 |.move x=>some (True,ρ x)
 |.assign x=>some (True,ρ x)
 |.pick c x y=>uR (ρ c) (ρ x) (ρ y)
 |.box _ x=>zi (ρ x)
 |.nilCheck x=>Rh (ρ x)
 |.binOp b _ x y _=>Rp b (ρ x) (ρ y)
 |.unOp u _ x=>aUn u (ρ x)
 |.load t x=>uS (T t) (ρ x)
 |.fieldAddr s x f=>Lv (T s) f (ρ x)
 |.field s x f=>jD (T s) f (ρ x)
 |.extract x i=>LA i (ρ x)
 |.indexAddr t x i=>za (T t) (ρ x) (ρ i)
 |.call c=>F7 T c ρ
 |_=>none
variable{b:Nat}
def Se(t:aW w X σ)(a:w.heap.size<=b):¬ay σ X b:=λh=>by have:=t.own_lt h;omega
variable{u:Value}
def O6(b:aW w X σ){d:D}(h:Rd w (ay σ X) d u)(e:d ≠ .any)(t:TypeId):Rd (w.alloc (.cells u.cells t)) (ay σ X) (.ro (gX d)) (.pointer (some ⟨w.heap.size,0,none⟩)):=by
 have g:=(h.ex ((Ex.refl w).alloc (o:=.cells u.cells t))).cells e;refine .ro _ _ _ (λj=>u.cells.toList.getD j undef) (Se b (zT _)) (by simp) (λj i=>?_) (λj n f=>?_)
 .have c:j<u.cells.toList.length:=by rw[g.len];exact i
  rw[xD,World.cell?_alloc_new];have a:j<u.cells.size:=by simpa using c
  simp[a]
 .obtain⟨m,l,k⟩:=g.get f;simp only[List.getD_eq_getElem?_getD,l];exact k
def aX9{n:Int}(h:cp n):IntKind.i64.wrap n=n:=IntWalk.i64_in _ ⟨h.lo,h.hi⟩
variable{s:Prop}{x:Value}
def Hp{b:BinOp}{y:Value}(h:vj b x y=some (s,u))(a:s)(t:TypeId)(p q:Operand)(w:World) :
  (do eqGuard b t p q x y;binOp b t x y).run P w= .ok u w:=by
 unfold vj at h;split at h<;>cases h<;>first
  |rfl
  |(simp[eqGuard,binOp,Op.intArith,aX9 a];done)
  |(simp[eqGuard,binOp,Op.intCmp];done)
  |(simp[eqGuard,binOp,Op.intDiv,a];done)
  |(simp[eqGuard,binOp,Op.intDiv,a.1,aX9 a.2];done)
  |(simp[eqGuard,binOp,Op.stringOp];done)
  |(show(Op.stringOp .add _ _).run P w=_;simp only[Op.stringOp];rw[if_neg (by rw[show IntKind.i64.max=9223372036854775807 from rfl];omega)];rfl)
def Ow{b:UnOp}(h:vUn b x=some (s,u))(a:s)(w:World):(Op.unary b x).run P w= .ok u w:=by
 unfold vUn at h;split at h<;>cases h
 .simp[Op.unary]
 .simp only[Op.unary,Op.intArith,Int.zero_sub,aX9 a];rfl
variable{t:TypeId}
def az1{n o:Nat}{f:Nat->Value}(d:(isAgg t).run P w= .ok true w)(a:(sizeOf t).run P w= .ok n w)(c:∀j,j<n->w.cell? ⟨b,o+j,none⟩=some (f j)) :
  (Instr.loadAt t (.pointer (some ⟨b,o,none⟩))).run P w= .ok (.agg ((List.range n).map f).toArray) w:=by
 have:=run_loadCells (P:=P) (w:=w) ⟨b,o,none⟩ n f (λj h=>by rw[y3];exact c j h);simp[Instr.loadAt,Instr.sureAddr,loadVar,d,a,this,Result.andThen]
def R0{o:Nat}{v:Value}(a:(isAgg t).run P w= .ok false w)(h:w.cell? ⟨b,o,none⟩=some v) :
  (Instr.loadAt t (.pointer (some ⟨b,o,none⟩))).run P w= .ok v w:=by
 simp[Instr.loadAt,Instr.sureAddr,loadVar,a,Result.andThen,load,Sem.run,h]
end
end
section
open Go Go.RowKit Go.Shelf
section
variable {P:Program} {σ:ae} {w:World} {X:Nat->Prop} {ρ:Operand->D}
variable{d:D}
def ev{s:Sem Value}{u:Value}{w':World}(h:s.run P w= .ok u w')(hx:Ex w w')(r:Rd w' (ay σ X) d u):YU P w X σ d ((do pure (Next.value (←s)):Sem Next).run P w):=by
 simp only[Sem.run_bind,h,Result.andThen,Sem.run_pure];exact⟨hx,r⟩
def yX:=@List.getElem?_take
variable{cs:List D}
def B3{O:Nat->Prop}{f:Nat->Value}{n:Nat}(a:Bool)(l:n<=cs.length)(g:a=true\/n=1)(r:∀(j:Nat)d,cs[j]?=some d->Rd w O d (f j)) :
  Rd w O (oC a (cs.take n)) (if a then .agg ((List.range n).map f).toArray else f 0):=by
 cases a with
 |true=>
  refine .agg _ _ (by simp[l]) (λj d u h b=>?_);rw[yX]at h;split at h
  .rename_i e;simp[e]at b;subst b;exact r j d h
  .cases h
 |false=>
  have:n=1:=by simpa using g
  subst this
  cases cs with
  |nil=>simp at l
  |cons c cs=>exact r 0 c rfl
def vL:=@Nat.ble_eq
def xO:=@Bool.or_eq_true
variable{t:TypeId}{s:Prop}{x:Value}{T:TypeId->Option TI}
def F5(v:∀t i,T t=some i->aH P t=some i){m:D}(h:uS (T t) m=some (s,d))(hx:Rd w (ay σ X) m x) :
  ∃u,(Instr.loadAt t x).run P w= .ok u w/\Rd w (ay σ X) d u:=by
 unfold uS at h;split at h
 .rename_i i n k;obtain⟨e,y⟩:=N6 (v t i k) w
  cases c:(Nat.ble i.size n.length&&(i.agg||i.size==1))with
  |false=>rw[c]at h;cases h
  |true=>
   rw[c]at h;cases h
   simp only[zJ,vL,xO,beq_iff_eq]at c;generalize p:D.ro n=q at hx
   cases hx<;>cases p
   rename_i b o vs O A l r;have a:=B3 (f:=vs) i.agg c.1 c.2 r
   cases g:i.agg with
   |true=>
    rw[g]at e a;exact⟨_,az1 e y (λj z=>l j (by omega)),a⟩
   |false=>
    rw[g]at e a;have B:i.size=1:=by rcases c.2 with h|h<;>simp_all
    exact⟨_,R0 e (by have:=l 0 (by omega);simpa using this),a⟩
 .cases h
def xB:=@Option.some.injEq
def oF{α β:Type}{f:α->Option β}:∀{l:List α}{r:List β},l.mapM f=some r->∀(i:Nat)(b:β),r[i]?=some b->∃a,l[i]?=some a/\f a=some b
 |[],r,h,i,b,c=>by simp at h;subst h;simp at c
 |x::l,r,h,i,b,c=>by
  simp only[List.mapM_cons,Option.bind_eq_bind,Option.bind_eq_some_iff,Option.pure_def,xB]at h;obtain⟨y,d,j,s,rfl⟩:=h
  cases i with
  |zero=>simp at c;subst c;exact⟨x,rfl,d⟩
  |succ i=>simp at c;obtain⟨a,g,e⟩:=oF s i b c;exact⟨a,by simpa using g,e⟩
def xN:=@Option.map_eq_some_iff
def vY:=@Prod.mk.injEq
variable{i:TI}{f:Nat}
def ny(h:aH P t=some i){o n:Nat}{c:Bool}(a:i.fs[f]?=some (o,c,n)) :
  ∃b l,P.underlying t=some (.struct b)/\b[f]?=some l/\l.offset=o/\eQ P l.type=some (c,n):=by
 obtain⟨d,u,q,j,_,_,e,_,_,_,_⟩:=FC h;rw[e]at a
 cases u with
 |struct b=>
  simp only at a
  cases m:b.toList.mapM (λf=>(eQ P f.type).map λs=>(f.offset,s.1,s.2))with
  |none=>rw[m]at a;simp at a
  |some r=>
   rw[m]at a;obtain⟨l,p,g⟩:=oF m f _ a;simp only[xN,vY]at g;obtain⟨sz,k,rfl,rfl,rfl⟩:=g;exact⟨b,l,j,by simpa using p,rfl,by rw[k]⟩
 |_=>simp at a
def aP7(h:aH P t=some i){a n b o:Nat}{l:Bool}(d:i.fs[f]?=some (a,l,n))(c:n≠0) :
  (Instr.fieldAt t (.pointer (some ⟨b,o,none⟩)) f).run P w= .ok (.pointer (some ⟨b,o+a,none⟩)) w:=by
 obtain⟨s,m,k,j,g,e⟩:=ny h d;have:=(sj e w).2;simp[Instr.fieldAt,run_underlying k,j,Instr.sureAddr,fieldPlace,this,c,Result.andThen,y3,g]
def xJ:=@Bool.not_eq_true'
def zg(r:∀t i,T t=some i->aH P t=some i){k:D}(h:Lv (T t) f k=some (s,d))(hx:Rd w (ay σ X) k x) :
  ∃u,(Instr.fieldAt t x f).run P w= .ok u w/\Rd w (ay σ X) d u:=by
 cases a:T t with
 |none=>rw[a]at h;simp[Lv]at h
 |some i=>
  rw[a]at h
  cases g:i.fs[f]? with
  |none=>cases k<;>simp[Lv,g]at h;(split at h<;>simp_all)
  |some p=>
   obtain⟨e,J,n⟩:=p
   cases k with
   |ro z=>
    simp only[Lv,g]at h
    cases c:(Nat.ble e z.length && !(n==0))with
    |false=>rw[c]at h;cases h
    |true=>
     rw[c]at h;cases h
     simp only[zJ,vL,xJ,beq_eq_false_iff_ne,ne_eq]at c;generalize B:D.ro z=q at hx
     cases hx<;>cases B
     rename_i b o vs O E l A;refine⟨_,aP7 (r t i a) g c.2,.ro _ _ _ (λj=>vs (e+j)) O E (λj C=>?_) (λj d m=>?_)⟩
     .rw[vQ];exact l (e+j) (by simp at C;omega)
     .rw[xR]at m;exact A _ _ m
   |v y=>
    have:=hx.val rfl;subst this;unfold Lv at h;split at h
    .cases ‹D.v _=D.ro _›
    .rename_i H I b o G F
     cases G;cases F
     simp only[g]at h
     cases c:(!(n==0))with
     |false=>rw[c]at h;cases h
     |true=>
      rw[c]at h;cases h
      simp only[xJ,beq_eq_false_iff_ne,ne_eq]at c;exact⟨_,aP7 (r t i a) g c,.v _⟩
    .cases h
   |_=>simp[Lv]at h
def wJ:=@Array.ext'
def xY:=@List.ext_getElem?
def xV:=@List.getElem?_range
def FZ(H:∀t i,T t=some i->aH P t=some i){m:D}(h:jD (T t) f m=some (s,d))(hx:Rd w (ay σ X) m x) :
  ∃u,(Instr.field t x f).run P w= .ok u w/\Rd w (ay σ X) d u:=by
 cases b:T t with
 |none=>rw[b]at h;simp[jD]at h
 |some i=>
  rw[b]at h
  cases m with
  |agg r=>
   cases k:i.fs[f]? with
   |none=>simp[jD,k]at h
   |some p=>
   obtain⟨o,v,n⟩:=p;simp only[jD,k]at h
   cases c:(Nat.ble (o+n) r.length&&(v||n==1))with
   |false=>rw[c]at h;cases h
   |true=>
    rw[c]at h;cases h
    simp only[zJ,vL,xO,beq_iff_eq]at c;generalize F:D.agg r=q at hx
    cases hx<;>cases F
    rename_i vs G E;obtain⟨J,K,B,A,z,I⟩:=ny (H t i b) k;obtain⟨y,C⟩:=sj I w;have g:=B3 (w:=w) (O:=ay σ X) (cs:=r.drop o) (f:=λj=>(vs[o+j]?).getD undef) (n:=n) v (by simp;omega) c.2 (λj d l=>by
     rw[xR]at l;have a:o+j<vs.length:=by rw[G];exact(zE.1 l).1
     have:=E (o+j) d _ l (zD a)
     simpa [zD a]using this)
    refine⟨_,?_,g⟩
    cases v with
    |true=>
     simp only[Instr.field,Sem.run_bind,run_underlying B,Result.andThen,A,asAgg,Sem.run_pure,part,y,C,if_true,z];have e:vs.toArray.extract o (o+n)=((List.range n).map λj=>(vs[o+j]?).getD undef).toArray:=by
      apply wJ;apply xY;intro j;simp only[Array.toList_extract,List.extract_eq_take_drop,yX,xR,qA,xV];by_cases hj:j<n
      .have:o+j<vs.length:=by omega
       simp[hj,this]
      .simp[hj]
     rw[e]
    |false=>
     have:n=1:=by simpa using c.2
     subst this;have a:o<vs.length:=by omega
     simp[Instr.field,run_underlying B,Result.andThen,A,asAgg,part,y,z,a]
  |_=>simp[jD]at h
variable{k:Nat}
def sq(h:aH P t=some i){e b:Nat}{a:Bool}(f:i.sl=some (e,a,k,b)):P.underlying t=some (.slice e)/\eQ P e=some (a,k)/\P.bytesOf e=b:=by
 obtain⟨c,u,l,g,_,_,_,d,_,_,_⟩:=FC h;rw[d]at f
 cases u with
 |slice m=>
  simp only[xN,vY]at f;obtain⟨sz,j,rfl,rfl,rfl,rfl⟩:=f;exact⟨g,by rw[j],rfl⟩
 |_=>simp at f
def nz(h:aH P t=some i){n:Nat}{a:Bool}(f:i.arr=some (n,a,k)):∃e,P.underlying t=some (.array n e)/\eQ P e=some (a,k):=by
 obtain⟨b,u,j,d,_,_,_,_,c,_,_⟩:=FC h;rw[c]at f
 cases u with
 |array m e=>
  simp only[xN,vY]at f;obtain⟨sz,g,rfl,rfl,rfl⟩:=f;exact⟨e,d,by rw[g]⟩
 |_=>simp at f
def qj(h:aH P t=some i)(f:i.str=true):P.underlying t=some .string:=by
 obtain⟨a,u,d,c,_,_,_,_,_,_,b⟩:=FC h;rw[b]at f
 cases u<;>simp at f
 exact c
def M9{p:Prop}(h:p:=by
 have:=hx.val rfl;subst this;exact⟨_,by simp[Builtin.len_,run_underlying hu,Result.andThen,goInt],.v _⟩):p:=h
def Lr{ty:TypeId}(j:∀t i,T t=some i->aH P t=some i){o:D}(h:F6 (T t) o=some (s,d))(hx:Rd w (ay σ X) o x) :
  ∃u,(Builtin.len_ #[t] ty #[x]).run P w= .ok u w/\Rd w (ay σ X) d u:=by
 cases b:T t with
 |none=>rw[b]at h;simp[F6]at h
 |some i=>
  rw[b]at h;unfold F6 at h;split at h
  .rename_i m k r g
   cases g
   cases f:i.sl with
   |none=>rw[f]at h;cases h
   |some p=>
    obtain⟨e,A,y,l⟩:=p;rw[f]at h
    cases h
    have hu:=(sq (j t i b) f).1;generalize z:D.sl k r=q at hx
    cases hx<;>cases z
    exact⟨_,by simp[Builtin.len_,run_underlying hu,Result.andThen,goInt],.v _⟩
  .rename_i m a n c g
   cases g
   cases f:i.sl with
   |none=>rw[f]at h;cases h
   |some p=>
    obtain⟨e,A,y,l⟩:=p;rw[f]at h
    cases h
    have hu:=(sq (j t i b) f).1;exact M9
  .rename_i m s g
   cases g
   cases f:i.str with
   |false=>rw[f]at h;cases h
   |true=>
    rw[f]at h
    cases h
    have hu:=qj (j t i b) f;exact M9
  .cases h
def wT:=@Nat.blt_eq
def Lu(G:∀t i,T t=some i->aH P t=some i){H I:D}{y:Value}(h:za (T t) H I=some (s,d))(E:s)(hx:Rd w (ay σ X) H x)(C:Rd w (ay σ X) I y) :
  ∃u,(Instr.indexAt t x y).run P w= .ok u w/\Rd w (ay σ X) d u:=by
 cases a:T t with
 |none=>rw[a]at h;simp[za]at h
 |some i=>
  rw[a]at h;unfold za at h;split at h
  .rename_i M J L j B
   cases B
   split at h
   .rename_i n V k r
    cases f:(Nat.blt j n&&Nat.ble (j*k) J.length)with
    |false=>rw[f]at h;cases h
    |true=>
     rw[f]at h;cases h
     simp only[zJ,vL,wT]at f;obtain⟨e,l,z⟩:=nz (G t i a) r;have g:=(sj z w).2;have:=C.val rfl;subst this;generalize O:D.ro J=q at hx
     cases hx<;>cases O
     rename_i b o vs S R A N;refine⟨.pointer (some ⟨b,o+j*k,none⟩),?_,.ro _ _ _ (λm=>vs (j*k+m)) S R (λm Q=>?_) (λm d F=>?_)⟩
     .have Y:(Int.ofNat j).toNat=j:=rfl;have W:(Int.ofNat j:Int)<n:=by simpa using f.1
      simp[Instr.indexAt,asIntOf,run_underlying l,Instr.sureAddr,Result.andThen,g,y3,f.1]
     .rw[vQ];exact A (j*k+m) (by simp at Q;omega)
     .rw[xR]at F;exact N _ _ F
   .cases h
  .rename_i M b K n c L j B
   cases B
   split at h
   .rename_i e V k U p
    cases h
    obtain⟨l,z,_⟩:=sq (G t i a) p;have g:=(sj z w).2;have:=C.val rfl;subst this;have:=hx.val rfl;subst this;exact⟨_,by simp[Instr.indexAt,asIntOf,run_underlying l,Result.andThen,g,y3,E.1,E.2],.v _⟩
   .cases h
  .cases h
def vD:=@List.map_toArray
variable{o:Oper}
def Oi(C:∀t i,T t=some i->aH P t=some i)(h:iQ T o.op ρ=some (s,d))(L:s):Yd P o ρ σ d:=by
 intro w X η j K;obtain⟨dst,op,U,pos,aft,g⟩:=o;simp only at h j;unfold iQ at h;split at h
 .rename_i x;cases h;exact⟨Ex.refl w,j x (by simp[Op.operands])⟩
 .rename_i x;cases h;exact⟨Ex.refl w,j x (by simp[Op.operands])⟩
 .rename_i c x y;have m:=j c (by simp[Op.operands]);have hx:=j x (by simp[Op.operands]);have F:=j y (by simp[Op.operands]);unfold uR at h;split at h
  .rename_i e;cases h;rw[e]at m;have:=m.val rfl;simp only[execOp,this,asBool];exact⟨Ex.refl w,hx⟩
  .rename_i e;cases h;rw[e]at m;have:=m.val rfl;simp only[execOp,this,asBool];exact⟨Ex.refl w,F⟩
  .cases h
 .rename_i t x;have hx:=j x (by simp[Op.operands]);unfold zi at h;split at h
  .cases h
  .rename_i M
   cases h
   exact ev (s:=Instr.box t (η x)) (by simp[Instr.box,newVar,newRow,newObj,Sem.run,Result.andThen]) ((Ex.refl w).alloc) (O6 K hx M t)
 .rename_i x;have hx:=j x (by simp[Op.operands]);unfold Rh at h;split at h
  .rename_i I e;cases h;rw[e]at hx;generalize p:η x=u at *;generalize A:D.ro I=q at hx;cases hx<;>cases A;rename_i b W vs Z Y m z;simp only[execOp,p];exact⟨Ex.refl w,.ro _ _ _ vs Z Y m z⟩
  .rename_i f I e;cases h;rw[e]at hx;generalize p:η x=u at *;generalize A:D.clo f I=q at hx;cases hx<;>cases A;rename_i vs N z;simp only[execOp,p];exact⟨Ex.refl w,.clo f I vs N z⟩
  .rename_i a e;cases h;rw[e]at hx;have:=hx.val rfl;simp only[execOp,this];exact⟨Ex.refl w,.v _⟩
  .rename_i f x y e;cases h;rw[e]at hx;have:=hx.val rfl;simp only[execOp,this];exact⟨Ex.refl w,.v _⟩
  .cases h
 .rename_i b t x y _;have hx:=j x (by simp[Op.operands]);have F:=j y (by simp[Op.operands]);unfold Rp at h;split at h
  .rename_i u v n H;rw[n]at hx;rw[H]at F;simp only[xN]at h;obtain⟨⟨V,r⟩,l,k⟩:=h
   cases k
   have:=Hp (P:=P) l L t x y w;rw[←hx.val rfl,←F.val rfl]at this;exact ev this (Ex.refl w) (.v _)
  .cases h
 .rename_i b t x;have hx:=j x (by simp[Op.operands]);unfold aUn at h;split at h
  .rename_i u n;rw[n]at hx;simp only[xN]at h;obtain⟨⟨V,r⟩,l,k⟩:=h
   cases k
   have:=Ow (P:=P) l L w;rw[←hx.val rfl]at this;exact ev this (Ex.refl w) (.v _)
  .cases h
 .rename_i t x;obtain⟨u,l,k⟩:=F5 C h (j x (by simp[Op.operands]));exact ev l (Ex.refl w) k
 .rename_i t x f;obtain⟨u,l,k⟩:=zg C h (j x (by simp[Op.operands]));exact ev l (Ex.refl w) k
 .rename_i t x f;obtain⟨u,l,k⟩:=FZ C h (j x (by simp[Op.operands]));exact ev l (Ex.refl w) k
 .rename_i x i;have hx:=j x (by simp[Op.operands]);generalize Q:i=i0 at h;unfold LA at h;split at h
  .rename_i ds e;subst Q;rw[e]at hx;split at h
   .rename_i S G
    cases h
    generalize p:η x=u at *;generalize A:D.tup ds=q at hx
    cases hx<;>cases A
    rename_i vs N z;have B:i<vs.length:=by rw[N];exact(zE.1 G).1
    refine ev (s:=Instr.extract (η x) i) (u:=vs[i]) (by rw[p];simp[Instr.extract,B]) (Ex.refl w) (z i _ _ G (zD B))
   .cases h
  .rename_i vs e;subst Q;rw[e]at hx;split at h
   .rename_i S G
    cases h
    have:=hx.val rfl;exact ev (s:=Instr.extract (η x) i) (u:=S) (by rw[this];simp[Instr.extract,G]) (Ex.refl w) (.v _)
   .cases h
  .cases h
 .rename_i t x i;obtain⟨u,l,k⟩:=Lu C h L (j x (by simp[Op.operands])) (j i (by simp[Op.operands]));exact ev l (Ex.refl w) k
 .rename_i c;obtain⟨J,E,O⟩:=c;unfold F7 at h;split at h
  .rename_i x t n H R;simp only at n H R;have k:E= #[x]:=by apply wJ;simpa using H
   have h3:O= #[t]:=by apply wJ;simpa using R
   subst n k h3;obtain⟨u,g1,g2⟩:=Lr (ty:=U) C h (j x (by simp[Op.operands,Call.operands]));simp only[execOp,resolve,invoke,builtin,Sem.run_bind,Sem.run_pure,Result.andThen,vD,List.map_cons,List.map_nil,g1];exact⟨Ex.refl w,g2⟩
  .cases h
 .cases h
def AB(U:∀t i,T t=some i->aH P t=some i){x f:Operand}{xs:List (List D)}{F:IntKind}{j:Int}{p:Nat×Bool×Nat×Nat}(B:o.op= .indexAddr t x f)(hx:ρ x= .sl k xs)(Q:ρ f= .v (.int F j))
  (J:T t=some i) (L:i.sl=some p) (l:p.2.2.1=k) (n:xs[j.toNat]?=some cs) (W:0<=j):Yd P o ρ σ (.ro cs):=by
 intro w X η c K;obtain⟨dst,op,ty,pos,aft,g⟩:=o;simp only at B;subst B;obtain⟨e,ag,A,Z⟩:=p;simp only at l;subst l;have E:=c x (by simp[Op.operands]);have q:=c f (by simp[Op.operands]);rw[hx]at E;rw[Q]at q;have q:=q.val rfl;obtain⟨I,z,_⟩:=sq (U t i J) L;have G:=(sj z w).2;obtain⟨a,Y,vs,H,C,l,y,M⟩:=E.sl_inv;obtain⟨b,r,rfl,V,S,h⟩:=y _ _ n;have N:j.toNat<xs.length:=(zE.1 n).1;have O:j<xs.length:=by omega
 have hl:cs.length=A:=l cs (zG n);refine ev (s:=Instr.indexAt t (η x) (η f)) (u:=.pointer (some ⟨b,r+j.toNat*A,none⟩)) ?_ (Ex.refl w) (.ro _ _ _ (vs j.toNat) V S (λm hm=>h m (by omega)) (λm d R=>M _ _ n m d R));rw[H,q];simp[Instr.indexAt,asIntOf,run_underlying I,Result.andThen,G,y3,W,O]
end
end
end Go.Proofs.YtilnpcolgcmofaaGreatDoor
