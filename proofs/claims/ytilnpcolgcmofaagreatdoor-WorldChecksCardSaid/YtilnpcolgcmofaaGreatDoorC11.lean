/- A part of the proof. -/
import Derived.Test.YtilnpcolgcmofaaGreatDoorC10
set_option maxRecDepth 100000
set_option maxHeartbeats 20000000
set_option linter.all false
namespace Go.Proofs.YtilnpcolgcmofaaGreatDoor
open Tryz
section
open Go Go.RowKit Go.Shelf
variable{p:Prop}
def ZM(h:p:=by
 rcases zO.1 hbk with h|h
 .obtain⟨h1,o,h2,h3⟩:=g4.at_ b k h;refine⟨h1,o,h2,?_⟩;have hfk:=f2 _ h
  cases k with
  |cells t cs=>
   obtain⟨vs,q1,q2⟩:=h3;exact⟨vs,q1,q2.len,λj d u r1 r2=>ED (q2.at_ j d u r1 r2) (hfk d (zG r1))⟩
  |obj ok=>exact h3
  |mp P k G=>exact hfk.elim
 .obtain⟨h1,o,h2,h3⟩:=hsp.at_ b k (yW _ h);have hlt:=(zX.1 h2).1;have hnτ:b ∉ aT τ:=λhb=>n3 b hb b (RT h) rfl;exact⟨h1,o,(g5.keep.block b hlt hnτ).trans h2,tK hz hO hblk h3⟩):p:=h
def Y8(h:p:=by
 rw[en,zO]at ho;rcases ho with ho|ho
 .rcases g5.new b ho with h|h
  .exact hn (.inr (by rw[en];exact xK _ h))
  .omega
 .exact hn (.inr (by rw[en];exact yW _ ho))):p:=h
def ND(h:p:=by
 rw[en,wR];refine⟨g4.nodup,n2,λb h1 c h2 e=>?_⟩;subst e;rcases g5.new b h1 with h|h
 .exact n3 b h b h2 rfl
 .have:=hρ b h2;omega):p:=h
def Na(h:p:=by
 rw[en,zO]at hb;rcases hb with hb|hb
 .exact g4.lt hb
 .exact yI (hρ b hb) hz):p:=h
def rA{w w':World}{X:Nat->Prop}{τ ρ s:ae}(hsp:aW w X (τ++ρ))(g4:aW w' X s)(g5:Mv w τ w' s)(f2:mT s):aW w' X (s++ρ)/\Mv w (τ++ρ) w' (s++ρ)/\(∀b,b<w.heap.size->¬ay (τ++ρ) X b->¬ay (s++ρ) X b)/\(∀b,b<w.heap.size->¬ay (τ++ρ) X b->w'.heap[b]?=w.heap[b]?):=by
 have a:=hsp.nodup;rw[en,wR]at a;obtain⟨n,n2,n3⟩:=a;have hz:=g5.keep.size;have hblk:∀b,b<w.heap.size->¬ay (τ++ρ) X b->w'.heap[b]?=w.heap[b]?:=λb hb hn=>g5.keep.block b hb (λf=>hn (.inr (by rw[en];exact xK _ f)));have hO:∀b,b<w.heap.size->¬ay (τ++ρ) X b->¬ay (s++ρ) X b:=λb hb hn ho=>by
  rcases ho with ho|ho
  .exact hn (.inl ho)
  .exact Y8
 have hρ:∀b,b∈aT ρ->b<w.heap.size:=λb hb=>hsp.lt (by rw[en];exact yW _ hb);refine⟨⟨?_,λb k hbk=>?_,λb hb=>yI (hsp.xlt b hb) hz,?_⟩,⟨⟨g5.keep.os,g5.keep.tape,g5.keep.output,hz,λb hb hn=>g5.keep.block b hb (λf=>hn (by rw[en];exact xK _ f))⟩,λb hb=>?_⟩,hO,hblk⟩
 .exact ND
 .exact ZM
 .refine hsp.gok.keep hz hO hblk (λb hb=>?_);rcases hb with hb|hb
  .exact yI (hsp.xlt b hb) hz
  .exact Na
 .rw[en,zO]at hb;rcases hb with hb|hb
  .rcases g5.new b hb with h|h
   .exact .inl (by rw[en];exact xK _ h)
   .exact .inr h
  .exact .inl (by rw[en];exact yW _ hb)
def J0{e:TypeId}{k:Nat}{xs:List (List D)}{v:Value}{s:ae}(h:ab e k xs v s)(hx:∀y∈xs,∀d∈y,YH d=true):mT s:=by
 rcases h.is with⟨_,_,rfl⟩|⟨b,i,j,_,rfl,_,_,_,q⟩
 .intro p c;cases c
 .intro p c;rw[zN]at c;subst c;intro d a;rcases zO.1 a with a|a
  .obtain⟨y,g,f⟩:=List.mem_flatten.1 a;exact hx y g d f
  .rw[q d a];rfl
section
variable {P:Program} {r:Option Nat} {n:Nat} {df:Nat} {N:Nat} {σ:ae} {f:aP} {L:List Oper} {T:TypeId->Option TI}
def Fb{p:Prop}(h:p:=by
 simp only[execOp,ho,resolve,invoke,builtin,Sem.run_bind,Sem.run_pure,Result.andThen,vD,List.map_cons,List.map_nil,hpv,hxv,g1]):p:=h
def ce.apcopy(R:∀t i,T t=some i->aH P t=some i){o:Oper}{p x:Operand}{t e e2:TypeId}{i j:TI}{ag:Bool}{k q:Nat}{xs ys:List (List D)}{v u:Value}{s g τ:ae}{K:aP->ae->Prop}
  (ho:o.op= .call { callee:=.builtin .append,args:=#[p,x],argTypes:=#[t,t] }) (hp:aN f p= .v v) (hx:aN f x= .v u) (ht:T t=some i) (hi:i.sl=some (e,ag,k,q)) (he:T e=some j) (hz:j.zero.length=j.size) (E:0<k) (hk:j.size=k)
  (hr:ab e k xs v s) (C:ab e2 k ys u g) (z:σ.Perm (s++(g++τ))) (G:∀y∈xs++ys,∀d∈y,YH d=true) (h1:∀y∈ys,y.all cY=true) (hb:(xs.length+ys.length)*q<=140737488355328) (hm:xs.length+ys.length<=1000000000)
  (kk:∀l m,ab e k (xs++ys) l m->W (aX N o.dst (.v l) f (λV=>K V (m++(g++τ))))):ce P r n df L N o f σ K:=by
 refine⟨λJ Q a c hw F=>?_⟩;refine FJ z ?_;refine nc hw (by rw[ho];rfl) λw X U b=>?_;have hpv:=c.le p _ _ _ (b.fr.eval p);rw[hp]at hpv;have hpv:=hpv.val rfl;have hxv:=c.le x _ _ _ (b.fr.eval x);rw[hx]at hxv;have hxv:=hxv.val rfl;have A:aW w X s:=b.st.sub (xU _ _);have hu:Rd w (ay s X) (.sl k ys) u:=by
  refine LB C ((b.st.sub (show(s++g).Sublist (s++(g++τ)) from(xQ s).append (xU _ _))).perm yT)
 obtain⟨l,I,m,g1,S,g3,H⟩:=aX6 (ty:=o.type) (R t i ht) hi (R e j he) hz E hk hr A hu h1 hb (by unfold maxLen;omega);have ee:(execOp U.eval o).run P w= .ok (.value l) I:=Fb;rw[ee];obtain⟨Z,Y,O,M⟩:=rA b.st g3 H (J0 S G);obtain⟨V,B,h4⟩:=fT (kk l m S).h c;exact⟨_,_,Y,(⟨b.fr.keep H.keep.size O M,Z,b.df.keep H.keep.size O M⟩:St I X df a (m++(g++τ)) U).put (.v _) o.dst,F _ _ _ h4 B⟩
end
def Zs{p:Prop}(h:p:=by
 have h1:=Int.natAbs_tdiv_le_natAbs a k;obtain⟨h2,h3⟩:=h;unfold dP;have h4:(-a).tdiv k= -(a.tdiv k):=Int.neg_tdiv a k;by_cases h0:0<=a
 .have:=Int.tdiv_nonneg h0 (show 0<=k by omega);omega
 .have:=Int.tdiv_nonneg (show 0 <= -a by omega) (show 0<=k by omega);omega):p:=h
def Aj{a:Int}(h:dP a)(k:Int)(b:1<=k):dP (a.tdiv k):=Zs
variable{k i:Nat}{v:Value}{l:List (List Int)}
def SC{o:Wd}{σ:ae}(h:RW o v σ){r:List Int}(F:o[k]?=some l)(D:l[i]?=some r) :
  ∃j e b f c d m t2 ρ,v= .slice (some ⟨j,0,none⟩) o.length e/\σ.Perm ((j,.cells 70 b)::(f,.cells 22 d)::(t2++ρ))/\b[k]?=some (.v (.slice (some ⟨f,0,none⟩) l.length c))/\d[i]?=some (.v m)/\RI r m t2 /\
   ∀n g t' s,RI n g t'->s.Perm ((j,.cells 70 b)::(f,.cells 22 (d.set i (.v g)))::(t'++ρ))->RW (o.set k (l.set i n)) v s:=by
 obtain⟨j,e,b,u,t,τ,e0,A,y,B,p⟩:=aC.at h F;obtain⟨f,c,d,m,t2,τ2,x,z,c1,q,up1⟩:=aC.at B D;subst x;refine⟨j,e,b,f,c,d,m,t2,τ2++τ,e0,?_,y,c1,q,λn g t' s w E=>?_⟩
 .refine cV λa=>?_;have x:=pD A a;have I:=pD z a;simp only[List.append_eq,List.nil_append,cU,dn,de]at x I⊢;omega
 .have C:b.set k (.v (.slice (some ⟨f,0,none⟩) l.length c))=b:=by
   obtain⟨H,G⟩:=zE.1 y;rw[←G];exact List.set_getElem_self H
  refine p _ (.slice (some ⟨f,0,none⟩) l.length c) ((f,.cells 22 (d.set i (.v g)))::(t'++τ2)) _ (up1 n g t' _ w (zH _)) ?_;rw[C];refine E.trans (cV λa=>?_);simp only[List.append_eq,List.nil_append,cU,dn,de];omega
def BR(e:TypeId)(d:D)(m b:Nat)(a:m<=maxLen):ab e 1 (List.replicate m [d]) (.slice (some ⟨b,0,none⟩) m m) [(b,.cells e (List.replicate m d))]:=
 ⟨λy h=>by rw[(List.mem_replicate.1 h).2];rfl,.inr ⟨b,m,[],by simp,by simp,by simp,a,by simp,λd c=>by cases c⟩⟩
def IE(b:Nat){m:Nat}(h:m<=1000):RI (List.replicate m 0) (.slice (some ⟨b,0,none⟩) m m) [(b,.cells 3 (List.replicate m (.v (zv (ZV.int .i64)))))]:=by
 show ab _ 1 ((List.replicate m (0:Int)).map _) _ _;rw[List.map_replicate];exact BR _ _ m b (by unfold maxLen;omega)
def UG{σ:ae}{x y:Nat×ax}{t:ae}(h:σ.Perm (x::y::t)):x∈σ:=h.mem_iff.2 yN
def UF{σ:ae}{x y:Nat×ax}{t:ae}(h:σ.Perm (x::y::t)):y∈σ:=h.mem_iff.2 (yQ _ yN)
def Hm{o:Wd}{σ:ae}(h:RW o v σ)(f:o[k]?=some l) :
  ∃b a c u t τ,v= .slice (some ⟨b,0,none⟩) o.length a/\σ.Perm ((b,.cells 70 c)::(t++τ))/\c[k]?=some (.v u)/\uX l u t /\
   ∀e d t' s,uX e d t'->s.Perm ((b,.cells 70 (c.set k (.v d)))::(t'++τ))->RW (o.set k e) v s:=aC.at h f
variable{w:Wd}{c:Nat}
def iW.up{a b:Nat}(h:iW a b c w):iW (a+1) (b+1) (c+1) w:=⟨by have:=h.k;omega,λl d=>by have:=h.n l d;omega,λl d r e=>by have:=h.f l d r e;omega,h.v⟩
def bf4{a b:Nat}(f:iW a b c w)(k:Nat)(j:l.length<=b+1)(i:∀r∈l,r.length<=c+1)(g:∀r∈l,∀v∈r,cp v):iW (a+1) (b+1) (c+1) (w.set k l):=by
 have h:=f.up;refine⟨by rw[yR];exact h.k,λy d=>?_,λy d=>?_,λy d=>?_⟩<;>rcases yZ d with e|rfl
 .exact h.n y e
 .exact j
 .exact h.f y e
 .exact i
 .exact h.v y e
 .exact g
variable{r':List Int}
def bf5{a b:Nat}(f:iW a b c w)(k i:Nat)(d:l∈w)(m:r'.length<=c+1)(j:∀v∈r',cp v):iW (a+1) (b+1) (c+1) (w.set k (l.set i r')):=by
 have h:=f.up;refine bf4 f k (by rw[yR];exact h.n l d) (λy e=>?_) (λy e=>?_)<;>rcases yZ e with g|rfl
 .exact h.f l d y g
 .exact m
 .exact h.v l d y g
 .exact j
def A0{a b:Nat}(h:iW a b c w)(k i:Nat)(g:l∈w)(m:r'.length<=c)(j:∀v∈r',cp v):iW a b c (w.set k (l.set i r')):=by
 refine⟨by rw[yR];exact h.k,λy f=>?_,λy f=>?_,λy f=>?_⟩<;>rcases yZ f with d|rfl
 .exact h.n y d
 .rw[yR];exact h.n l g
 .exact h.f y d
 .intro z e;rcases yZ e with d|rfl
  .exact h.f l g z d
  .exact m
 .exact h.v y d
 .intro z e;rcases yZ e with d|rfl
  .exact h.v l g z d
  .exact j
def P1{r:List Int}{f:Nat}{z:Int}(h:∀v∈r,cp v)(a:cp z):∀v∈r.set f z,cp v:=λv b=>by
 rcases yZ b with c|rfl
 .exact h v c
 .exact a
def HZ(a:Int){n:Int}(h:0<n):-n<a.tmod n/\a.tmod n<n:=by
 refine⟨?_,Int.tmod_lt_of_pos a h⟩;have:=Int.tmod_lt_of_pos (-a) h;rw[Int.neg_tmod]at this;omega
def aE2{α:Type}{l:List α}{x:α}(h:l[i]?=some x):l.set i x=l:=by
 obtain⟨b,a⟩:=zE.1 h;rw[←a];exact List.set_getElem_self b
def aM1(n:Int):cp (IntKind.i64.wrap n):=by
 rw[IntKind.wrap_i64];constructor<;>omega
section
variable {P:Program} {ρ:Operand->D} {σ:ae} {o:Oper} {t t':TypeId} {x y:Operand} {a b z:Int}
def G5(d:IntKind.i64.wrap (a+b)=z)(c:o.op= .binOp .add t x y t')(hx:ρ x= .v (.int .i64 a))(e:ρ y= .v (.int .i64 b)):Yd P o ρ σ (.v (.int .i64 z)):=by
 subst d;intro w X η h f;obtain⟨dst,op,l,pos,k,g⟩:=o;simp only at c;subst c;have j:=(h x (by simp[Op.operands])).val hx;have i:=(h y (by simp[Op.operands])).val e;refine ev (s:=do eqGuard .add t x y (η x) (η y);binOp .add t (η x) (η y)) (u:=.int .i64 (IntKind.i64.wrap (a+b))) ?_ (Ex.refl w) (.v _);rw[j,i];simp[eqGuard,binOp,Op.intArith]
def G0(d:IntKind.i64.wrap (a-b)=z)(c:o.op= .binOp .sub t x y t')(hx:ρ x= .v (.int .i64 a))(e:ρ y= .v (.int .i64 b)):Yd P o ρ σ (.v (.int .i64 z)):=by
 subst d;intro w X η h f;obtain⟨dst,op,l,pos,k,g⟩:=o;simp only at c;subst c;have j:=(h x (by simp[Op.operands])).val hx;have i:=(h y (by simp[Op.operands])).val e;refine ev (s:=do eqGuard .sub t x y (η x) (η y);binOp .sub t (η x) (η y)) (u:=.int .i64 (IntKind.i64.wrap (a-b))) ?_ (Ex.refl w) (.v _);rw[j,i];simp[eqGuard,binOp,Op.intArith]
end
def bj5(a b c:Nat):D->ae->Prop:=λd _=>∃w,d=fI w/\iW (a+1) (b+1) (c+1) w
variable{α:Type}{vs:List Value}{ts:List ae}{R:dZ α}{xs:List α}
def cA.del(h:cA R xs vs ts):∀{i:Nat},i<xs.length->∃a t,cA R (xs.take i++xs.drop (i+1)) (vs.take i++vs.drop (i+1)) a/\ts.flatten.Perm (a.flatten++t):=by
 induction h with
 |nil=>intro i b;simp at b
 | @cons x u t xs vs ts h k c=>
  intro i b
  cases i with
  |zero=>exact⟨ts,t,k,by simp[yT]⟩
  |succ i=>
   obtain⟨a,t',d,g⟩:=c (i:=i) (by simpa using b);exact⟨t::a,t',.cons h d,by rw[List.flatten_cons,List.flatten_cons,zV];exact g.append_left t⟩
def cA.one(b:∀x u t,R x u t->u.oneCell'=true)(h:cA R xs vs ts):∀u∈vs,u.oneCell'=true:=by
 induction h with
 |nil=>intro u a;cases a
 |cons h k i=>
  intro u a;rcases zU.1 a with rfl|a
  .exact b _ _ _ h
  .exact i u a
variable{A B:Prop}
def cI(k:B)(h:ar B->A:=by intro q7;(first|refine bh ?_|refine zw ?_|(refine' aj ?hc ?_;(case hc=>first|exact HA6|exact HA1|exact HA2|exact HA3|exact HA4|exact HA5)));exact q7.1):A:=h ⟨k⟩
def OV(k:B)(h:ar B->A:=by intro q7;(first|refine bh ?_|refine aE ?_|(refine' aj ?hc ?_;(case hc=>first|exact HA6|exact HA1|exact HA2|exact HA3|exact HA4|exact HA5)));exact q7.1):A:=h ⟨k⟩
def bs7(k:B)(h:ar B->A:=by intro q7;(first|(with_reducible refine Bc.l ?_)|((with_reducible refine Bx.r ?_);(conv=>whnf);(with_reducible refine' Ot.yd ?hyw7 ?_);(case hyw7=>first|exact G5 hz1 rfl rfl rfl|exact G0 hz2 rfl rfl rfl))|(with_reducible refine Bx.l ?_)|fail|refine RF ?_);exact q7.1):A:=h ⟨k⟩
def T1(k:B)(h:ar B->A:=by intro q7;(first|refine bh ?_|refine bs7 ?_|(refine' aj ?hc ?_;(case hc=>first|exact HA6|exact HA1|exact HA2|exact HA3|exact HA4|exact HA5)));exact q7.1):A:=h ⟨k⟩
variable{p:Prop}
def cl8(h:p:=by show D.v (Value.int .i64 ((i:Int)+1))=D.v (Value.int .i64 ((cap1':Nat):Int));rw[show cap1'=i+1 by omega];rfl):p:=h
def cl9(h:p:=by refine cV λa=>?_;have e1:=pD p1 a;have e2:=pD g3 a;simp only[List.append_eq,List.nil_append,cU,dn,de]at e1 e2⊢;omega):p:=h
def Qw(h:p:=by rw[aR];exact(zE.1 c0').1):p:=h
def bk1(h:p:=by rw[aR];first|done|rfl|(rw[show l.length-(i+1)=0 by omega])):p:=h
def bk0(h:p:=by refine cV λa=>?_;have e1:=pD e4 a;simp only[List.append_eq,List.nil_append,cU,dn,de]at e1⊢;omega):p:=h
def bj9(h:p:=by refine cV λa=>?_;have e1:=pD p1 a;have e2:=pD p2 a;simp only[List.append_eq,List.nil_append,cU,dn,de]at e1 e2⊢;omega):p:=h
def bD7(h:p:=by refine cV λa=>?_;have e2:=pD g3 a;have e3:=pD p2 a;simp only[List.append_eq,List.nil_append,cU,dn,de]at e2 e3⊢;omega):p:=h
def Qv(h:p:=by refine cV λa=>?_;have e1:=pD p0 a;simp only[List.append_eq,List.nil_append,cU,dn,de]at e1⊢;omega):p:=h
def bD6(h:p:=by rw[aE2 c1];refine cV λa=>?_;simp only[List.append_eq,List.nil_append,cU,dn,de];omega):p:=h
def vR:=@List.map_take
def cq1(h:p:=by
 repeat' first|((with_reducible refine W.mk ?_);(conv=>whnf))|(refine Ld.cellm (tb:=70) (cs:=cs0) m0 (by rw[aR];exact c0) ?_)|(refine Ld.cellm (tb:=22) (cs:=cs1) m1 (by rw[aR];exact c1) ?_)|(refine Ld.cellm (tb:=3) (cs:=cells) m2 (by rw[aR];exact hcf) ?_)|refine cI ?_|intro b;conv=>whnf
 refine gS ?_;obtain⟨b0',cap0',cs0',u3,t3,τ3,e0',p1,c0',hu3,up3⟩:=Hm hR hl
 cases e0'
 obtain⟨vs,s0,ts,g1,g2,g3⟩:=hu3.ex;have hvl:=g2.len.1;have hlv:(vs.map λu=>[D.v u]).length=l.length:=by rw[zL,hvl]
 obtain⟨b1',cap1',junk,rfl,rfl,-,-,-,-⟩:=g1.block (by intro e;rw[e]at hlv;simp at hlv;omega);generalize((vs.map λu=>[D.v u]).flatten++junk)=cs1' at g1 g3;obtain⟨d1,d2,-,d4,d5,cs6,d6,d7⟩:=g1.del (i:=i) (by rw[hlv];omega);rw[hlv]at d1 d2 d4 d6 c0';have hone:((vs.map λu=>[D.v u]).drop (i+1)).flatten.all cY=true:=by
  rw[yA];intro d hd;obtain⟨y,hy,hdy⟩:=List.mem_flatten.1 hd;obtain⟨u,hu,rfl⟩:=xM.1 (List.mem_of_mem_drop hy);rw[zN]at hdy;subst hdy;exact cA.one (λx u t h=>by obtain⟨a,c,rfl⟩:=Sm h;rfl) g2 u hu
 obtain⟨ts',tr,e3,e4⟩:=g2.del (i:=i) (by omega);have hw1:uX (l.take i++l.drop (i+1)) (.slice (some ⟨b1',0,none⟩) (i+(l.length-(i+1))) cap1') ((b1',.cells 22 cs6)::ts'.flatten):=⟨vs.take i++vs.drop (i+1),[(b1',.cells 22 cs6)],ts',by simpa [vR,List.map_drop]using d6,e3,by simp⟩
 clear d6 e3 hlv;generalize((vs.map λu=>[D.v u]).drop (i+1)).flatten=new at *;have m0':=p1.mem_iff.2 yN;clear g1 g2 hu3;refine iG mixed ai rfl [0,1,2,3,4,6,8,9,10,12,13] 7 (hQ [5,11,15,17]) (.two 5 (.fst 7 (.one 11 (.fst 14 (.one 15 (.fst 16 (.one 17 .done)))))) 11 (.fst 14 (.one 5 (.fst 7 (.one 15 (.fst 16 (.one 17 .done))))))) (γ:=ae) (λ_=>[]) (λg=>g) (λg=>RW (w.set k (l.take i++l.drop (i+1))) (.slice (some ⟨b0,0,none⟩) w.length vc) g) (by decide +kernel) ?_ ?_
 .by_cases hcap:i+1<cap1'
  .repeat' first|((with_reducible refine W.mk ?_);(conv=>whnf))|(refine Ld.cellm (tb:=70) (cs:=cs0') m0' (by rw[aR];exact c0') ?_)|((with_reducible refine' Ot.yd ?hydq1 ?_);(case hydq1=>first|exact au9 ai (l:=0) (h:=i) rfl rfl rfl rfl (.inl ⟨rfl,rfl⟩) (.inr ⟨_,_,rfl,rfl⟩) (by omega) (by omega) (by omega)|exact au9 ai (l:=i+1) (h:=l.length) rfl rfl rfl rfl (.inr ⟨_,_,rfl,rfl⟩) (.inl ⟨rfl,rfl⟩) (by omega) (by omega) (by omega)|exact aM0 ai (c:=cap1') (m:=l.length) rfl rfl rfl rfl cl8 (by omega)))|(refine Bx.r ?_;refine ce.apown ai (e:=22) (b:=b1') (n0:=i) (cap:=cap1') (o2:=0+(i+1)*1) (m:=l.length-(i+1)) (cs:=cs1') (new:=new) (τ:=(b0,.cells 70 cs0')::(ts.flatten++τ3)) rfl rfl rfl rfl rfl rfl rfl cl9 (by rw[xD];exact d1.symm) d2 (by omega) (by omega) hone ?_)|refine cI ?_|intro b;conv=>whnf|(refine And.intro ?_ ?_<;>(conv=>whnf))
   all_goals
    repeat' first|((with_reducible refine W.mk ?_);(conv=>whnf))|(refine Ld.cellm (tb:=70) (cs:=cs0) m0 (by rw[aR];exact c0) ?_)|(refine Ld.cellm (tb:=22) (cs:=cs1) m1 (by rw[aR];exact c1) ?_)|(refine Ld.cellm (tb:=3) (cs:=cells) m2 (by rw[aR];exact hcf) ?_)|refine cI ?_|intro b;conv=>whnf
    refine Sv.cellm (tb:=70) (cs:=cs0') (cs':=cs0'.set k (.v (.slice (some ⟨b1',0,none⟩) (i+(l.length-(i+1))) cap1'))) (τ:=(b1',.cells 22 (dQ cs1' (i*1) new))::(ts.flatten++τ3)) pa Qw rfl bk1 ?_
    repeat' first|((with_reducible refine W.mk ?_);(conv=>whnf))|(refine Ld.cellm (tb:=70) (cs:=cs0) m0 (by rw[aR];exact c0) ?_)|(refine Ld.cellm (tb:=22) (cs:=cs1) m1 (by rw[aR];exact c1) ?_)|(refine Ld.cellm (tb:=3) (cs:=cells) m2 (by rw[aR];exact hcf) ?_)|refine cI ?_|intro b;conv=>whnf
    have hfin:=up3 _ _ _ ((b0,.cells 70 (cs0'.set k (.v (.slice (some ⟨b1',0,none⟩) (i+(l.length-(i+1))) cap1'))))::(((b1',.cells 22 cs6)::ts'.flatten)++τ3)) hw1 (zH _);exact⟨_,(ah aJ),((Sc.perm bk0).trans (d7 ((b0,.cells 70 (cs0'.set k (.v (.slice (some ⟨b1',0,none⟩) (i+(l.length-(i+1))) cap1'))))::(ts'.flatten++(τ3++tr))))).trans (Sc.drop (ρ:=tr) pa),hfin⟩
  .have hm0:l.length-(i+1)=0:=by omega
   rw[hm0]at d1 d2
   repeat' first|((with_reducible refine W.mk ?_);(conv=>whnf))|(refine Ld.cellm (tb:=70) (cs:=cs0') m0' (by rw[aR];exact c0') ?_)|((with_reducible refine' Ot.yd ?hydq1 ?_);(case hydq1=>first|exact au9 ai (l:=0) (h:=i) rfl rfl rfl rfl (.inl ⟨rfl,rfl⟩) (.inr ⟨_,_,rfl,rfl⟩) (by omega) (by omega) (by omega)|exact au9 ai (l:=i+1) (h:=l.length) rfl rfl rfl rfl (.inr ⟨_,_,rfl,rfl⟩) (.inl ⟨rfl,rfl⟩) (by omega) (by omega) (by omega)|exact aM0 ai (c:=cap1') (m:=l.length) rfl rfl rfl rfl cl8 (by omega)))|(refine Bx.r ?_;refine ce.apown ai (e:=22) (b:=b1') (n0:=i) (cap:=cap1') (o2:=0) (m:=0) (c2:=0) (cs:=cs1') (new:=new) (τ:=(b0,.cells 70 cs0')::(ts.flatten++τ3)) rfl rfl rfl rfl rfl rfl rfl cl9 (by rw[List.eq_nil_of_length_eq_zero (by omega:new.length=0)];try simp) (by rw[d2]) (by omega) (by omega) hone ?_)|refine cI ?_|intro b;conv=>whnf|(refine And.intro ?_ ?_<;>(conv=>whnf))
   all_goals
    repeat' first|((with_reducible refine W.mk ?_);(conv=>whnf))|(refine Ld.cellm (tb:=70) (cs:=cs0) m0 (by rw[aR];exact c0) ?_)|(refine Ld.cellm (tb:=22) (cs:=cs1) m1 (by rw[aR];exact c1) ?_)|(refine Ld.cellm (tb:=3) (cs:=cells) m2 (by rw[aR];exact hcf) ?_)|refine cI ?_|intro b;conv=>whnf
    refine Sv.cellm (tb:=70) (cs:=cs0') (cs':=cs0'.set k (.v (.slice (some ⟨b1',0,none⟩) (i+(l.length-(i+1))) cap1'))) (τ:=(b1',.cells 22 (dQ cs1' (i*1) new))::(ts.flatten++τ3)) pa Qw rfl bk1 ?_
    repeat' first|((with_reducible refine W.mk ?_);(conv=>whnf))|(refine Ld.cellm (tb:=70) (cs:=cs0) m0 (by rw[aR];exact c0) ?_)|(refine Ld.cellm (tb:=22) (cs:=cs1) m1 (by rw[aR];exact c1) ?_)|(refine Ld.cellm (tb:=3) (cs:=cells) m2 (by rw[aR];exact hcf) ?_)|refine cI ?_|intro b;conv=>whnf
    have hfin:=up3 _ _ _ ((b0,.cells 70 (cs0'.set k (.v (.slice (some ⟨b1',0,none⟩) (i+(l.length-(i+1))) cap1'))))::(((b1',.cells 22 cs6)::ts'.flatten)++τ3)) hw1 (zH _);exact⟨_,(ah aJ),((Sc.perm bk0).trans (d7 ((b0,.cells 70 (cs0'.set k (.v (.slice (some ⟨b1',0,none⟩) (i+(l.length-(i+1))) cap1'))))::(ts'.flatten++(τ3++tr))))).trans (Sc.drop (ρ:=tr) pa),hfin⟩
 .intro g hg
  repeat' first|((with_reducible refine W.mk ?_);(conv=>whnf))|(refine Ld.cellm (tb:=70) (cs:=cs0) m0 (by rw[aR];exact c0) ?_)|(refine Ld.cellm (tb:=22) (cs:=cs1) m1 (by rw[aR];exact c1) ?_)|(refine Ld.cellm (tb:=3) (cs:=cells) m2 (by rw[aR];exact hcf) ?_)|refine cI ?_|intro b;conv=>whnf
  exact Rt.by (Vs.frz GW hg (bR _)) ⟨_,rfl,bf4 hw k (by simp;omega) (λy hy=>(zO.1 hy).elim (λh=>by have:=hw.f l hlm y (xG h);omega) (λh=>by have:=hw.f l hlm y (List.mem_of_mem_drop h);omega)) (λy hy=>(zO.1 hy).elim (λh=>hw.v l hlm y (xG h)) (λh=>hw.v l hlm y (List.mem_of_mem_drop h)))⟩):p:=h
def cq3(h:p:=by
 repeat' first|((with_reducible refine W.mk ?_);(conv=>whnf))|(refine Ld.cellm (tb:=70) (cs:=cs0) m0 (by rw[aR];exact c0) ?_)|(refine Ld.cellm (tb:=22) (cs:=cs1) m1 (by rw[aR];exact c1) ?_)|(refine Ld.cellm (tb:=3) (cs:=cells) m2 (by rw[aR];exact hcf) ?_)|refine cI ?_|intro b;conv=>whnf
 refine gS ?_;obtain⟨b0',cap0',cs0',u3,t3,τ3,e0',p1,c0',hu3,up3⟩:=Hm hR hl
 cases e0'
 obtain⟨vs,s0,ts,g1,g2,g3⟩:=hu3.ex;have hvl:=g2.len.1;obtain⟨b1',cap1',cs1',u2',t2',τ2,e1',p2,c1',hu2',_⟩:=aC.at hu3 hr;subst e1';have m0':=p1.mem_iff.2 yN;have m1':(b1',ax.cells 22 cs1')∈s:=p1.mem_iff.2 (yQ _ (xK _ (p2.mem_iff.2 yN)));obtain⟨ra',rc',rfl⟩:=Sm hu2';refine iG mixed ai rfl [0,1,2,3,4,7,8,9,11] 10 (hQ [5,6,10,13,14,16,18]) (.three 5 (.two 6 (.one 10 (.fst 12 (.one 13 (.one 14 (.fst 15 (.one 16 (.fst 17 (.one 18 .done)))))))) 10 (.fst 12 (.two 6 (.one 13 (.one 14 (.fst 15 (.one 16 (.fst 17 (.one 18 .done)))))) 13 (.one 6 (.one 14 (.fst 15 (.one 16 (.fst 17 (.one 18 .done))))))))) 6 (.two 5 (.one 10 (.fst 12 (.one 13 (.one 14 (.fst 15 (.one 16 (.fst 17 (.one 18 .done)))))))) 10 (.fst 12 (.two 5 (.one 13 (.one 14 (.fst 15 (.one 16 (.fst 17 (.one 18 .done)))))) 13 (.two 5 (.one 14 (.fst 15 (.one 16 (.fst 17 (.one 18 .done))))) 14 (.fst 15 (.one 5 (.one 16 (.fst 17 (.one 18 .done))))))))) 10 (.fst 12 (.three 5 (.two 6 (.one 13 (.one 14 (.fst 15 (.one 16 (.fst 17 (.one 18 .done)))))) 13 (.one 6 (.one 14 (.fst 15 (.one 16 (.fst 17 (.one 18 .done))))))) 6 (.two 5 (.one 13 (.one 14 (.fst 15 (.one 16 (.fst 17 (.one 18 .done)))))) 13 (.two 5 (.one 14 (.fst 15 (.one 16 (.fst 17 (.one 18 .done))))) 14 (.fst 15 (.one 5 (.one 16 (.fst 17 (.one 18 .done))))))) 13 (.two 5 (.one 6 (.one 14 (.fst 15 (.one 16 (.fst 17 (.one 18 .done)))))) 6 (.two 5 (.one 14 (.fst 15 (.one 16 (.fst 17 (.one 18 .done))))) 14 (.fst 15 (.one 5 (.one 16 (.fst 17 (.one 18 .done)))))))))) (γ:=ae) (λ_=>[]) (λg=>g) (λg=>RW (w.set k (l++[r])) (.slice (some ⟨b0,0,none⟩) w.length vc) g) (by decide +kernel) ?_ ?_
 .repeat' first|((with_reducible refine W.mk ?_);(conv=>whnf))|(refine Ld.cellm (tb:=70) (cs:=cs0') m0' (by rw[aR];exact c0') ?_)|(refine Ld.cellm (tb:=22) (cs:=cs1') m1' (by rw[aR];exact c1') ?_)|(refine Ld.cellm (tb:=70) (cs:=cs0') (yW _ (yW _ (List.Mem.head _))) (by rw[aR];exact c0') ?_)|(refine Bx.r ?_;refine ce.apcopy (e:=3) ai rfl rfl rfl rfl rfl rfl rfl (by decide) rfl (ab.e0 _ _ (some ⟨b,0,none⟩)) hu2' (τ:=((b0,ax.cells 70 cs0')::(b1',ax.cells 22 cs1')::(τ2++τ3))) bj9 (λy hy d hd=>by rw[List.nil_append]at hy;obtain⟨z,_,rfl⟩:=xM.1 hy;rw[zN]at hd;rw[hd];rfl) (λy hy=>by obtain⟨z,_,rfl⟩:=xM.1 hy;rfl) (by simp;omega) (by simp;omega) (λv5 s5 hr5=>?_);rw[List.nil_append]at hr5;obtain⟨a5,c5,rfl⟩:=Sm hr5)|(refine Bx.l ?_;(((with_reducible refine W.mk ?_);(conv=>whnf)));refine Ap.go rfl rfl rfl rfl g1 (τ:=(ts.flatten++((b0,ax.cells 70 cs0')::(τ3++s5)))) bD7 rfl (zs:=vs.map (λu=>[D.v u])++[[D.v (.slice a5 r.length c5)]]) rfl (H' (c:=1000) (by omega) (by decide)) (by simp;omega) (λs'=>s'++(ts.flatten++((b0,ax.cells 70 cs0')::(τ3++s5)))) (λs'=>zH _) (λa6 c6 s6 hr6=>?_))|refine cI ?_|intro b;conv=>whnf|(refine And.intro ?_ ?_<;>(conv=>whnf))
  all_goals
   have hpu:=ar6 g2 hr6 (x:=r) hr5 (s':=s6++(ts.flatten++s5)) (zH _);have hfin:=up3 _ _ _ ((b0,.cells 70 (cs0'.set k (.v (.slice a6 (vs.map (λu=>[D.v u])++[[D.v (.slice a5 r.length c5)]]).length c6))))::((s6++(ts.flatten++s5))++τ3)) hpu (zH _);refine Sv.cellm (tb:=70) (cs:=cs0') (cs':=cs0'.set k (.v (.slice a6 (vs.map (λu=>[D.v u])++[[D.v (.slice a5 r.length c5)]]).length c6))) (τ:=s6++(ts.flatten++(τ3++s5))) pa Qw rfl (by rw[aR]) ?_
   repeat' first|((with_reducible refine W.mk ?_);(conv=>whnf))|(refine Ld.cellm (tb:=70) (cs:=cs0) m0 (by rw[aR];exact c0) ?_)|(refine Ld.cellm (tb:=22) (cs:=cs1) m1 (by rw[aR];exact c1) ?_)|(refine Ld.cellm (tb:=3) (cs:=cells) m2 (by rw[aR];exact hcf) ?_)|refine cI ?_|intro b;conv=>whnf
   exact⟨_,(ah aJ),Sc.perm pa,hfin⟩
 .intro g hg
  repeat' first|((with_reducible refine W.mk ?_);(conv=>whnf))|(refine Ld.cellm (tb:=70) (cs:=cs0) m0 (by rw[aR];exact c0) ?_)|(refine Ld.cellm (tb:=22) (cs:=cs1) m1 (by rw[aR];exact c1) ?_)|(refine Ld.cellm (tb:=3) (cs:=cells) m2 (by rw[aR];exact hcf) ?_)|refine cI ?_|intro b;conv=>whnf
  exact Rt.by (Vs.frz GW hg (bR _)) ⟨_,rfl,bf4 hw k (by simp;omega) (λy hy=>(zO.1 hy).elim (λh=>by have:=hw.f l hlm y h;omega) (λh=>by rw[zN]at h;rw[h];omega)) (λy hy=>(zO.1 hy).elim (hw.v l hlm y) (λh=>by rw[zN]at h;rw[h];exact hw.v l hlm r hrm))⟩):p:=h
def cq5(h:p:=by
 repeat' first|((with_reducible refine W.mk ?_);(conv=>whnf))|(refine Ld.cellm (tb:=70) (cs:=cs0) m0 (by rw[aR];exact c0) ?_)|(refine Ld.cellm (tb:=22) (cs:=cs1) m1 (by rw[aR];exact c1) ?_)|(refine Ld.cellm (tb:=3) (cs:=cells) m2 (by rw[aR];exact hcf) ?_)|refine cI ?_|intro b;conv=>whnf
 refine gS ?_;refine iG mixed ai rfl [0,1,2,4,5,6,7,9,12,13] 7 (hQ [3,8,11,14,16]) (.two 3 (.one 8 (.fst 10 (.one 11 (.one 14 (.fst 15 (.one 16 .done)))))) 8 (.fst 10 (.two 3 (.one 11 (.one 14 (.fst 15 (.one 16 .done)))) 11 (.two 3 (.one 14 (.fst 15 (.one 16 .done))) 14 (.one 3 (.fst 15 (.one 16 .done))))))) (γ:=ae) (λ_=>[]) (λg=>g) (λg=>RW (w.set k (l.set i (r++[by_]))) (.slice (some ⟨b0,0,none⟩) w.length vc) g) (by decide +kernel) ?_ ?_
 .repeat' first|((with_reducible refine W.mk ?_);(conv=>whnf))|(refine Ld.cellm (tb:=70) (cs:=cs0) m0 (by rw[aR];exact c0) ?_)|(refine Ld.cellm (tb:=22) (cs:=cs1) m1 (by rw[aR];exact c1) ?_)|(refine Ld.cellm (tb:=3) (cs:=cells) m2 (by rw[aR];exact hcf) ?_)|refine cI ?_|intro b;conv=>whnf|(refine Ld.cellm (tb:=70) (cs:=cs0) (yW _ (List.Mem.head _)) (by rw[aR];exact c0) ?_)|(refine Ap.go rfl rfl rfl rfl hu2 (τ:=((b0,ax.cells 70 cs0)::(b1,ax.cells 22 cs1)::ρ)) Qv rfl (zs:=(r++[by_]).map λn=>[iD n]) (by rw[yB];rfl) (vx (c:=1000) (by simp;omega) (by decide)) (by simp;omega) (λs'=>s'++((b0,ax.cells 70 cs0)::(b1,ax.cells 22 cs1)::ρ)) (λs'=>zH _) (λa6 c6 s6 hr6=>?_))|(refine And.intro ?_ ?_<;>(conv=>whnf))
  all_goals
   have hfin:=up (r++[by_]) _ s6 ((b0,.cells 70 cs0)::(b1,.cells 22 (cs1.set i (.v (.slice a6 ((r++[by_]).map λn=>[iD n]).length c6))))::(s6++ρ)) hr6 (zH _);refine Sv.cellm (tb:=22) (cs:=cs1) (cs':=cs1.set i (.v (.slice a6 ((r++[by_]).map λn=>[iD n]).length c6))) (τ:=(b0,.cells 70 cs0)::(s6++ρ)) pa (by rw[aR];exact(zE.1 c1).1) rfl (by rw[aR]) ?_
   repeat' first|((with_reducible refine W.mk ?_);(conv=>whnf))|(refine Ld.cellm (tb:=70) (cs:=cs0) m0 (by rw[aR];exact c0) ?_)|(refine Ld.cellm (tb:=22) (cs:=cs1) m1 (by rw[aR];exact c1) ?_)|(refine Ld.cellm (tb:=3) (cs:=cells) m2 (by rw[aR];exact hcf) ?_)|refine cI ?_|intro b;conv=>whnf
   exact⟨_,(ah aJ),Sc.perm pa,hfin⟩
 .intro g hg
  repeat' first|((with_reducible refine W.mk ?_);(conv=>whnf))|(refine Ld.cellm (tb:=70) (cs:=cs0) m0 (by rw[aR];exact c0) ?_)|(refine Ld.cellm (tb:=22) (cs:=cs1) m1 (by rw[aR];exact c1) ?_)|(refine Ld.cellm (tb:=3) (cs:=cells) m2 (by rw[aR];exact hcf) ?_)|refine cI ?_|intro b;conv=>whnf
  exact Rt.by (Vs.frz GW hg (bR _)) ⟨_,rfl,bf5 hw k i hlm (by simp;omega) (λv hv=>(zO.1 hv).elim (hw.v l hlm r hrm v) (λh=>by rw[zN]at h;rw[h];exact hbi))⟩):p:=h
def cq7(h:p:=by
 obtain⟨z1,hz1⟩:∃z,IntKind.i64.wrap (c+1)=z:=⟨_,rfl⟩
 obtain⟨z2,hz2⟩:∃z,IntKind.i64.wrap (c-1)=z:=⟨_,rfl⟩
 have hz1i:cp z1:=hz1 ▸ aM1 _;have hz2i:cp z2:=hz2 ▸ aM1 _
 repeat' first|((with_reducible refine W.mk ?_);(conv=>whnf))|(refine Ld.cellm (tb:=70) (cs:=cs0) m0 (by rw[aR];exact c0) ?_)|(refine Ld.cellm (tb:=22) (cs:=cs1) m1 (by rw[aR];exact c1) ?_)|(refine Ld.cellm (tb:=3) (cs:=cells) m2 (by rw[aR];exact hcf) ?_)|refine T1 ?_|intro b;conv=>whnf
 refine Dr.l (by kernel_rfl) ?_
 repeat' first|((with_reducible refine W.mk ?_);(conv=>whnf))|(refine Ld.cellm (tb:=70) (cs:=cs0) m0 (by rw[aR];exact c0) ?_)|(refine Ld.cellm (tb:=22) (cs:=cs1) m1 (by rw[aR];exact c1) ?_)|(refine Ld.cellm (tb:=3) (cs:=cells) m2 (by rw[aR];exact hcf) ?_)|refine T1 ?_|intro b;conv=>whnf
 have hzq:∃z,([[iD z1],[iD z2],[iD 0],[iD 1],[iD (by_.tmod 100)],[iD 1099511627777],[iD (-1099511627776)]]:List (List D))[((q:Nat):Int).toNat]?=some [iD z]/\cp z:=by
  rcases q with _|_|_|_|_|_|_|q
  .exact⟨_,rfl,hz1i⟩
  .exact⟨_,rfl,hz2i⟩
  .exact⟨_,rfl,by decide,by decide⟩
  .exact⟨_,rfl,by decide,by decide⟩
  .exact⟨_,rfl,by omega,by omega⟩
  .exact⟨_,rfl,by decide,by decide⟩
  .exact⟨_,rfl,by decide,by decide⟩
  .omega
 obtain⟨z,hzq,hzi⟩:=hzq;refine Ix.at hzq (by omega) ?_
 repeat' first|((with_reducible refine W.mk ?_);(conv=>whnf))|(refine Ld.cellm (tb:=70) (cs:=cs0) m0 (by rw[aR];exact c0) ?_)|(refine Ld.cellm (tb:=22) (cs:=cs1) m1 (by rw[aR];exact c1) ?_)|(refine Ld.cellm (tb:=3) (cs:=cells) m2 (by rw[aR];exact hcf) ?_)|refine cI ?_|intro b;conv=>whnf
 have hcx:=(zE.1 hcf).1;refine Sv.cellm (tb:=3) (cs:=cells) (cs':=cells.set f (iD z)) (τ:=(b0,.cells 70 cs0)::(b1,.cells 22 cs1)::ρ) Qv (by rw[aR];exact hcx) rfl (by rw[aR]) ?_;have hR2:=up (r.set f z) _ [(b2,.cells 3 (cells.set f (iD z)))] ((b2,.cells 3 (cells.set f (iD z)))::(b0,.cells 70 cs0)::(b1,.cells 22 cs1)::ρ) (hset f z hfl) bD6
 repeat' first|((with_reducible refine W.mk ?_);(conv=>whnf))|(refine Ld.cellm (tb:=70) (cs:=cs0) m0 (by rw[aR];exact c0) ?_)|(refine Ld.cellm (tb:=22) (cs:=cs1) m1 (by rw[aR];exact c1) ?_)|(refine Ld.cellm (tb:=3) (cs:=cells) m2 (by rw[aR];exact hcf) ?_)|refine cI ?_|intro b;conv=>whnf
 exact Rt.by (Vs.frz GW hR2 (bR _)) ⟨_,rfl,bf5 hw k i hlm (by rw[yR];omega) (P1 (hw.v l hlm r hrm) hzi)⟩):p:=h
def Ql(h:p:=by
 repeat' first|((with_reducible refine W.mk ?_);(conv=>whnf))|(refine Ld.cellm (tb:=70) (cs:=cs0) m0 (by rw[aR];exact c0) ?_)|(refine Ld.cellm (tb:=22) (cs:=cs1) m1 (by rw[aR];exact c1) ?_)|(refine Ld.cellm (tb:=3) (cs:=cells) m2 (by rw[aR];exact hcf) ?_)|refine cI ?_|intro b;conv=>whnf
 exact Rt.by (Vs.frz GW hR (bR _)) ⟨_,rfl,hw.up⟩):p:=h
def od{ka kb kc:Nat}(w:Wd)(hw:iW ka kb kc w)(ha:ka<=100)(hb:kb<=100)(hc:kc<=100)(hc4:4<=kc)(at_ G by_:Int)(K:dP at_)(O:dP G)(hby:dP by_):az prog 9 [fI w,iD at_,iD G,iD by_] [] (bj5 ka kb kc):=by
 have hwk:=hw.k;have hbi:cp by_:=⟨hby.1,hby.2⟩
 refine dB func9 ntmps9 λBB=>?_
 repeat' first|refine cI ?_|intro b;conv=>whnf
 refine bu (ww w hw ha hb hc) (bR _) (λs'=>s') dF ?_;rintro _ s ⟨v,rfl,hR⟩;obtain⟨va,vc,rfl⟩:=aC.slice hR;by_cases hw0:w.length=0
 .have hwn:w=[]:=wX.1 hw0;subst hwn;obtain⟨vs,s0,ts,g1,g2,g3⟩:=hR.ex
  cases g2
  repeat' first|refine cI ?_|intro b;conv=>whnf
  refine Ap.frz rfl rfl rfl rfl g1 (τ:=[]) (g3.trans (by simp)) rfl (zs:=[[gc [[by_]]]]) rfl (by simp) (by simp) ?_
  repeat' first|refine cI ?_|intro b;conv=>whnf
  exact Rt.same ⟨[[[by_]]],rfl,⟨by simp,by simp,by simp,by simp;exact hbi⟩⟩
 have HA1:=gv at_ w.length K;obtain⟨hk1,hk2,_⟩:=fA at_ w.length;have hk3:=hk2 (by omega);obtain⟨k,hk⟩:∃k:Nat,bV at_ w.length=k:=⟨(bV at_ w.length).toNat,by omega⟩
 rw[hk]at HA1 hk1 hk3;clear hk hk2;obtain⟨l,hl⟩:∃l,w[k]?=some l:=⟨_,zD (by omega)⟩
 have hln:=hw.n l (zG hl);by_cases hl0:l.length=0
 .have hle:l=[]:=wX.1 hl0;subst hle;obtain⟨b0,cap0,cs0,u,t,τ,e0,p0,c0,hu,up0⟩:=Hm hR hl;obtain⟨ua,uc,rfl⟩:=aC.slice hu;have m0:=p0.mem_iff.2 yN
  cases e0
  have HA2:=gv by_ 5 hby;obtain⟨hi1,Y,_⟩:=fA by_ 5;have hi3:=Y (by decide);obtain⟨m,hm⟩:∃m:Nat,bV by_ 5=m:=⟨(bV by_ 5).toNat,by omega⟩
  rw[hm]at HA2 hi1 hi3;clear hm Y;obtain⟨vs,s0,ts,g1,g2,g3⟩:=hu.ex
  cases g2
  repeat' first|((with_reducible refine W.mk ?_);(conv=>whnf))|(refine Ld.cellm (tb:=70) (cs:=cs0) m0 (by rw[aR];exact c0) ?_)|(refine Ld.cellm (tb:=22) (cs:=cs1) m1 (by rw[aR];exact c1) ?_)|(refine Ld.cellm (tb:=3) (cs:=cells) m2 (by rw[aR];exact hcf) ?_)|refine cI ?_|intro b;conv=>whnf
  refine gS ?_;refine iG mixed ai rfl [0,1,2,3,4,6,7] 6 (hQ [5,8,10,12]) (.two 5 (.one 8 (.fst 9 (.one 10 (.fst 11 (.one 12 .done))))) 8 (.fst 9 (.one 5 (.one 10 (.fst 11 (.one 12 .done)))))) (γ:=ae) (λ_=>[]) (λg=>g) (λg=>RW (w.set k [List.replicate m 0]) (.slice (some ⟨b0,0,none⟩) w.length vc) g) (by decide +kernel) ?_ ?_
  .repeat' first|refine OV ?_|intro b;conv=>whnf|(refine Ld.cellm (tb:=70) (cs:=cs0) m0 (by rw[aR];exact c0) ?_)|(refine Ld.cellm (tb:=22) (cs:=cs1) m1 (by rw[aR];exact c1) ?_)|(refine Ld.cellm (tb:=3) (cs:=cells) m2 (by rw[aR];exact hcf) ?_)|(refine Ld.cellm (tb:=70) (cs:=cs0) (yQ _ m0) (by rw[aR];exact c0) ?_)|(refine Mk.go m rfl rfl rfl rfl rfl rfl (by omega) (by omega) (λbn=>?_))|(refine Ap.go rfl rfl rfl rfl g1 (τ:=(bn,ax.cells 3 (List.replicate m (.v (zv (ZV.int IntKind.i64)))))::(b0,.cells 70 cs0)::τ) (by refine cV λa=>?_;have e1:=pD p0 a;have e2:=pD g3 a;simp only[List.append_eq,List.nil_append,List.flatten_nil,cU,dn,de]at e1 e2⊢;omega) rfl (zs:=[[D.v (.slice (some ⟨bn,0,none⟩) m m)]]) rfl (by simp) (by simp) (λs'=>s'++((bn,ax.cells 3 (List.replicate m (.v (zv (ZV.int IntKind.i64)))))::(b0,.cells 70 cs0)::τ)) (λs'=>zH _) (λa6 c6 s6 hr6=>?_))|(refine And.intro ?_ ?_<;>(conv=>whnf))
   all_goals
    have hz0:=IE bn (m:=m) (by omega);have hpu:=ar6 (xs:=[]) (vs:=[]) (ts:=[]) .nil hr6 (x:=List.replicate m 0) hz0 (s':=s6++[(bn,ax.cells 3 (List.replicate m (.v (zv (ZV.int IntKind.i64)))))]) (by simp);have hfin:=up0 _ _ _ ((b0,.cells 70 (cs0.set k (.v (.slice a6 ([[D.v (.slice (some ⟨bn,0,none⟩) m m)]]:List (List D)).length c6))))::((s6++[(bn,ax.cells 3 (List.replicate m (.v (zv (ZV.int IntKind.i64)))))])++τ)) hpu (zH _);refine Sv.cellm (tb:=70) (cs:=cs0) (cs':=cs0.set k (.v (.slice a6 ([[D.v (.slice (some ⟨bn,0,none⟩) m m)]]:List (List D)).length c6))) (τ:=s6++((bn,ax.cells 3 (List.replicate m (.v (zv (ZV.int IntKind.i64)))))::τ)) pa (by rw[aR];exact(zE.1 c0).1) rfl (by rw[aR]) ?_
    repeat' first|refine OV ?_|intro b;conv=>whnf
    exact⟨_,(ah aJ),Sc.perm pa,hfin⟩
  .intro g hg
   repeat' first|refine OV ?_|intro b;conv=>whnf
   exact Rt.by (Vs.frz GW hg (bR _)) ⟨_,rfl,⟨by simp;omega,λy hy=>by
    rcases yZ hy with h|rfl
    .have:=hw.n y h;omega
    .simp,λy hy z hz=>by
    rcases yZ hy with h|rfl
    .have:=hw.f y h z hz;omega
    .rw[zN]at hz;subst hz;simp;omega,λy hy z hz q hq=>by
    rcases yZ hy with h|rfl
    .exact hw.v y h z hz q hq
    .rw[zN]at hz;subst hz;rw[(List.mem_replicate.1 hq).2];exact⟨by decide,by decide⟩⟩⟩
 have HA2:=gv (at_.tdiv 6) l.length (Aj K 6 (by decide));obtain⟨hi1,Y,_⟩:=fA (at_.tdiv 6) l.length;have hi3:=Y (by omega);obtain⟨i,hi⟩:∃i:Nat,bV (at_.tdiv 6) l.length=i:=⟨(bV (at_.tdiv 6) l.length).toNat,by omega⟩
 rw[hi]at HA2 hi1 hi3;clear hi Y;obtain⟨r,hr⟩:∃r,l[i]?=some r:=⟨_,zD (by omega)⟩
 have hrn:=hw.f l (zG hl) r (zG hr);have hlm:=zG hl;have hrm:=zG hr;obtain⟨b0,cap0,cs0,b1,cap1,cs1,u2,t2,ρ,e0,p0,c0,c1,hu2,up⟩:=SC hR hl hr;obtain⟨ra,rc,rfl⟩:=Sm hu2;have m0:=UG p0;have m1:=UF p0
 cases e0
 have HA3:=gv (G.tdiv 6) (if(r.length:Int)<1 then 1 else(r.length:Int)) (Aj O 6 (by decide));obtain⟨hf1,hf2,_⟩:=fA (G.tdiv 6) (if(r.length:Int)<1 then 1 else(r.length:Int));have hf3:=hf2 (by split<;>omega);obtain⟨f,hf⟩:∃f:Nat,bV (G.tdiv 6) (if(r.length:Int)<1 then 1 else(r.length:Int))=f:=⟨(bV (G.tdiv 6) (if(r.length:Int)<1 then 1 else(r.length:Int))).toNat,by omega⟩
 rw[hf]at HA3 hf1 hf3;clear hf hf2;have HA4:=gv G 6 O;obtain⟨hh1,hh2,_⟩:=fA G 6;have hh3:=hh2 (by decide);obtain⟨h,hh⟩:∃h:Nat,bV G 6=h:=⟨(bV G 6).toNat,by omega⟩
 rw[hh]at HA4 hh1 hh3;clear hh hh2;have htd1:cp (at_.tdiv 6):=⟨(Aj K 6 (by decide)).1,(Aj K 6 (by decide)).2⟩
 have htd2:cp (G.tdiv 6):=⟨(Aj O 6 (by decide)).1,(Aj O 6 (by decide)).2⟩
 repeat' first|((with_reducible refine W.mk ?_);(conv=>whnf))|(refine Ld.cellm (tb:=70) (cs:=cs0) m0 (by rw[aR];exact c0) ?_)|(refine Ld.cellm (tb:=22) (cs:=cs1) m1 (by rw[aR];exact c1) ?_)|(refine Ld.cellm (tb:=3) (cs:=cells) m2 (by rw[aR];exact hcf) ?_)|refine cI ?_|intro b;conv=>whnf
 by_cases hr0:r.length=0
 .rcases h with _|_|_|_|_|_|h
  .exact Ql
  .exact Ql
  .exact cq1
  .exact cq3
  .exact cq5
  .exact Ql
  .omega
 .obtain⟨c,hc⟩:∃c,r[f]?=some c:=⟨_,zD (by split at hf3<;>omega)⟩
  have hfl:f<r.length:=(zE.1 hc).1;clear hf3 hf1;have hct:=hw.v l hlm r hrm c (zG hc);have hcl:=hct.1;have hch:=hct.2;obtain⟨b2,cap2,cells,e2,rfl,hrd,hset⟩:=aU4 hu2 (by intro e;subst e;exact hr0 rfl)
  cases e2
  have m2:(b2,ax.cells 3 cells)∈s:=p0.mem_iff.2 (by simp);have hcf:=hrd _ _ hc;have HA5:=gv by_ 7 hby;obtain⟨hq1,hq2,_⟩:=fA by_ 7;have hq3:=hq2 (by decide);obtain⟨q,hq⟩:∃q:Nat,bV by_ 7=q:=⟨(bV by_ 7).toNat,by omega⟩
  rw[hq]at HA5 hq1 hq3;clear hq hq2;have hbt:=HZ by_ (n:=100) (by decide);rcases h with _|_|_|_|_|_|h
  .exact cq7
  .exact cq7
  .exact cq1
  .exact cq3
  .exact cq5
  .clear HA5 hbt;have htd3:cp (at_.tdiv 30):=⟨(Aj K 30 (by decide)).1,(Aj K 30 (by decide)).2⟩
   have HA6:=gv (at_.tdiv 30) l.length (Aj K 30 (by decide));obtain⟨hj1,hj2,_⟩:=fA (at_.tdiv 30) l.length;have hj3:=hj2 (by omega);obtain⟨j,hj⟩:∃j:Nat,bV (at_.tdiv 30) l.length=j:=⟨(bV (at_.tdiv 30) l.length).toNat,by omega⟩
   rw[hj]at HA6 hj1 hj3;clear hj hj2;obtain⟨rj,hrj⟩:∃r,l[j]?=some r:=⟨_,zD (by omega)⟩
   obtain⟨b0',cap0',cs0',u3,t3,τ3,e0',p1,c0',hu3,up3⟩:=Hm hR hl
   cases e0'
   obtain⟨b1',cap1',cs1',u2',t2',τ2,e1',p2,c1',hu2',up2⟩:=aC.at hu3 hr;obtain⟨b1'',cap1'',I,u2'',t2'',τ2'',e1'',T,c1'',U,_⟩:=aC.at hu3 hrj;subst e1'
   cases e1''
   have m0':=p1.mem_iff.2 yN;have m1':(b1',ax.cells 22 cs1')∈s:=p1.mem_iff.2 (yQ _ (xK _ (p2.mem_iff.2 yN)));have M:(b1',ax.cells 22 I)∈s:=p1.mem_iff.2 (yQ _ (xK _ (T.mem_iff.2 yN)));obtain⟨b2',cap2',o,e2',rfl,hrd',hset'⟩:=aU4 hu2' (by intro e;subst e;exact hr0 rfl);subst e2';have m2':(b2',ax.cells 3 o)∈s:=p1.mem_iff.2 (yQ _ (xK _ (p2.mem_iff.2 (yQ _ (by simp)))));have P:=hrd' _ _ hc;by_cases hfj:f<rj.length
   .obtain⟨S,hcj⟩:∃c,rj[f]?=some c:=⟨_,zD hfj⟩
    obtain⟨b2'',cap2'',E,e2'',rfl,hrd'',hset''⟩:=aU4 U (by intro e;subst e;simp at hfj);subst e2'';have L:(b2'',ax.cells 3 E)∈s:=p1.mem_iff.2 (yQ _ (xK _ (T.mem_iff.2 (yQ _ (by simp)))));have J:=hrd'' _ _ hcj
    repeat' first|((with_reducible refine W.mk ?_);(conv=>whnf))|((refine' Ld.cellm (tb:=70) (cs:=cs0') m0' ?hq7 ?_);(case hq7=>(rw[aR];exact c0')))|((refine' Ld.cellm (tb:=22) (cs:=cs1') m1' ?hq7 ?_);(case hq7=>(rw[aR];exact c1')))|((refine' Ld.cellm (tb:=22) (cs:=I) M ?hq7 ?_);(case hq7=>(rw[aR];exact c1'')))|((refine' Ld.cellm (tb:=3) (cs:=o) m2' ?hq7 ?_);(case hq7=>(rw[aR];exact P)))|((refine' Ld.cellm (tb:=3) (cs:=E) L ?hq7 ?_);(case hq7=>(rw[aR];exact J)))|refine cI ?_|intro b;conv=>whnf
    refine Dr.l (by kernel_rfl) ?_
    repeat' first|((with_reducible refine W.mk ?_);(conv=>whnf))|((refine' Ld.cellm (tb:=70) (cs:=cs0') m0' ?hq7 ?_);(case hq7=>(rw[aR];exact c0')))|((refine' Ld.cellm (tb:=22) (cs:=cs1') m1' ?hq7 ?_);(case hq7=>(rw[aR];exact c1')))|((refine' Ld.cellm (tb:=22) (cs:=I) M ?hq7 ?_);(case hq7=>(rw[aR];exact c1'')))|((refine' Ld.cellm (tb:=3) (cs:=o) m2' ?hq7 ?_);(case hq7=>(rw[aR];exact P)))|((refine' Ld.cellm (tb:=3) (cs:=E) L ?hq7 ?_);(case hq7=>(rw[aR];exact J)))|refine cI ?_|intro b;conv=>whnf
    refine Sv.cellm (tb:=3) (cs:=o) (cs':=o.set f (iD S)) (τ:=(b0,.cells 70 cs0')::(b1',.cells 22 cs1')::(τ2++τ3)) bj9 (by rw[aR];exact(zE.1 P).1) rfl (by rw[aR]) ?_;have hu4:=up2 (r.set f S) _ [(b2',.cells 3 (o.set f (iD S)))] ((b1',.cells 22 cs1')::([(b2',.cells 3 (o.set f (iD S)))]++τ2)) (hset' f S hfl) (by rw[aE2 c1']);have hR1:=up3 _ _ _ ((b2',.cells 3 (o.set f (iD S)))::(b0,.cells 70 cs0')::(b1',.cells 22 cs1')::(τ2++τ3)) hu4 (by rw[aE2 c0'];refine cV λa=>?_;simp only[List.append_eq,List.nil_append,cU,dn,de];omega);have hrjm:=zG hrj;have hcjt:=hw.v l hlm rj hrjm S (zG hcj);have hw1:=A0 hw k i hlm (r':=r.set f S) (by rw[yR];exact hrn) (λv hv=>(yZ hv).elim (hw.v l hlm r hrm v) (λh=>by rw[h];exact hcjt));have hl1:(w.set k (l.set i (r.set f S)))[k]?=some (l.set i (r.set f S)):=xI (by omega);generalize hl1e:l.set i (r.set f S)=l1 at *;have hl1n:l1.length=l.length:=by rw[←hl1e,yR]
    obtain⟨rj1,C⟩:∃r,l1[j]?=some r:=⟨_,zD (by omega)⟩
    have Z:f<rj1.length:=by
     rw[←hl1e,xP]at C;split at C
     .split at C
      .cases C;rw[yR];exact hfl
      .cases C
     .rw[hrj]at C;cases C;exact hfj
    generalize w.set k l1=w1 at *;clear m0' m1' M m2' L hR p0 p1 p2 T up up2 up3;generalize(b2',ax.cells 3 (o.set f (iD S)))::(b0,ax.cells 70 cs0')::(b1',ax.cells 22 cs1')::(τ2++τ3)=s1 at *;obtain⟨b0x,cap0x,R,b1x,cap1x,Q,sN,t2x,ρx,e0x,p0x,c0x,c1x,hu2x,upx⟩:=SC hR1 hl1 C;obtain⟨ea,_,_⟩:=Value.slice.inj e0x
    cases ea
    obtain⟨b2x,cap2x,F,e2x,rfl,hrdx,hsetx⟩:=aU4 hu2x (by intro e;subst e;simp at Z);subst e2x;have m0x:=UG p0x;have m1x:=UF p0x;have hcx:=(zE.1 (hrdx f _ (zD Z))).1
    repeat' first|((with_reducible refine W.mk ?_);(conv=>whnf))|((refine' Ld.cellm (tb:=70) (cs:=R) m0x ?hq7 ?_);(case hq7=>(rw[aR];exact c0x)))|((refine' Ld.cellm (tb:=22) (cs:=Q) m1x ?hq7 ?_);(case hq7=>(rw[aR];exact c1x)))|refine cI ?_|intro b;conv=>whnf
    refine Sv.cellm (tb:=3) (cs:=F) (cs':=F.set f (iD c)) (τ:=(b0,.cells 70 R)::(b1x,.cells 22 Q)::ρx) (by refine cV λa=>?_;have e1:=pD p0x a;simp only[List.append_eq,List.nil_append,cU,dn,de]at e1⊢;omega) (by rw[aR];exact hcx) rfl (by rw[aR]) ?_;have hR2:=upx (rj1.set f c) _ [(b2x,.cells 3 (F.set f (iD c)))] ((b2x,.cells 3 (F.set f (iD c)))::(b0,.cells 70 R)::(b1x,.cells 22 Q)::ρx) (hsetx f c Z) (by rw[aE2 c1x];refine cV λa=>?_;simp only[List.append_eq,List.nil_append,cU,dn,de];omega);have X:=zG hl1;have V:=zG C
    repeat' first|((with_reducible refine W.mk ?_);(conv=>whnf))|((refine' Ld.cellm (tb:=70) (cs:=R) m0x ?hq7 ?_);(case hq7=>(rw[aR];exact c0x)))|((refine' Ld.cellm (tb:=22) (cs:=Q) m1x ?hq7 ?_);(case hq7=>(rw[aR];exact c1x)))|refine cI ?_|intro b;conv=>whnf
    exact Rt.by (Vs.frz GW hR2 (bR _)) ⟨_,rfl,bf5 hw1 k j X (by rw[yR];have:=hw1.f l1 X rj1 V;omega) (λv hv=>(yZ hv).elim (hw1.v l1 X rj1 V v) (λh=>by rw[h];exact⟨by omega,by omega⟩))⟩
   .obtain⟨ra'',rc'',rfl⟩:=Sm U
    repeat' first|((with_reducible refine W.mk ?_);(conv=>whnf))|((refine' Ld.cellm (tb:=70) (cs:=cs0') m0' ?hq7 ?_);(case hq7=>(rw[aR];exact c0')))|((refine' Ld.cellm (tb:=22) (cs:=cs1') m1' ?hq7 ?_);(case hq7=>(rw[aR];exact c1')))|((refine' Ld.cellm (tb:=22) (cs:=I) M ?hq7 ?_);(case hq7=>(rw[aR];exact c1'')))|((refine' Ld.cellm (tb:=3) (cs:=o) m2' ?hq7 ?_);(case hq7=>(rw[aR];exact P)))|((refine' Ld.cellm (tb:=3) (cs:=E) L ?hq7 ?_);(case hq7=>(rw[aR];exact J)))|refine cI ?_|intro b;conv=>whnf
    exact Rt.by (Vs.frz GW hR (bR _)) ⟨_,rfl,hw.up⟩
  .omega
end
section
open Go
def ii(l:List an)(nm:ByteArray):Int:=idx (λf=>seq f.name nm) l
def pp(n:Int):Bool:=!decide (n=0) && !decide (n=1) && !decide (n=6) && !decide (n=7)
def pV(k:aq):Int:=idx (λf=>pp f.kind) k.fields
def aQ8(l:List an)(nm:ByteArray)(hl:l.length<=1000000):APure prog 56 [mV l,sD nm] (iD (ii l nm)):=by
 refine ap func56 ntmps56 λa=>?_
 repeat' first|refine aV ?_|refine bg.mk λy hy=>?_
 refine gD mixed ai (γ:=Nat) (λq=>[(5,iD q)]) (λ_=>[]) (λq=>q<=l.length/\∀i y,i<q->l[i]?=some y->seq y.name nm=false) (λq=>l.length-q) 0 rfl rfl ⟨by omega,by omega⟩ ?_;exact ZF
def yV:=@List.nil_sublist
variable{p:Prop}
def bE(h:p:=by repeat(first|exact xQ _|exact yV _|apply List.Sublist.cons)):p:=h
def uy(h:p:=by
 repeat refine aV ?_
 exact⟨q+1,(ah aJ),bE,⟨by omega,nxt hp⟩,by omega⟩):p:=h
def qY(k:aq)(hl:k.fields.length<=1000000):APure prog 55 [fP k] (iD (pV k)):=by
 refine ap func55 ntmps55 λg=>?_
 repeat refine aV ?_
 refine jN mixed ai (γ:=Nat) (λq=>[(3,iD q)]) (λ_=>[]) (λq=>q<=k.fields.length/\∀i y,i<q->k.fields[i]?=some y->pp y.kind=false) (λq=>k.fields.length-q) 0 (ah aJ) bE ⟨by omega,by omega⟩ ?_;rintro q ⟨f,o⟩;by_cases hql:q<k.fields.length
 .obtain⟨y,a⟩:∃y,k.fields[q]?=some y:=⟨_,zD hql⟩
  have hy:k.fields[((q:Nat):Int).toNat]?=some y:=a;have nxt:pp y.kind=false->∀i z,i<q+1->k.fields[i]?=some z->pp z.kind=false:=λh i z hi b=>by
   by_cases e:i=q
   .subst e;cases a.symm.trans b;exact h
   .exact o i z (by omega) b
  by_cases h0:y.kind=0
  .have hp:pp y.kind=false:=by unfold pp;simp[h0]
   exact uy
  .by_cases h1:y.kind=1
   .have hp:pp y.kind=false:=by unfold pp;simp[h1]
    exact uy
   .by_cases h6:y.kind=6
    .have hp:pp y.kind=false:=by unfold pp;simp[h6]
     exact uy
    .by_cases h7:y.kind=7
     .have hp:pp y.kind=false:=by unfold pp;simp[h7]
      exact uy
     .have hp:pp y.kind=true:=by unfold pp;simp[h0,h1,h6,h7]
      repeat refine aV ?_
      refine Rt.pure (zM iD ?_);exact(K' a hp o).symm
 .obtain rfl:q=k.fields.length:=by omega
  repeat refine aV ?_
  refine Rt.pure (zM iD ?_);exact(R1 λi y hy=>o i y (zE.1 hy).1 hy).symm
end
end Go.Proofs.YtilnpcolgcmofaaGreatDoor
