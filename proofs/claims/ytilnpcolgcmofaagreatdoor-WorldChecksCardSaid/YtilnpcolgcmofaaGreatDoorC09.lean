/- A part of the proof. -/
import Derived.Test.YtilnpcolgcmofaaGreatDoorC08
import Derived.Scope
set_option maxRecDepth 100000
set_option maxHeartbeats 20000000
set_option linter.all false
namespace Go.Proofs.YtilnpcolgcmofaaGreatDoor
open Tryz
section
open Go
section
variable {P:Program} {σ:ae} {ρ:Operand->D}
def dq{o:Oper}{b:BinOp}{t d:TypeId}{x y:Operand}{u v r:Value}(c:o.op= .binOp b t x y d)(hx:ρ x= .v u)(e:ρ y= .v v)
  (h:∀w:World,(do eqGuard b t x y u v;binOp b t u v).run P w= .ok r w):Yd P o ρ σ (.v r):=by
 intro w X η a f;obtain⟨dst,op,l,pos,k,g⟩:=o;simp only at c;subst c;have j:=(a x (by simp[Op.operands])).val hx;have i:=(a y (by simp[Op.operands])).val e;have:=h w;rw[←j,←i]at this;exact ev this (Ex.refl w) (.v _)
end
abbrev cM:=BitVec 32
abbrev wV(x:cM):Value:=.int .u32 ((x.toNat:Nat):Int)
abbrev wD(x:cM):D:=.v (wV x)
def Sf(n:Nat)(x:BitVec n):BitVec.ofInt n ((x.toNat:Nat):Int)=x:=by
 rw[BitVec.ofInt_natCast];simp
def qd(x:cM):IntKind.u32.wrap ((x.toNat:Nat):Int)=((x.toNat:Nat):Int):=by
 have:=x.isLt;rw[IntKind.wrap_u32];omega
section
variable {P:Program} {t:TypeId} {p q:Operand} {w:World}
def Ab(x y:cM):(do eqGuard .xor t p q (wV x) (wV y);binOp .xor t (wV x) (wV y)).run P w= .ok (wV (x ^^^ y)) w:=by
 show Result.ok (Value.int .u32 (IntKind.u32.wrap (((BitVec.ofInt 32 ((x.toNat:Nat):Int) ^^^ BitVec.ofInt 32 ((y.toNat:Nat):Int)).toNat:Nat):Int))) w=_;rw[Sf,Sf,qd]
def bf8(x y:cM):(do eqGuard .and t p q (wV x) (wV y);binOp .and t (wV x) (wV y)).run P w= .ok (wV (x &&& y)) w:=by
 show Result.ok (Value.int .u32 (IntKind.u32.wrap (((BitVec.ofInt 32 ((x.toNat:Nat):Int) &&& BitVec.ofInt 32 ((y.toNat:Nat):Int)).toNat:Nat):Int))) w=_;rw[Sf,Sf,qd]
def tu(x y:cM):(do eqGuard .or t p q (wV x) (wV y);binOp .or t (wV x) (wV y)).run P w= .ok (wV (x |||y)) w:=by
 show Result.ok (Value.int .u32 (IntKind.u32.wrap (((BitVec.ofInt 32 ((x.toNat:Nat):Int) |||BitVec.ofInt 32 ((y.toNat:Nat):Int)).toNat:Nat):Int))) w=_;rw[Sf,Sf,qd]
def m8(x y:cM):(do eqGuard .add t p q (wV x) (wV y);binOp .add t (wV x) (wV y)).run P w= .ok (wV (x+y)) w:=by
 have h:IntKind.u32.wrap (((x.toNat:Nat):Int)+((y.toNat:Nat):Int))=(((x+y).toNat:Nat):Int):=by
  rw[IntKind.wrap_u32,BitVec.toNat_add];omega
 show Result.ok (Value.int .u32 (IntKind.u32.wrap _)) w=_;rw[h]
def EH(a n:Nat):((a:Nat):Int).fdiv (2 ^ n)=((a/2 ^ n:Nat):Int):=by
 rw[Int.fdiv_eq_ediv_of_nonneg _ (by exact Int.pow_nonneg (by decide))];simp
def lJ(b:IntKind)(a:Nat)(k:IntKind)(n:Nat)(c:n<=b.bits):(do eqGuard .shr t p q (.int b (a:Int)) (.int k (n:Int));binOp .shr t (.int b (a:Int)) (.int k (n:Int))).run P w= .ok (.int b ((a/2 ^ n:Nat):Int)) w:=by
 have h:min n b.bits=n:=by omega
 show(Op.shift .shr b (a:Int) k (n:Int)).run P w=_;unfold Op.shift;rw[if_neg (by omega),Int.toNat_natCast,h]
 show Result.ok (Value.int b ((a:Int).fdiv (2 ^ n))) w=_;rw[EH]
def lH(x:cM)(k:IntKind)(n:Nat)(a:n<=32):(do eqGuard .shl t p q (wV x) (.int k (n:Int));binOp .shl t (wV x) (.int k (n:Int))).run P w= .ok (wV (x <<< n)) w:=by
 have m:min n IntKind.u32.bits=n:=by show min n 32=n;omega
 show(Op.shift .shl .u32 _ k (n:Int)).run P w=_;unfold Op.shift;rw[if_neg (by omega),Int.toNat_natCast,m]
 show Result.ok (Value.int .u32 (IntKind.u32.wrap (((x.toNat:Nat):Int)*2 ^ n))) w=_;have e:((x.toNat:Nat):Int)*2 ^ n=((x.toNat*2 ^ n:Nat):Int):=by simp
 rw[e,IntKind.wrap_u32];have h:(x <<< n).toNat=x.toNat*2 ^ n%4294967296:=by rw[BitVec.toNat_shiftLeft,Nat.shiftLeft_eq]
 unfold wV;rw[h]
 congr 2
def qt(x:cM)(k:IntKind)(n:Nat)(a:n<=32):(do eqGuard .shr t p q (wV x) (.int k (n:Int));binOp .shr t (wV x) (.int k (n:Int))).run P w= .ok (wV (x >>> n)) w:=by
 have h:=lJ (P:=P) (t:=t) (p:=p) (q:=q) (w:=w) .u32 x.toNat k n a;rw[←Nat.shiftRight_eq_div_pow,←BitVec.toNat_ushiftRight]at h;exact h
def wO:=@Nat.mod_eq_of_lt
def EX{p:Prop}(h:p:=by
 simp[eqGuard,binOp,Op.intBits,h1,wO hx,wO hy,this]):p:=h
def wG:=@Bool.false_eq_true
def BP(k:IntKind)(b:BinOp)(f:Nat->Nat->Nat)(d:(b= .xor/\f=λx y=>x ^^^ y)\/(b= .or/\f=λx y=>x |||y)\/(b= .and/\f=λx y=>x &&& y))(u:k.signed=false)(x y:Nat)(hx:x<2 ^ k.bits)(hy:y<2 ^ k.bits) :
  (do eqGuard b t p q (.int k (x:Int)) (.int k (y:Int));binOp b t (.int k (x:Int)) (.int k (y:Int))).run P w= .ok (.int k ((f x y:Nat):Int)) w:=by
 have a:∀z:Nat,z<2 ^ k.bits->k.wrap (z:Int)=z:=by
  intro z c;unfold IntKind.wrap;rw[u];simp only[Bool.false_and,wG,uC];rw[Int.emod_eq_of_lt (by omega) (by exact_mod_cast c)]
 have h1:∀z:Nat,BitVec.ofInt k.bits (z:Int)=BitVec.ofNat k.bits z:=λz=>BitVec.ofInt_natCast ..;rcases d with⟨rfl,rfl⟩|⟨rfl,rfl⟩|⟨rfl,rfl⟩
 .have:=a (x ^^^ y) (Nat.xor_lt_two_pow hx hy);exact EX
 .have:=a (x |||y) (Nat.or_lt_two_pow hx hy);exact EX
 .have:=a (x &&& y) (Nat.and_lt_two_pow x hy);exact EX
end
end
namespace Go
section
variable {P:Program} {b:Frame} {a:Act} {k:List Item} {cs:List Frame} {w:World} {F:Fence} {n:Nat} {Q:Exit->Act->World->Prop}
end
end Go
section
open Go Go.RowKit Go.Shelf
section
variable {P:Program} {r:Option Nat} {n:Nat} {df:Nat} {N:Nat} {σ:ae} {f:aP} {a:List D} {T:TypeId->Option TI} {Q:ik}
end
end
section
open Go Go.RowKit Go.Shelf
inductive ec:List (List D)->List (List D)->Prop
 |nil:ec [] []
 |cons {x y:List D} {xs ys:List (List D)} (h:gH x y) (t:ec xs ys):ec (x::xs) (y::ys)
def gH.refl:∀l:List D,gH l l
 |[]=>.nil
 |d::l=>.cons (Le.refl d) (gH.refl l)
def ec.refl:∀l:List (List D),ec l l
 |[]=>.nil
 |d::l=>.cons (gH.refl d) (ec.refl l)
def ec.append{a b c d:List (List D)}(h:ec a b)(k:ec c d):ec (a++c) (b++d):=by
 induction h with
 |nil=>exact k
 |cons h _ i=>exact .cons h i
def ec.len{a b:List (List D)}(h:ec a b):b.length=a.length:=by induction h with|nil=>rfl|cons _ _ i=>simp[i]
variable{τ:ae}
def gH.vd{σ:ae}(s:∀b,b∈aT τ->b∈aT σ){a b:List D}(h:gH a b):lu σ τ a b:=by
 induction h with
 |nil=>exact .nil
 |cons h _ i=>exact .cons (λw X u _ r=>h _ _ _ (NU r s)) i
def ec.vd{σ:ae}(s:∀b,b∈aT τ->b∈aT σ){a b:List (List D)}(h:ec a b):pK σ τ a b:=by
 induction h with
 |nil=>exact .nil
 |cons h _ i=>exact .cons (h.vd s) i
variable{xs:List (List D)}
def ub{k:Nat}{ys:List (List D)}(h:ec xs ys):Le (.sl k xs) (.sl k ys):=by
 intro w O u t;obtain⟨a,s,f,A,p,v,x,r⟩:=t.sl_inv;have G:pK [] [] xs ys:=h.vd (λ_ h=>h);have l:∀{i:Nat}{y:List D},ys[i]?=some y->∃z,xs[i]?=some z/\gH z y:=by
  clear G r x v p A t
  induction h with
  |nil=>intro i y c;simp at c
  |cons h _ m=>
   intro i y c
   cases i with
   |zero=>simp at c;subst c;exact⟨_,rfl,h⟩
   |succ i=>simp at c;obtain⟨z,e,g⟩:=m c;exact⟨z,by simpa using e,g⟩
 have L:∀{z y:List D},gH z y->z.length=y.length/\∀{j:Nat}{q:D},y[j]?=some q->∃d,z[j]?=some d/\Le d q:=by
  intro z y H
  induction H with
  |nil=>exact⟨rfl,λh=>by simp at h⟩
  |cons h _ m=>
   refine⟨by simp[m.1],λ{j q}n=>?_⟩
   cases j with
   |zero=>simp at n;subst n;exact⟨_,rfl,h⟩
   |succ j=>simp at n;obtain⟨d,e,g⟩:=m.2 n;exact⟨d,by simpa using e,g⟩
 rw[A,←h.len];refine .sl k _ a s f (by rw[h.len];exact p) (λy c=>?_) (λi y c=>?_) (λi y c j d J=>?_)
 .obtain⟨i,I⟩:=yO c;obtain⟨z,e,g⟩:=l I;rw[←(L g).1];exact v z (zG e)
 .obtain⟨z,e,g⟩:=l c;obtain⟨b,o,F,E,C,B⟩:=x i z e;exact⟨b,o,F,E,C,B⟩
 .obtain⟨z,e,g⟩:=l c;obtain⟨d0,M,K⟩:=(L g).2 J;exact K _ _ _ (r i z e j d0 M)
variable{v:Value}{e:TypeId}{s:ae}
def Pk.rowLe{σ:ae}{k:Nat}{r:List (List D)}(h:ab e k r v s)(l:ec r xs)(p:σ.Perm (s++τ)):Pk σ (.v v) (.sl k xs):=
 ⟨λw X u a b=>by have:=b.val rfl;subst this;exact ub l _ _ _ (LB h (a.perm p)).stable⟩
def Vd.rowLe{σ ρ:ae}{k:Nat}{r:List (List D)}(h:ab e k r v s)(l:ec r xs)(p:σ.Perm (s++ρ))(a:∀b,b∈aT τ->b∈aT ρ):Vd σ τ (.v v) (.sl k xs):=
 λw X u c d=>ub l _ _ _ (NU ((Vs.row h p).run w X u c d).2 a)
structure Sc(σ τ:ae):Prop where
 run:∀(w:World)(X:Nat->Prop),aW w X σ->aW w X τ
 sub:∀b,b∈aT τ->b∈aT σ
def Sc.trans{a b c:ae}(h:Sc a b)(k:Sc b c):Sc a c:=⟨λw X s=>k.run w X (h.run w X s),λx hx=>h.sub x (k.sub x hx)⟩
def Sc.perm{a b:ae}(h:a.Perm b):Sc a b:=⟨λ_ _ s=>s.perm h,λx hx=>y5 h x hx⟩
def Sc.frz{b:Nat}{t:TypeId}{cs:List D}{j k:Nat}{ys:List (List D)}(A:cs[j]?=some (.v v))(h:ab e k xs v s)(G:ec xs ys):Sc ((b,.cells t cs)::(s++τ)) ((b,.cells t (cs.set j (.sl k ys)))::τ):=by
 have a:∀x,x∈aT ((b,ax.cells t (cs.set j (.sl k ys)))::τ)->x∈aT ((b,ax.cells t cs)::(s++τ)):=λx hx=>by
  simp only[aT,List.map_cons,yB,zU,zO]at hx⊢;rcases hx with h|h
  .exact .inl h
  .exact .inr (.inr h)
 refine⟨λw X g=>?_,a⟩;have O:∀x,x<w.heap.size->¬ay ((b,ax.cells t cs)::(s++τ)) X x->¬ay ((b,ax.cells t (cs.set j (.sl k ys)))::τ) X x:=λx _ F p=>F (p.imp id (a x));have E:((b,ax.cells t cs)::(s++τ)).Perm (s++((b,ax.cells t cs)::τ)):=List.perm_middle.symm;have l:=LB h (g.perm E);have c:Rd w (ay ((b,ax.cells t (cs.set j (.sl k ys)))::τ) X) (.sl k ys) v:=ub G _ _ _ (by
  have e:ay ((b,ax.cells t (cs.set j (.sl k ys)))::τ) X=ay ((b,ax.cells t cs)::τ) X:=rfl;rw[e];exact l)
 refine⟨?_,λx C q=>?_,g.xlt,g.gok.mono (λx p=>p.imp id (a x))⟩
 .have f:=g.nodup;simp only[aT,List.map_cons,yB,wZ,zO,wR]at f⊢;exact⟨λh=>f.1 (.inr h),f.2.2.1⟩
 .rcases zU.1 q with H|q
  .cases H
   obtain⟨y,o,r,vs,rfl,m⟩:=g.at_ b _ yN;refine⟨y,_,r,vs,rfl,⟨by rw[yR];exact m.len,λi d u n z=>?_⟩⟩;by_cases B:j=i
   .subst B;rw[xI (zE.1 A).1]at n
    cases n
    have:=(m.at_ j _ u A z).val rfl;rw[this];exact c
   .rw[wN B]at n;exact NU (m.at_ i d u n z) a
  .obtain⟨y,o,r,m⟩:=g.at_ x C (yQ _ (yW _ q));exact⟨y,o,r,tK (zT _) O (λ_ _ _=>rfl) m⟩
section
variable {P:Program} {r:Option Nat} {n:Nat} {df:Nat} {N:Nat} {σ:ae} {f:aP} {Q:ik}
variable{τ:ae}
def DJ{c:Code}(p:Sc σ τ)(k:Lp P r n df N c Q f τ):Lp P r n df N c Q f σ:=
 ⟨λa s=>aO1 (λw X d h=>⟨h.fr.keep (zT _) (λx _ b o=>b (o.imp id (p.sub x))) (λ_ _ _=>rfl),p.run w X h.st,h.df.keep (zT _) (λx _ b o=>b (o.imp id (p.sub x))) (λ_ _ _=>rfl)⟩) p.sub (k.run a s)⟩
def Sc.refl(σ:ae):Sc σ σ:=⟨λ_ _ h=>h,λ_ h=>h⟩
def xU:=@List.sublist_append_left
def Sc.drop{ρ:ae}(h:σ.Perm (τ++ρ)):Sc σ τ:=⟨λ_ _ s=>(s.perm h).sub (xU _ _),λx hx=>y5 h x (by rw[en];exact xK _ hx)⟩
def Sc.sl(h:τ.Sublist σ):Sc σ τ:=⟨λ_ _ s=>s.sub h,λ_ hx=>(h.map Prod.fst).subset hx⟩
def aG8{c:Code}{a:List D}{g Q:fG}(h:ey P r n df c g a σ)(k:∀e b σ',g e b σ'->∃τ,Sc σ' τ/\Q e b τ):ey P r n df c Q a σ:=
 ⟨λw X u l=>wpIn_mono (h.run w X u l) λe t i⟨b,s,p,f,m⟩=>by
  obtain⟨τ,q,j⟩:=k e b s p;exact⟨b,τ,j,⟨f.fr.keep (zT _) (λx _ d o=>d (o.imp id (q.sub x))) (λ_ _ _=>rfl),q.run i X f.st,f.df.keep (zT _) (λx _ d o=>d (o.imp id (q.sub x))) (λ_ _ _=>rfl)⟩,m.fewer q.sub⟩⟩
variable {T:TypeId->Option TI} {L:List Oper}
def E4{p:Prop}(h:p:=by
 rintro e a' σ' ⟨rfl,f',h1,g,h2,h4,h3⟩;exact⟨S g,h4,_,h1.sub h2,QS (kk g h3).h⟩):p:=h
variable{γ:Type}
def tV(m:P.follows .mixedOrders=true)(hT:∀t i,T t=some i->aH P t=some i){id:Nat}{O:Array Oper}(c:O=L.toArray)(s:List Nat)(u:Nat)(t:ne)(ps:γ->aP)(S:γ->ae)(I:γ->Prop)
  (hB:(Nat.beq (s.length+u) L.length&&kJ .any L.toArray (MH s) u t s (Array.replicate L.length false)&&z8 (MH s) t)=true)
  (h:W (iw P T N L (MH s) σ s (λf1=>Kt P T r n df N L (λf' σ'=>∃g,ei f' (ie (.region id O true) f (ps g))/\Sc σ' (S g)/\I g) t f1 σ) f))
  (kk:∀g,I g->W (GT (ie (.region id O true) f (ps g)) λF=>Q .normal F (S g))):Lp P r n df N (.region id O true) Q f σ:=by
 subst c;simp only[zJ]at hB;refine⟨λa b=>?_⟩;refine aG8 (aL2 (Q:=λe a' σ'=>e= .normal/\∃f',Sp N a' f'/\∃g,ei f' (ie (.region id L.toArray true) f (ps g))/\Sc σ' (S g)/\I g) (MH s) s u t m (yH hB.1.1) hB.1.2 (az6 (λa' σ' h'=>?_) (Ri hT h.h b))) ?_
 .exact MU
 .exact E4
def Yy(F:γ->aP)(S:γ->ae)(I:γ->Prop)(Q:ik):ik
 |.normal,f,σ'=>∃g,ei f (F g)/\Sc σ' (S g)/\I g
 |e,f,σ'=>Q e f σ'
def KH(m:P.follows .mixedOrders=true)(j:∀t i,T t=some i->aH P t=some i){c:Code}(ps:γ->aP)(S:γ->ae)(I:γ->Prop)
  (h:W (m5 P T r n df N c (Yy (λg=>ie c f (ps g)) S I Q) f σ))
  (k:∀g,I g->W (GT (ie c f (ps g)) λF=>Q .normal F (S g))):Lp P r n df N c Q f σ:=by
 refine⟨λa s=>aG8 (NP m j h.h s) ?_⟩;rintro e u σ' ⟨q,d,b⟩
 cases e with
 |normal=>
  obtain⟨g,p,l,o⟩:=b;exact⟨S g,l,_,d.sub p,QS (k g o).h⟩
 |_=>exact⟨σ',Sc.refl _,q,d,b⟩
def aO(v:P.follows .mixedOrders=true)(w:∀t i,T t=some i->aH P t=some i){c:Code}(ps:γ->aP)(S:γ->ae)(I:γ->Prop)(μ:γ->Nat)(b:γ)
  (C:ei f (ie c f (ps b))) (B:Sc σ (S b)) (A:I b)
  (z:∀g,I g->W (GT (ie c f (ps g)) λF=>m5 P T r n df N c (nA (λk σ'=>∃d,ei k (ie c f (ps d))/\Sc σ' (S d)/\I d/\μ d < μ g) Q) F (S g))) :
  Lp P r n df N (.loop c) Q f σ:=by
 refine DJ B ⟨λa u=>?_⟩;refine bd8 (λm a σ=>∃g,μ g=m/\I g/\Sp N a (ie c f (ps g))/\σ=S g) (μ b) ⟨b,rfl,A,u.sub C,rfl⟩ ?_;rintro m a σ ⟨g,rfl,y,x,rfl⟩;refine aG8 (NP v w (QS (z g y).h) x) ?_;rintro e D σ' ⟨k,j,l⟩
 cases e with
 |normal=>obtain⟨d,s,q,p,o⟩:=l;exact⟨S d,q,μ d,o,d,rfl,p,j.sub s,rfl⟩
 |_=>exact⟨σ',Sc.refl _,k,j,l⟩
end
end
section
open Go Go.RowKit Go.Shelf
section
variable {P:Program} {r:Option Nat} {n:Nat} {df:Nat} {N:Nat} {σ:ae} {a:List D} {f:aP} {T:TypeId->Option TI} {L:List Oper} {Q:ik}
def YA(o:Oper):Bool:=match o.op with
 |.buildSlice _ (_+1) _=>true
 |_=>false
def jA(P:Program)(T:TypeId->Option TI)(r:Option Nat)(n:Nat)(df:Nat)(N:Nat)(L:List Oper)(k:Nat)(K:aP->ae->Prop)(f:aP)(σ:ae):Prop:=match L[k]? with
 |none=>False
 |some o=>match YA o with
  |false=>GS P T r n df N L k K f σ
  |true=>J6 L (jY (o.looksAt L.toArray) f) o λgo=>match go with
   |true=>ce P r n df L N o (jY (o.looksAt L.toArray) f) σ (λa σ'=>match o.dst with
    |none=>K f σ'
    |some i=>match gV a i with
     |none=>False
     |some d=>bif Nat.blt i N then K ((i,d)::f) σ' else False)
   |false=>False
variable{K:aP->ae->Prop}
def j9(m:∀t i,T t=some i->aH P t=some i){E:Nat->Bool}{k:Nat}{G:List D->ae->Prop}(g:E k=true)(h:jA P T r n df N L k K f σ)(hs:Sp N a f)
  (hk:∀c σ' a',K c σ'->Sp N a' c->G a' σ'):dA P r n df L.toArray E k G a σ:=by
 unfold jA at h;split at h
 .exact h.elim
 .rename_i o l;split at h
  .exact NR m g h hs hk
  .have b:L.toArray[k]?=some o:=by simpa using l
   unfold dA;rw[b];simp only[g];obtain⟨go,w,h1⟩:=Q3 h (hs.cut _)
   cases go with
   |false=>exact h1.elim
   |true=>
    refine h1.run [] _ _ (hs.cut _) w (λc σ' a' h' hs'=>pu ⟨rfl,by rw[hs'.len,hs.len],?_⟩)
    cases hd:o.dst with
    |none=>
     rw[hd]at h';exact⟨.any,(λi hi=>by cases hi),hk _ _ _ h' hs⟩
    |some i=>exact ZP
def Uy(hT:∀t i,T t=some i->aH P t=some i){o:Oper}{t e:TypeId}{ps:Array (Nat×Operand)}{i j:TI}{ag:Bool}{k R m:Nat}{out:List D}(I:o.op= .buildSlice t m ps)(ht:T t=some i)(hs:i.sl=some (e,ag,k,R))(he:T e=some j)(Y:j.zero.length=j.size)(hk:j.size=k)(hp:Nat.blt 0 k=true)
  (Z:Nat.ble (m*k) 1000=true) (h:y8 (λq=>some (q*k,k)) (GP j.zero k m) (ps.toList.map λp=>(p.1,aN f p.2))=some out) (hl:(out.length==m*k)=true) (h0:m*k≠0)
  (kk:∀b,W (aX N o.dst (.v (.slice (some ⟨b,0,none⟩) m m)) f (λf'=>K f' ((b,.cells e out)::σ)))):ce P r n df L N o f σ K:=by
 refine⟨λU Q a A hw J=>?_⟩;refine nc hw (by rw[I];rfl) λw X s l=>?_;obtain⟨dst,op,S,pos,C,g⟩:=o;simp only at I;subst I;have E:∀x,Rd w (ay σ X) (aN f x) (s.eval x):=λx=>A.le x _ _ _ (l.fr.eval x);have hp':0<k:=by simpa [wT]using hp
 have hm':m*k<=1000:=by simpa [vL]using Z
 have hl':out.length=m*k:=by simpa using hl
 obtain⟨hu,G,_⟩:=sq (hT t i ht) hs;have y:=(sj G w).2;obtain⟨z,g1,g2⟩:=QK (hT e j he) Y (by omega) w;have hzl:z.cells.size=k:=by have:=zM List.length g2;simpa [Y,hk]using this
 have F:bj w (ay σ X) (GP j.zero k m) ((Array.range (m*k)).map (z.cells[· % z.cells.size]!)).toList:=ZJ;obtain⟨c,k1,k2⟩:=bc9 ps.toList s.eval _ _ out (λp Z=>E p.2) F h;have B:(Instr.buildSlice t m (ps.map λp=>(p.1,s.eval p.2))).run P w= .ok (.slice (some ⟨w.heap.size,0,none⟩) m m) (w.alloc (.cells c e)):=by
  have M:¬m*k > 2 ^ 24:=by omega
  have O:¬(m=0\/k=0):=λh=>h0 (Nat.mul_eq_zero.2 h);simp only[Instr.buildSlice,Sem.run_bind,run_underlying hu,y,Result.andThen,if_neg M,if_neg O,if_neg h0,g1,Sem.run_pure,Array.toList_map,k1,newRow,newObj,Sem.run]
  rfl
 have e0:(execOp s.eval ⟨dst,.buildSlice t m ps,S,pos,C,g⟩).run P w= .ok (.value (.slice (some ⟨w.heap.size,0,none⟩) m m)) (w.alloc (.cells c e)):=by
  have e:(execOp s.eval ⟨dst,.buildSlice t m ps,S,pos,C,g⟩)=(do pure (Next.value (←Instr.buildSlice t m (ps.map λp=>(p.1,s.eval p.2)))):Sem Next):=by
   unfold execOp
   rfl
  rw[e];simp only[Sem.run_bind,B,Result.andThen,Sem.run_pure]
 rw[e0];obtain⟨q1,V,q3⟩:=l.st.new (.cells c e) (.cells e out) ⟨c.toList,by rw[Array.toArray_toList],k2⟩;obtain⟨f',H,h4⟩:=fT (kk w.heap.size).h A;exact⟨_,_,V,(l.mv V q1).put (.v _) dst,J _ _ _ h4 H⟩
end
end
section
open Go
def nb(m:Nat):Nat:=if h:m=0 then 0 else nb (m/256)+1
termination_by m
decreasing_by exact Nat.div_lt_self (Nat.pos_of_ne_zero h) (by decide)
def Sb:nb 0=0:=by rw[nb];simp
variable{m:Nat}
def lU(h:m≠0):nb m=nb (m/256)+1:=by rw[nb];simp[h]
def C8:∀(m:Nat),m<256 ^ nb m
 |m=>by
  by_cases h:m=0
  .subst h;rw[Sb];decide
  .rw[lU h,Nat.pow_succ];have a:=C8 (m/256);omega
termination_by m=>m
decreasing_by exact Nat.div_lt_self (Nat.pos_of_ne_zero h) (by decide)
def C9:∀(m:Nat),m≠0->256 ^ (nb m-1)<=m
 |m,h=>by
  rw[lU h,Nat.add_sub_cancel];by_cases h0:m/256=0
  .rw[h0,Sb];omega
  .have b:=C9 (m/256) h0;have a:nb (m/256)=nb (m/256)-1+1:=by rw[lU h0];simp
   rw[a,Nat.pow_succ];omega
termination_by m=>m
decreasing_by exact Nat.div_lt_self (Nat.pos_of_ne_zero h) (by decide)
def bt8{k:Nat}(d:m<256 ^ k)(a:k=0\/256 ^ (k-1)<=m):nb m=k:=by
 by_cases b:m=0
 .subst b;rw[Sb];rcases a with a|a
  .exact a.symm
  .have:0<256 ^ (k-1):=Nat.pow_pos (by decide);omega
 .have f:=C8 m;have e:=C9 m b;rcases Nat.lt_trichotomy (nb m) k with h|h|h
  .exfalso;have c:256 ^ nb m<=256 ^ (k-1):=Nat.pow_le_pow_right (by decide) (by omega);rcases a with a|a<;>omega
  .exact h
  .exfalso;have c:256 ^ k<=256 ^ (nb m-1):=Nat.pow_le_pow_right (by decide) (by omega);omega
def C'(m j:Nat):m/256 ^ j=0↔nb m<=j:=by
 constructor
 .intro h;by_cases b:m=0
  .subst b;rw[Sb];omega
  .have d:=C9 m b;have c:m<256 ^ j:=by
    have:=(Nat.div_eq_zero_iff).1 h;have p:0<256 ^ j:=Nat.pow_pos (by decide);omega
   rcases Nat.lt_or_ge j (nb m)with a|a
   .have:256 ^ j<=256 ^ (nb m-1):=Nat.pow_le_pow_right (by decide) (by omega);omega
   .exact a
 .intro h;have e:=C8 m;have:256 ^ nb m<=256 ^ j:=Nat.pow_le_pow_right (by decide) h;exact Nat.div_eq_of_lt (by omega)
def bb6(h:m<9223372036854775808):nb m<=8:=by
 rw[←C'];exact Nat.div_eq_of_lt (by omega)
def o7:Nat->Nat->List Nat
 |0,_=>[]
 |k+1,m=>o7 k (m/256)++[m%256]
def Ae:∀(k m:Nat),(o7 k m).length=k
 |0,_=>rfl
 |k+1,m=>by rw[o7,zI,Ae k];rfl
def mg:∀(k m:Nat)(d:Nat),d∈o7 k m->d<256
 |0,_,d,h=>by cases h
 |k+1,m,d,h=>by
  rw[o7]at h;rcases zO.1 h with h|h
  .exact mg k _ d h
  .rw[zN]at h;omega
def wH:=@Nat.sub_self
def aS6:∀(k m q:Nat),q<k->(o7 k m)[q]?=some (m/256 ^ (k-1-q)%256)
 |0,_,q,h=>by omega
 |k+1,m,q,h=>by
  rw[o7];by_cases hq:q<k
  .rw[yP (by rw[Ae];exact hq),aS6 k _ q hq,Nat.div_div_eq_div_mul,show k+1-1-q=(k-1-q)+1 by omega,Nat.pow_succ,Nat.mul_comm 256]
  .obtain rfl:q=k:=by omega
   rw[yK (by rw[Ae];exact zT _),Ae,wH,show q+1-1-q=0 by omega];simp
def iR(n:Bool)(d:Nat):Nat:=if n then 255-d else d
def oQ{n:Bool}{d:Nat}(h:d<256):iR n d<256:=by unfold iR;split<;>omega
def Av(n:Int):Nat:=if n<0 then(-1-n).toNat else n.toNat
def bN(n:Int):List Nat:=iR (decide (n<0)) (128+nb (Av n))::(o7 (nb (Av n)) (Av n)).map (iR (decide (n<0)))
def eC(l:List Int):List Nat:=bN l.length++l.flatMap bN
def rz{n:Int}(h:cp n):Av n<9223372036854775808:=by
 have b:=h.lo;have a:=h.hi;unfold Av;split<;>omega
def EM(n:Int):(bN n).length=nb (Av n)+1:=by unfold bN;rw[List.length_cons,zL,Ae]
def GD{n:Int}(h:cp n):(bN n).length<=9:=by have:=bb6 (rz h);rw[EM];omega
def mf{n:Int}(h:cp n):∀d∈bN n,d<256:=by
 intro d b;have:=bb6 (rz h);unfold bN at b;rcases zU.1 b with a|a
 .rw[a];exact oQ (by omega)
 .obtain⟨e,f,c⟩:=xM.1 a;rw[←c];exact oQ (mg _ _ _ f)
end
section
open Go
section
variable {α β:Type}
def many(f:List Nat->α×Nat×Int):Nat->List Nat->List α×Nat×Int
 |0,_=>([],0,0)
 |n+1,b=>if(f b).2.2≠0 then([],0,(f b).2.2)
  else if(many f n (b.drop (f b).2.1)).2.2≠0 then([],0,(many f n (b.drop (f b).2.1)).2.2)
  else((f b).1::(many f n (b.drop (f b).2.1)).1,(f b).2.1+(many f n (b.drop (f b).2.1)).2.1,0)
end
def x5(l:List (List Int)):List Nat:=bN l.length++l.flatMap eC
def YI(w:List (List (List Int))):List Nat:=bN w.length++w.flatMap x5
section
variable {α:Type} {f:List Nat->α×Nat×Int} {c:Int}
end
structure WdR(w:List (List (List Int))):Prop where
 k:cp w.length
 n:∀l∈w,cp l.length
 f:∀l∈w,∀r∈l,cp r.length
 v:∀l∈w,∀r∈l,∀v∈r,cp v
def J7{l:List Int}(n:cp l.length)(h:∀v∈l,cp v):∀d∈eC l,d<256:=by
 intro d b;unfold eC at b;rcases zO.1 b with a|a
 .exact mf n d a
 .obtain⟨v,e,c⟩:=List.mem_flatMap.1 a;exact mf (h v e) d c
end
section
open Go
abbrev yD(b:Nat):D:=.v (.int .u8 (b:Int))
abbrev yC(b:Nat):List D:=[yD b]
abbrev Bh(l:List Nat):D:=.sl 1 (l.map yC)
abbrev RY:dZ (List Nat):=λl v s=>ab 5 1 (l.map yC) v s
def tN(l:List Nat):((l.map yC).all λy=>y.all cY)=true:=by rw[yA];intro y h;obtain⟨b,_,rfl⟩:=xM.1 h;rfl
section
variable {P:Program} {σ:ae} {ρ:Operand->D}
def y4{o:Oper}{s d:TypeId}{x:Operand}{k k':IntKind}{n m:Int}(b:o.op= .convert s d x)(hx:ρ x= .v (.int k n)){c:TypeDesc}(i:P.underlying s=some c)(f:P.underlying d=some (.int k'))(e:k'.wrap n=m):Yd P o ρ σ (.v (.int k' m)):=by
 intro w X η a t;obtain⟨dst,op,y,pos,j,g⟩:=o;simp only at b;subst b;have h:=(a x (by simp[Op.operands])).val hx;refine ev (s:=convert s d (η x)) (u:=.int k' m) ?_ (Ex.refl w) (.v _);rw[h]
 cases c<;>simp[convert,run_underlying i,run_underlying f,Conv.intToInt,e]
end
def Pd(j:Nat):2 ^ (8*j)=256 ^ j:=by rw[Nat.pow_mul]
def Rm{e:TypeId}{k:Nat}{xs:List (List D)}(b:Nat)(h:∀x∈xs,x.length=k)(m:xs.length<=maxLen):ab e k xs (.slice (some ⟨b,0,none⟩) xs.length xs.length) [(b,.cells e xs.flatten)]:=
 ⟨h,.inr ⟨b,xs.length,[],rfl,by simp,zT _,m,by simp,λd a=>by cases a⟩⟩
section
variable {P:Program} {t:TypeId} {p q:Operand} {w:World}
def x0{d:Nat}(h:d<256):(do eqGuard .xor t p q (.int .u8 (d:Int)) (.int .u8 0);binOp .xor t (.int .u8 (d:Int)) (.int .u8 0)).run P w= .ok (.int .u8 ((iR false d:Nat):Int)) w:=by
 have a:=BP (P:=P) (t:=t) (p:=p) (q:=q) (w:=w) .u8 .xor (λx y=>x ^^^ y) (.inl ⟨rfl,rfl⟩) rfl d 0 h (by decide);rw[Nat.xor_zero]at a;exact a
end
end
section
open Go
def jQ(m:Nat):List Nat:=(o7 (nb m) m).reverse
def aM7(m:Nat):(jQ m).length=nb m:=by unfold jQ;rw[List.length_reverse,Ae]
def vS:=@List.getElem?_reverse
def aM8{m i:Nat}(h:i<nb m):(jQ m)[i]?=some (m/256 ^ i%256):=by
 unfold jQ;rw[vS (by rw[Ae];exact h),Ae,aS6 _ _ _ (by omega)]
 congr 3
 congr 1
 omega
def aB1{m q:Nat}:0<m/256 ^ q↔q<nb m:=by
 rw[Nat.pos_iff_ne_zero,Ne,C'];omega
section
variable {P:Program} {t:TypeId} {p q:Operand} {w:World}
def bs8{d:Nat}(h:d<256):(do eqGuard .sub t p q (.int .u8 255) (.int .u8 (d:Int));binOp .sub t (.int .u8 255) (.int .u8 (d:Int))).run P w= .ok (.int .u8 ((iR true d:Nat):Int)) w:=by
 show Result.ok (Value.int .u8 (IntKind.u8.wrap _)) w=_;have e:IntKind.u8.wrap (255-(d:Int))=((iR true d:Nat):Int):=by
  rw[IntKind.wrap_u8];unfold iR;rw[if_pos rfl];omega
 rw[e]
end
def cl1{p:Prop}(h:p:=by rw[Nat.pow_zero,Nat.div_one];exact(ah (by repeat(first|exact qa.nil|refine qa.cons rfl ?_|(refine qa.cons (zM (λn=>some (iD n)) ?h) ?_;(case h=>(first|omega|((try simp only[zL,zR,zI,List.length_cons,List.length_nil,zY,Nat.reduceAdd]);omega)))))))):p:=h
def xC:=@List.take_add_one
def cl2{p:Prop}(h:p:=by rw[xC,hrg];simp only[Option.toList_some,yB,List.map_cons,List.map_nil]):p:=h
def aJ{p:Prop}(h:p:=by repeat(first|exact qa.nil|refine qa.cons rfl ?_)):p:=h
def av{p:Prop}(h:p:=by repeat(first|exact qa.nil|refine qa.cons rfl ?_|(refine qa.cons (zM (λn=>some (iD n)) ?h) ?_;(case h=>(first|omega|((try simp only[zL,zR,zI,List.length_cons,List.length_nil,zY,Nat.reduceAdd]);omega)))))):p:=h
def cl5{p:Prop}(h:p:=by rw[xC,hd];simp only[Option.toList_some,yB,List.map_cons,List.map_nil,List.cons_append];try simp only[hfl hneg]):p:=h
def yL:=@List.take_of_length_le
def cq4{p:Prop}(h:p:=by
 refine aO mixed ai (γ:=Nat×Value×ae) (λg=>[(3,iD ((m/256 ^ g.1:Nat):Int)),(4,.v g.2.1)]) (λg=>g.2.2) (λg=>g.1<=nb m/\RY ((jQ m).take g.1) g.2.1 g.2.2) (λg=>nb m-g.1) (0,.slice none 0 0,[]) cl1 (Sc.refl _) ⟨zW _,ab.nil _ _⟩ ?_;rintro⟨j,v,s⟩ ⟨hj,hrow⟩;simp only at hj hrow⊢;have hrl:=aM7 m;by_cases hjl:j<nb m
 .have hg:=aB1.2 hjl;have hrg:=aM8 (m:=m) hjl;have hnx:m/256 ^ (j+1)=m/256 ^ j/256:=by rw[Nat.pow_succ,Nat.div_div_eq_div_mul]
  have hlt:m/256 ^ j<=m:=Nat.div_le_self _ _;have hrow2:ab 5 1 (((jQ m).take j).map yC) v s:=hrow;generalize m/256 ^ j=g at *
  repeat refine aV ?_
  refine Ot.yd (y4 (m:=((g%256:Nat):Int)) rfl rfl underlying3 underlying5 (by rw[IntKind.wrap_u8,Int.tmod_eq_emod_of_nonneg (by omega)];omega)) ?_
  repeat refine aV ?_
  refine Ap.go rfl rfl rfl rfl hrow2 (by simp:s.Perm (s++[])) rfl (zs:=((jQ m).take (j+1)).map yC) cl2 (by simp;omega) (by simp;omega) (λs'=>s') (λs'=>by simp) (λa' c' s' hr'=>?_);have htd:((g:Int)).tdiv 256=((g/256:Nat):Int):=by rw[Int.tdiv_eq_ediv_of_nonneg (by omega)];omega
  repeat refine aV ?_
  refine Sd.go ⟨by decide,by rw[htd];exact⟨by omega,by omega⟩⟩ ?_;rw[htd]
  repeat refine aV ?_
  exact⟨(j+1,_,s'),(by simp only[hnx];exact(ah aJ)),Sc.refl _,⟨by simp only;omega,hr'⟩,by simp only;omega⟩
 .obtain rfl:j=nb m:=by omega
  have hg:¬ 0<m/256 ^ nb m:=λh=>by have:=aB1.1 h;omega
  have hg0:m/256 ^ nb m=0:=Nat.eq_zero_of_not_pos hg;rw[hg0];rw[yL (by omega)]at hrow;have hrd:ab 5 1 ((jQ m).map yC) v s:=hrow;obtain⟨a0,c0,rfl⟩:=hrd.slice;rw[zL,hrl]at hrd⊢
  repeat refine aV ?_
  refine Ot.yd (y4 (m:=((iR neg (128+nb m):Nat):Int)) rfl rfl underlying3 underlying5 (by rw[IntKind.wrap_u8,hneg];unfold iR;simp;omega)) ?_
  repeat refine aV ?_
  refine Ap.go rfl rfl rfl rfl (ab.nil 5 1) (τ:=s) (zH s) rfl (zs:=[yC (iR neg (128+nb m))]) rfl (by simp) (by simp) (λs'=>s'++s) (λs'=>zH _) (λa' c' so hro=>?_)
  repeat refine aV ?_
  refine pW (i:=4) (d':=Bh (jQ m)) (τ:=so) rfl (λh=>by cases h) (Vs.row hrd yT) ?_;refine aO mixed ai (γ:=Nat×Value×ae) (λg=>[(6,.v g.2.1),(7,iD ((nb m:Int)-1-g.1))]) (λg=>g.2.2) (λg=>g.1<=nb m/\RY (iR neg (128+nb m)::((o7 (nb m) m).take g.1).map (iR neg)) g.2.1 g.2.2) (λg=>nb m-g.1) (0,_,so) (ah av) (Sc.refl _) ⟨zW _,hro⟩ ?_;clear hro hrd;rintro⟨j,v,s⟩ ⟨hj,hrow⟩;simp only at hj hrow⊢;have hdl:(o7 (nb m) m).length=nb m:=Ae _ _;by_cases hjl:j<nb m
  .have hd:=aS6 (nb m) m j hjl;obtain⟨i,hi⟩:∃i:Nat,nb m-1-j=i:=⟨_,rfl⟩
   have hi2:(nb m:Int)-1-j=(i:Int):=by omega
   rw[hi]at hd;rw[hi2];have hrg:=aM8 (m:=m) (i:=i) (by omega);have hrg':(jQ m)[((i:Nat):Int).toNat]?=some (m/256 ^ i%256):=hrg;have hrl:=aM7 m;have hrow2:ab 5 1 ((iR neg (128+nb m)::((o7 (nb m) m).take j).map (iR neg)).map yC) v s:=hrow;have hlt:m/256 ^ i%256<256:=vM _ (by decide);generalize m/256 ^ i%256=d at *;have hfl:neg=false->iR neg d=d:=λh=>by rw[h];rfl
   repeat refine aV ?_
   first|(refine Ot.yd (dq (r:=.int .u8 ((iR neg d:Nat):Int)) rfl rfl rfl (λw=>by rw[hneg];exact bs8 hlt)) ?_;repeat'(first|refine aV ?_))|skip
   refine Ap.go rfl rfl rfl rfl hrow2 (by simp:s.Perm (s++[])) rfl (zs:=(iR neg (128+nb m)::((o7 (nb m) m).take (j+1)).map (iR neg)).map yC) cl5 (by simp;omega) (by simp;omega) (λs'=>s') (λs'=>by simp) (λa' c' s' hr'=>?_)
   repeat refine aV ?_
   exact⟨(j+1,_,s'),(ah av),Sc.refl _,⟨by simp only;omega,hr'⟩,by simp only;omega⟩
  .obtain rfl:j=nb m:=by omega
   repeat refine aV ?_
   rw[yL (by rw[Ae];exact zT _)]at hrow;exact Rt.same ⟨_,rfl,hrow⟩):p:=h
def qD(n:Int)(k:cp n):az prog 274 [iD n] [] (λd s=>∃v,d= .v v/\RY (bN n) v s):=by
 have h1:=k.lo;have h2:=k.hi;have l:=rz k;have f:=bb6 l;by_cases h0:n<0
 .obtain⟨m,a⟩:∃m,m=Av n:=⟨_,rfl⟩
  rw[←a]at l f;obtain⟨neg,hneg⟩:∃b,b=true:=⟨_,rfl⟩
  have E:bN n=iR neg (128+nb m)::(o7 (nb m) m).map (iR neg):=by unfold bN;rw[a,hneg,yJ h0]
  have e:-1-n=(m:Int):=by rw[a];unfold Av;rw[if_pos h0];omega
  rw[E];refine dB func274 ntmps274 λo=>?_
  repeat refine aV ?_
  rw[e];exact cq4
 .obtain⟨m,a⟩:∃m,m=Av n:=⟨_,rfl⟩
  rw[←a]at l f;obtain⟨neg,hneg⟩:∃b,b=false:=⟨_,rfl⟩
  have E:bN n=iR neg (128+nb m)::(o7 (nb m) m).map (iR neg):=by unfold bN;rw[a,hneg,yE h0]
  have e:n=(m:Int):=by rw[a];unfold Av;rw[if_neg h0];omega
  rw[E];clear a E;subst e;refine dB func274 ntmps274 λo=>?_
  repeat refine aV ?_
  exact cq4
end
section
open Go Go.RowKit Go.Shelf
section
variable {P:Program} {σ:ae} {ρ:Operand->D} {T:TypeId->Option TI}
def G1(hT:∀t i,T t=some i->aH P t=some i){o:Oper}{t:TypeId}{x:Operand}{lo E:Option Operand}{k:Nat}{xs ys:List (List D)}{l h:Nat}{i:TI}{p:Nat×Bool×Nat×Nat}(M:o.op= .slice t x lo E none)(hx:ρ x= .sl k xs)(Z:T t=some i)(hs:i.sl=some p)(B:p.2.2.1=k)
  (J:(lo=none/\l=0)\/∃y G n,lo=some y/\ρ y= .v (.int G n)/\n=(l:Int)) (K:(E=none/\h=xs.length)\/∃y G n,E=some y/\ρ y= .v (.int G n)/\n=(h:Int)) (h1:l<=h) (h2:h<=xs.length) (H:(xs.take h).drop l=ys):Yd P o ρ σ (.sl k ys):=by
 subst H;intro w X η hη hst;obtain⟨dst,op,ty,pos,aft,g⟩:=o;simp only at M;subst M;obtain⟨e,ag,d,by_⟩:=p;simp only at B;subst B;have z:=hη x (by simp[Op.operands]);rw[hx]at z;obtain⟨Y,I,_⟩:=sq (hT t i Z) hs;have U:=(sj I w).2;obtain⟨F,c,vs,W,N,hk,hc,hr⟩:=z.sl_inv;have hb:(Instr.sliceBounds true xs.length c (lo.map η) (E.map η) none).run P w= .ok (l,h,c) w:=by
  have hh:((h:Int)).toNat=h:=rfl;have hl:((l:Int)).toNat=l:=rfl;have Q:h<=c:=by omega
  rcases J with⟨rfl,rfl⟩|⟨yl,kl,nl,rfl,hyl,rfl⟩<;>rcases K with⟨rfl,rfl⟩|⟨L,kh,nh,rfl,r,rfl⟩
  .simp[Instr.sliceBounds,Result.andThen]
  .have:=(hη L (by simp[Op.operands])).val r;simp[Instr.sliceBounds,Instr.sliceBound,Result.andThen,this,asIntOf,Q]
  .exact Nl
  .have S:=(hη yl (by simp[Op.operands])).val hyl;have R:=(hη L (by simp[Op.operands])).val r;simp[Instr.sliceBounds,Instr.sliceBound,Result.andThen,S,R,asIntOf,h1,Q]
 have C:((xs.take h).drop l).length=h-l:=by rw[List.length_drop,zR];omega
 have m:∀(q:Nat)y,((xs.take h).drop l)[q]?=some y->xs[l+q]?=some y:=λq y a=>by
  rw[xR,yX]at a;split at a
  .exact a
  .cases a
 refine ev (s:=Instr.sliceAt t (η x) (lo.map η) (E.map η) ((none:Option Operand).map η)) (u:=.slice (if c=l then F else F.map (·.add (l*d))) (h-l) (c-l)) ?_ (Ex.refl w) ?_
 .rw[W];simp only[Instr.sliceAt,Sem.run_bind,run_underlying Y,Result.andThen,Instr.slice,Option.map_none,hb,U,Sem.run_pure]
 .have:=Rd.sl (w:=w) (O:=ay σ X) d ((xs.take h).drop l) (if c=l then F else F.map (·.add (l*d))) (c-l) (λq j=>vs (l+q) j) (by omega) (λy V=>hk y (xG (List.mem_of_mem_drop V)))
   (λq y a=>by
    have A:=m q y a;obtain⟨b,f,ha,g1,g2,g3⟩:=hc (l+q) y A;have hlt:=(zE.1 A).1;rw[if_neg (by omega),ha];refine⟨b,f+l*d,by simp[y3],g1,g2,λj hj=>?_⟩;have:=g3 j hj;rw[show f+l*d + q*d + j=f+(l+q)*d + j by rw[vC];omega];exact this) (λq y a=>hr (l+q) y (m q y a))
  rw[C]at this;exact this
end
end
section
open Go
section
variable {P:Program} {t:TypeId} {p q:Operand} {w:World}
end
end
section
open Go
section
variable {α β:Type}
def NL{l:List α}{f:α->List β}{c:Nat}(h:∀x∈l,(f x).length<=c):(l.flatMap f).length<=l.length*c:=by
 induction l with
 |nil=>simp
 |cons x l i=>
  have d:=h x yN;have b:=i (λy a=>h y (yQ _ a));rw[List.flatMap_cons,zI,List.length_cons,vC];omega
def aG2{l:List α}{f:α->List β}{i:Nat}{x:α}(h:l[i]?=some x):(l.take (i+1)).flatMap f=(l.take i).flatMap f++f x:=by
 rw[xC,h];simp
end
def uq{l:List Int}(h:∀v∈l,cp v)(n:cp l.length):(eC l).length<=9+l.length*9:=by
 unfold eC;rw[zI];have b:=GD n;have a:=NL (f:=bN) (l:=l) (c:=9) (λx hx=>GD (h x hx));omega
structure F9(w:List (List (List Int))):Prop where
 k:w.length<=20
 n:∀l∈w,l.length<=20
 f:∀l∈w,∀r∈l,r.length<=60
 v:∀l∈w,∀r∈l,∀v∈r,cp v
def se{n:Nat}(h:n<=1000000):cp n:=⟨by omega,by omega⟩
def F9.wd{w:List (List (List Int))}(h:F9 w):WdR w:=
 ⟨se (by have:=h.k;omega),λl a=>se (by have:=h.n l a;omega),λl a r b=>se (by have:=h.f l a r b;omega),h.v⟩
def F9.l{w:List (List (List Int))}(h:F9 w){l:List (List Int)}(b:l∈w):∀r∈l,(eC r).length<=549:=λr a=>by
 have c:=h.f l b r a;have:=uq (h.v l b r a) (se (by omega));omega
def F9.kl{w:List (List (List Int))}(h:F9 w):∀l∈w,(x5 l).length<=10989:=λl a=>by
 unfold x5;rw[zI];have e:=h.n l a;have d:=GD (n:=(l.length:Int)) (se (by omega));have b:=NL (f:=eC) (l:=l) (c:=549) (h.l a);omega
def F9.len{w:List (List (List Int))}(h:F9 w):(YI w).length<=300000:=by
 unfold YI;rw[zI];have d:=h.k;have b:=GD (n:=(w.length:Int)) (se (by omega));have a:=NL (f:=x5) (l:=w) (c:=10989) h.kl;omega
end
section
open Go
def bc8{P:Program}{f:FuncId}{args:List D}{l:List Nat}(h:az P f args [] (λd s=>∃v,d= .v v/\RY l v s)):APure P f args (Bh l):=
 APure.of_call (az.vs (az.imp h λd s⟨v,a,r⟩=>by rw[a];exact Rt.vs (Vs.row (τ:=[]) r (by simp))))
def IT{n:Int}(h:cp n):APure prog 274 [iD n] (Bh (bN n)):=bc8 (qD n h)
end
section
open Go
end
section
open Go
variable{l:List Nat}
def qk{c k:Nat}(a:l.length<=c)(h:c*k<=140737488355328):(l.map yC).length*k<=140737488355328:=by rw[zL];exact xH (xZ _ a) h
def LU(h:l.length<=1000000):(l.map yC).length<=1000000000:=by rw[zL];omega
def S9{A B:Prop}(k:B)(h:ar B->A:=by intro q7;(first|refine bh ?_|refine aE ?_|(refine' aj ?hc ?_;(case hc=>exact IT HX)));exact q7.1):A:=h ⟨k⟩
def IS(l:List Int)(hl:l.length<=1000)(h:∀v∈l,cp v):az prog 265 [bv l] [] (λd s=>∃v,d= .v v/\RY (eC l) v s):=by
 refine dB func265 ntmps265 λE=>?_
 repeat refine S9 ?_
 refine bu (qD ((l.map λn=>[iD n]).length:Int) (se (by simp;omega))) (bR _) (λe=>e) dF ?_;rintro _ r ⟨q,rfl,b⟩;rw[zL]at b
 repeat refine S9 ?_
 refine aO mixed ai (γ:=Nat×Value×ae) (λg=>[(4,iD g.1),(3,.v g.2.1)]) (λg=>g.2.2) (λg=>g.1<=l.length/\RY (bN l.length++(l.take g.1).flatMap bN) g.2.1 g.2.2) (λg=>l.length-g.1) (0,q,r) (ah av) (Sc.refl _) ⟨zW _,by simpa using b⟩ ?_;clear b;rintro⟨j,v,s⟩ ⟨hj,w⟩;simp only at hj w⊢;by_cases hjl:j<l.length
 .obtain⟨x,hx⟩:∃x,l[j]?=some x:=⟨_,zD hjl⟩
  have u:l[((j:Nat):Int).toNat]?=some x:=hx;have HX:=h x (zG hx);have t:=GD HX;have z:=GD (n:=(l.length:Int)) (se (by omega));have i:=NL (f:=bN) (l:=l.take j) (c:=9) (λy hy=>GD (h y (xG hy)));rw[zR]at i;have a:ab 5 1 ((bN l.length++(l.take j).flatMap bN).map yC) v s:=w;have k:(bN l.length++(l.take (j+1)).flatMap bN).length<=1000000:=by rw[aG2 hx];simp only[zI];omega
  repeat refine S9 ?_
  refine Ap.go rfl rfl rfl rfl a (by simp:s.Perm (s++[])) (tN _) (zs:=(bN l.length++(l.take (j+1)).flatMap bN).map yC) (by rw[aG2 hx];simp only[yB,zV]) (qk k (by decide)) (LU k) (λe=>e) (λe=>by simp) (λD C e o=>?_)
  repeat refine S9 ?_
  exact⟨(j+1,_,e),(ah av),Sc.refl _,⟨by simp only;omega,o⟩,by simp only;omega⟩
 .obtain rfl:j=l.length:=by omega
  repeat refine S9 ?_
  rw[yM]at w;exact Rt.same ⟨_,rfl,w⟩
def Cf{l:List Int}(a:l.length<=1000)(h:∀v∈l,cp v):APure prog 265 [bv l] (Bh (eC l)):=bc8 (IS l a h)
end
section
open Go
section
variable {P:Program} {r:Option Nat} {n:Nat} {df:Nat} {N:Nat} {σ:ae} {a:List D} {f:aP} {T:TypeId->Option TI} {L:List Oper}
end
def vx{c k:Nat}{l:List Int}(a:l.length<=c)(h:c*k<=140737488355328):(l.map λn=>[iD n]).length*k<=140737488355328:=by rw[zL];exact xH (xZ _ a) h
end
section
open Go
def F9.pre{w:List (List (List Int))}(h:F9 w)(k:Nat):(bN w.length++(w.take k).flatMap x5).length<=220000:=by
 rw[zI];have g:=h.k;have j:=GD (n:=(w.length:Int)) (se (by omega));have e:=NL (f:=x5) (l:=w.take k) (c:=10989) (λl a=>h.kl l (xG a));rw[zR]at e;have d:Nat.min k w.length<=20:=xH (Nat.min_le_right _ _) g;have b:=xZ 10989 d;have i:min k w.length*10989<=20*10989:=b;omega
end
section
open Go
def ar6{α:Type}{R:dZ α}{e:TypeId}{xs:List α}{vs:List Value}{s t s':ae}{ts:List ae}{v u:Value}{x:α}(a:cA R xs vs ts)(b:ab e 1 (vs.map (λu=>[D.v u])++[[D.v u]]) v s)(hx:R x u t)(h:s'.Perm (s++(ts.flatten++t))):aC e R (xs++[x]) v s':=
 ⟨vs++[u],s,ts++[t],by simpa using b,a.append (.cons hx .nil),h.trans (by simp)⟩
end
section
open Go
def H'{c k:Nat}{vs:List Value}{z:D}(a:vs.length+1<=c)(h:c*k<=140737488355328):(vs.map (λu=>[D.v u])++[[z]]).length*k<=140737488355328:=by rw[zI,zL];exact xH (xZ _ a) h
end
section
open Go
end
section
open Go
end
section
open Go
def az.vs3{P:Program}{f:FuncId}{args:List D}{σ:ae}{R a:D->ae->Prop}(h:az P f args σ R)(k:∀d s,R d s->∃d' s',Vs s d s' d'/\a d' s'):az P f args σ a:=
 ⟨h.ent,λw X vs v j=>(h.run w X vs v j).mono λe b⟨u,d,s,p,o,n,m,l⟩=>by
  obtain⟨d',s',q,i⟩:=k d s o;obtain⟨g,c⟩:=q.run b X u m n;exact⟨u,d',s',p,i,c,g,l.fewer q.sub⟩⟩
variable{v:Value}{s:ae}
def aU4{cs:List Int}(h:RI cs v s)(d:cs≠[]):∃b p cells,v= .slice (some ⟨b,0,none⟩) cs.length p/\s=[(b,.cells 3 cells)]/\(∀(i:Nat)c,cs[i]?=some c->cells[i]?=some (iD c))/\∀(i:Nat)a,i<cs.length->RI (cs.set i a) v [(b,.cells 3 (cells.set i (iD a)))]:=by
 have f:ab 3 1 (cs.map λn=>[iD n]) v s:=h;obtain⟨b,p,j,rfl,rfl,q,t,o,r⟩:=f.block (by intro e;exact d (List.map_eq_nil_iff.1 e));have g:(cs.map λn=>[iD n]).flatten=cs.map λn=>iD n:=by
  clear f h q o d
  induction cs with
  |nil=>rfl
  |cons c cs l=>rw[List.map_cons,List.flatten_cons,l];rfl
 refine⟨b,p,_,by rw[zL],rfl,λi c k=>?_,λi a m=>?_⟩
 .have:=(zE.1 k).1;rw[g,yP (by simpa using this),qA,k];rfl
 .have:=f.put (i:=i) (x':=[iD a]) (by simpa using m) rfl;have e:dQ ((cs.map λn=>[iD n]).flatten++j) (i*1) [iD a]=((cs.map λn=>[iD n]).flatten++j).set i (iD a):=by
   unfold dQ;rw[Nat.mul_one,xW,if_pos (by rw[g];simp;omega)];simp
  rw[e]at this
  show ab _ 1 ((cs.set i a).map _) _ _;rw[wL];exact this
def Sm{cs:List Int}(h:RI cs v s):∃a c,v= .slice a cs.length c:=by
 obtain⟨a,c,e⟩:=ab.slice h;rw[zL]at e;exact⟨a,c,e⟩
structure Tn(z:Int):Prop where
 lo:-68719476736<=z
 hi:z<=68719476736
structure er(w:Wd):Prop where
 k:w.length<=10
 n:∀l∈w,l.length<=10
 f:∀l∈w,∀r∈l,r.length<=50
 v:∀l∈w,∀r∈l,∀v∈r,Tn v
def er.sm{w:Wd}(h:er w):F9 w:=
 ⟨by have:=h.k;omega,λl a=>by have:=h.n l a;omega,λl a r b=>by have:=h.f l a r b;omega,λl a r b v c=>⟨by have:=(h.v l a r b v c).lo;omega,by have:=(h.v l a r b v c).hi;omega⟩⟩
def Cnt(cs:List Int):Prop:=∀c∈cs,0<=c/\c<=4
def g9{A B:Prop}(k:B)(h:ar B->A:=by intro q7;(first|refine bh ?_|refine aE ?_|(refine' aj ?hc ?_;(case hc=>first|exact HAt|exact HUp|exact HA _ _|exact HU _ _)));exact q7.1):A:=h ⟨k⟩
def ya{p:Prop}(h:p:=by(refine cV λa=>?_;simp only[List.append_eq,List.nil_append,cU,dn,de,IF,KJ,iD,bD];omega)):p:=h
def cq8{p:Prop}(h:p:=by
 have hc:=ek p k 5;have hc2:=hc.2 (by decide);have hcs2:Cnt (cs++[aB p k 5]):=λc h=>by
  rcases zO.1 h with h|h
  .exact hcs c h
  .rw[zN]at h;subst h;omega
 have HAt:=HA k 5;generalize aB p k 5=c0 at *
 repeat refine g9 ?_
 refine Ap.go rfl rfl rfl rfl hrow (by simp:s.Perm (s++[])) rfl (zs:=(cs++[c0]).map λn=>[iD n]) (by rw[yB];rfl) (vx (c:=1000) (by simp;omega) (by decide)) (by simp;omega) (λs'=>s') (λs'=>by simp) (λa1 c1 s1 hr1=>?_);have hr2:RI (cs++[c0]) (.slice a1 ((cs++[c0]).map λn=>[iD n]).length c1) s1:=hr1;obtain⟨b1,cap1,cells,e1,rfl,hck,hset⟩:=aU4 hr2 (by simp);by_cases hk0:k=0
 .subst hk0
  repeat refine g9 ?_
  exact⟨(1,cs++[c0],_,_),(ah av),Sc.refl _,⟨by simp only;omega,by simp only[zI,List.length_singleton];omega,hcs2,hr2⟩,by simp only;omega⟩
 .obtain⟨c2,hc2⟩:∃c,(cs++[c0])[k-1]?=some c:=⟨_,zD (by simp;omega)⟩
  rw[e1]at hr2 hset⊢;have hkc:=(zE.1 (hck k c0 (by rw[yK (by omega),hcl,wH];rfl))).1;have hlen:(cs++[c0]).length=k+1:=by rw[zI,hcl];rfl
  repeat refine g9 ?_
  refine Ld.cellm (List.Mem.head _) (by rw[show 0+((k:Int)-1).toNat*1=k-1 by omega];exact hck _ _ hc2) ?_;by_cases h20:c2=0
  .repeat refine g9 ?_
   refine Sv.cellm (cs':=cells.set k (iD 0)) (zH _) (by rw[show 0+((k:Nat):Int).toNat*1=k by simp];exact hkc) rfl (by rw[show 0+((k:Nat):Int).toNat*1=k by simp]) ?_
   repeat refine g9 ?_
   exact⟨(k+1,(cs++[c0]).set k 0,_,_),(ah av),Sc.refl _,⟨by simp only;omega,by simp only[yR];exact hlen,λc h=>by
    rcases yZ h with h|h
    .exact hcs2 c h
    .omega,by simp only[yR];exact hset k 0 (by omega)⟩,by simp only;omega⟩
  .repeat refine g9 ?_
   exact⟨(k+1,cs++[c0],_,_),(ah av),Sc.refl _,⟨by simp only;omega,hlen,hcs2,hr2⟩,by simp only;omega⟩):p:=h
def Z5{p:Prop}(h:p:=by
 obtain rfl:i=n:=by omega
 obtain⟨vs,s0,ts,g1,g2,g3⟩:=hrow.ex;have hvl:=g2.len.1;obtain⟨a4,c4,rfl⟩:=aC.slice hrow1
 repeat refine g9 ?_
 refine Ap.go rfl rfl rfl rfl g1 (show(s1++s).Perm (s0++(ts.flatten++s1)) by(refine cV λa=>?_;have e1:=pD g3 a;simp only[List.append_eq,List.nil_append,cU,dn,de,IF,KJ,iD,bD]at e1⊢;omega)) rfl (zs:=vs.map (λu=>[D.v u])++[[D.v (.slice a4 l.length c4)]]) rfl (H' (c:=1000) (by omega) (by decide)) (by simp;omega) (λs3=>s3++(ts.flatten++s1)) (λs3=>zH _) (λa3 c3 s3 hr3=>?_)
 repeat refine g9 ?_
 exact⟨(k+1,a1,w++[l],_,s3++(ts.flatten++s1)),(ah av),Sc.refl _,⟨by simp only;omega,by simp only;omega,by simp only[zI,List.length_singleton];omega,⟨by simp only[zI,List.length_singleton];omega,λy h=>(zO.1 h).elim (hw.n y) (λh=>by rw[zN]at h;rw[h];omega),λy h=>(zO.1 h).elim (hw.f y) (λh=>by rw[zN]at h;rw[h];exact λz hz=>(hlr z hz).1),λy h=>(zO.1 h).elim (hw.v y) (λh=>by rw[zN]at h;rw[h];exact λz hz=>(hlr z hz).2)⟩,ar6 g2 hr3 hrow1 (zH _)⟩,by simp only;omega⟩):p:=h
def Z2{p:Prop}(h:p:=by
 obtain rfl:j=kd.fields.length:=by omega
 obtain⟨vs,s0,ts,g1,g2,g3⟩:=hrow1.ex;have hvl:=g2.len.1;obtain⟨a4,c4,rfl⟩:=Sm hrow2;have hfew:i<4:=by omega
 repeat refine g9 ?_
 refine Ap.go rfl rfl rfl rfl g1 (show(s2++(s1++s)).Perm (s0++(ts.flatten++(s2++s))) by(refine cV λa=>?_;have e1:=pD g3 a;simp only[List.append_eq,List.nil_append,cU,dn,de,IF,KJ,iD,bD]at e1⊢;omega)) rfl (zs:=vs.map (λu=>[D.v u])++[[D.v (.slice a4 r.length c4)]]) rfl (H' (c:=1000) (by omega) (by decide)) (by simp;omega) (λs3=>s3++(ts.flatten++s2)++s) (λs3=>ya) (λa3 c3 s3 hr3=>?_)
 repeat refine g9 ?_
 exact⟨(i+1,a2,l++[r],_,s3++(ts.flatten++s2)),(ah av),Sc.refl _,⟨by simp only;omega,by simp only;omega,by simp only[zI,List.length_singleton];omega,λy h=>(zO.1 h).elim (hlr y) (λh=>by rw[zN]at h;rw[h];exact⟨by omega,hrv⟩),ar6 g2 hr3 hrow2 (zH _)⟩,by simp only;omega⟩):p:=h
def Kc{p:Prop}(h:p:=by
 repeat refine g9 ?_
 generalize aB p ((a2:Int).tmod (if((p.map λn=>[iD n]).length:Int)<1 then(1:Int)else((p.map λn=>[iD n]).length:Int))) 12-2=z at *;have hz:=hv12;refine Ap.go rfl rfl rfl rfl hrow2 (zH _) rfl (zs:=(r++[z]).map λn=>[iD n]) (by rw[yB];rfl) (vx (c:=1000) (by simp;omega) (by decide)) (by simp;omega) (λs'=>s'++(s1++s)) (λs'=>zH _) (λa3 c3 s3 hr3=>?_)
 repeat refine g9 ?_
 exact⟨(j+1,a2+1,r++[z],_,s3),(ah av),Sc.refl _,⟨by simp only;omega,by simp only;omega,by simp only[zI,List.length_singleton];omega,λv h=>(zO.1 h).elim (hrv v) (λh=>by rw[zN]at h;rw[h];exact hz),hr3⟩,by simp only;omega⟩):p:=h
def ZO{p:Prop}(h:p:=by
 generalize aB p ((a2:Int).tmod (if((p.map λn=>[iD n]).length:Int)<1 then(1:Int)else((p.map λn=>[iD n]).length:Int))) (if co<1 then 1 else co)=z at *;have hz:=hq2;refine Ap.go rfl rfl rfl rfl hrow2 (zH _) rfl (zs:=(r++[z]).map λn=>[iD n]) (by rw[yB];rfl) (vx (c:=1000) (by simp;omega) (by decide)) (by simp;omega) (λs'=>s'++(s1++s)) (λs'=>zH _) (λa3 c3 s3 hr3=>?_)
 repeat refine g9 ?_
 exact⟨(j+1,a2+1,r++[z],_,s3),(ah av),Sc.refl _,⟨by simp only;omega,by simp only;omega,by simp only[zI,List.length_singleton];omega,λv h=>(zO.1 h).elim (hrv v) (λh=>by rw[zN]at h;rw[h];exact hz),hr3⟩,by simp only;omega⟩):p:=h
def MV{p:Prop}(h:p:=by
 obtain rfl:k=x.kz.length:=by omega
 repeat refine g9 ?_
 exact Rt.same ⟨_,_,rfl,hrow,hw⟩):p:=h
def wy(x:ak)(hK:x.kz.length<=10)(Q:∀k∈x.kz,k.fields.length<=50)(p:List Int)(X:eH p):bH prog 10 [aw x,bv p,bD false] (λd=>∃w,d=fI w/\er w):=by
 have HA:=λi n=>R8 p X i n;have HU:=λi j=>FA x i j (by omega) (λk b=>by have:=Q k b;omega);refine bH.of_call (az.vs3 (R:=λd s=>∃v w,d= .v v/\RW w v s/\er w) ?_ λd σ⟨v,w,e,U,hw⟩=>by subst e;exact⟨_,[],Vs.frz GW U (by simp),w,rfl,hw⟩);refine dB func10 ntmps10 λBB=>?_
 repeat refine g9 ?_
 refine aO mixed ai (γ:=Nat×List Int×Value×ae) (λg=>[(8,iD g.1),(7,.v g.2.2.1)]) (λg=>g.2.2.2) (λg=>g.1<=x.kz.length/\g.2.1.length=g.1/\Cnt g.2.1/\RI g.2.1 g.2.2.1 g.2.2.2) (λg=>x.kz.length-g.1) (0,[],.slice none 0 0,[]) (ah av) (Sc.refl _) ⟨zW _,rfl,λc hc=>by(cases hc),ab.nil _ _⟩ ?_;rintro⟨k,cs,v,s⟩ ⟨b,hcl,hcs,hrow⟩;simp only at b hcl hcs hrow⊢;by_cases hkl:k<x.kz.length
 .exact cq8
 .obtain rfl:k=x.kz.length:=by omega
  clear hkl b
  repeat refine g9 ?_
  refine pW (i:=7) (d':=bv cs) (τ:=[]) rfl (λh=>by cases h) (Vs.row hrow (by simp)) ?_;refine aO mixed ai (γ:=Nat×Nat×Wd×Value×ae) (λg=>[(11,iD g.1),(10,iD g.2.1),(9,.v g.2.2.2.1)]) (λg=>g.2.2.2.2) (λg=>g.1<=x.kz.length/\g.2.1<=6+g.1*2000/\g.2.2.1.length=g.1/\er g.2.2.1/\RW g.2.2.1 g.2.2.2.1 g.2.2.2.2) (λg=>x.kz.length-g.1) (0,6,[],.slice none 0 0,[]) (ah av) (Sc.refl _) ⟨zW _,by decide,rfl,⟨by decide,by simp,by simp,by simp⟩,aC.nil _ _⟩ ?_;clear hrow;rintro⟨k,S,w,v,s⟩ ⟨b,K,t,hw,hrow⟩;simp only at b K t hw hrow⊢;by_cases hkl:k<x.kz.length
  .obtain⟨kd,q⟩:∃y,x.kz[k]?=some y:=⟨_,zD hkl⟩
   have M:x.kz[((k:Nat):Int).toNat]?=some kd:=q;have Y:=Q kd (zG q);obtain⟨ck,hck⟩:∃y,cs[k]?=some y:=⟨_,zD (by omega)⟩
   have P:cs[((k:Nat):Int).toNat]?=some ck:=hck;have hc4:=hcs ck (zG hck);obtain⟨n,rfl⟩:∃n:Nat,ck=n:=⟨ck.toNat,by omega⟩
   repeat refine g9 ?_
   refine aO mixed ai (γ:=Nat×Nat×List (List Int)×Value×ae) (λg=>[(13,iD g.1),(10,iD g.2.1),(12,.v g.2.2.2.1)]) (λg=>g.2.2.2.2++s) (λg=>g.1<=n/\g.2.1<=S+g.1*400/\g.2.2.1.length=g.1/\(∀r∈g.2.2.1,r.length<=50/\∀v∈r,Tn v)/\uX g.2.2.1 g.2.2.2.1 g.2.2.2.2) (λg=>n-g.1) (0,S,[],.slice none 0 0,[]) (ah av) (Sc.refl _) ⟨zW _,by simp only;omega,rfl,by simp,aC.nil _ _⟩ ?_;rintro⟨i,a1,l,v1,s1⟩ ⟨hi,J,F,hlr,hrow1⟩;simp only at hi J F hlr hrow1⊢;by_cases hin:i<n
   .repeat refine g9 ?_
    refine aO mixed ai (γ:=Nat×Nat×List Int×Value×ae) (λg=>[(15,iD g.1),(10,iD g.2.1),(14,.v g.2.2.2.1)]) (λg=>g.2.2.2.2++(s1++s)) (λg=>g.1<=kd.fields.length/\g.2.1<=a1+g.1/\g.2.2.1.length=g.1/\(∀v∈g.2.2.1,Tn v)/\RI g.2.2.1 g.2.2.2.1 g.2.2.2.2) (λg=>kd.fields.length-g.1) (0,a1,[],.slice none 0 0,[]) (ah av) (Sc.refl _) ⟨zW _,by simp only;omega,rfl,by simp,ab.nil _ _⟩ ?_;rintro⟨j,a2,r,v2,s2⟩ ⟨hj,I,E,hrv,hrow2⟩;simp only at hj I E hrv hrow2⊢;by_cases hjl:j<kd.fields.length
    .obtain⟨f,hf⟩:∃y,kd.fields[j]?=some y:=⟨_,zD hjl⟩
     have Z:kd.fields[((j:Nat):Int).toNat]?=some f:=hf;have L:=ek p ((a2:Int).tmod (if((p.map λn=>[iD n]).length:Int)<1 then(1:Int)else((p.map λn=>[iD n]).length:Int))) 12;have hv12:Tn (aB p ((a2:Int).tmod (if((p.map λn=>[iD n]).length:Int)<1 then(1:Int)else((p.map λn=>[iD n]).length:Int))) 12-2):=⟨by omega,by omega⟩
     have C:=aY3 x k j;have HUp:=HU k j;by_cases hk1:f.kind=1
     .generalize aG x k j=u at *;by_cases hu:0<=u
      .have T:=C hu;obtain⟨o,rfl⟩:∃o:Nat,u=o:=⟨u.toNat,by omega⟩
       obtain⟨co,G⟩:∃y,cs[((o:Nat):Int).toNat]?=some y:=⟨_,zD (by simp;omega)⟩
       have O:=hcs co (zG G);have V:=ek p ((a2:Int).tmod (if((p.map λn=>[iD n]).length:Int)<1 then(1:Int)else((p.map λn=>[iD n]).length:Int))) (if co<1 then 1 else co);have hq2:Tn (aB p ((a2:Int).tmod (if((p.map λn=>[iD n]).length:Int)<1 then(1:Int)else((p.map λn=>[iD n]).length:Int))) (if co<1 then 1 else co)):=⟨by omega,by have:=V.2 (by split<;>omega);split at this<;>omega⟩
       repeat refine g9 ?_
       exact ZO
      .exact Kc
     .exact Kc
    .exact Z2
   .exact Z5
  .exact MV
end
end Go.Proofs.YtilnpcolgcmofaaGreatDoor
