/- A part of the proof: Yd Cl St. -/
import Derived.Test.YtilnpcolgcmofaaGreatDoorS02
import Derived.Maps.AppendAt
import Derived.RangeFuncLeaves
import Derived.RangeFuncRecord
import Derived.RangeFuncSeq
import Derived.RangeFuncOwn
import Derived.Laws.CopyRow
set_option maxRecDepth 100000
set_option maxHeartbeats 20000000
set_option linter.all false
namespace Go.Proofs.YtilnpcolgcmofaaGreatDoor
open Tryz
section
open Go Go.RowKit Go.Shelf
section
variable {P:Program} {σ:af} {w:World} {X:Nat->Prop} {ρ:Operand->D}
theorem dC{s:Sem Value}{u:Value}{w':World}{d:D}(h:s.run P w= .ok u w')(hx:Ex w w')(r:Rd w' (ay σ X) d u):YU P w X σ d ((do pure (Next.value (←s)):Sem Next).run P w):=by
 simp only[Sem.run_bind,h,Result.andThen,Sem.run_pure];exact⟨hx,r⟩
def yX:=@List.getElem?_take
theorem A3{O:Nat->Prop}{cs:List D}{f:Nat->Value}{n:Nat}(a:Bool)(l:n<=cs.length)(g:a=true\/n=1)(r:∀(j:Nat)d,cs[j]?=some d->Rd w O d (f j)) :
  Rd w O (m4 a (cs.take n)) (if a then .agg ((List.range n).map f).toArray else f 0):=by
 cases a with
 |true=>
  refine .agg _ _ (by simp[l]) (λj d u h b=>?_);rw[yX]at h;split at h
  .rename_i e;simp[e]at b;subst b;exact r j d h
  .cases h
 |false=>
  have:n=1:=by simpa using g
  subst this
  cases cs with
  |nil=>simp at l
  |cons c cs=>exact r 0 c rfl
def vL:=@Nat.ble_eq
def xO:=@Bool.or_eq_true
theorem EG{t:TypeId}{T:TypeId->Option TI}(v:∀t i,T t=some i->aD P t=some i){m d:D}{s:Prop}{x:Value}(h:tl (T t) m=some (s,d))(hx:Rd w (ay σ X) m x) :
  ∃u,(Instr.loadAt t x).run P w= .ok u w/\Rd w (ay σ X) d u:=by
 unfold tl at h;split at h
 .rename_i i n k;obtain⟨e,y⟩:=Mr (v t i k) w
  cases c:(Nat.ble i.size n.length&&(i.agg||i.size==1))with
  |false=>rw[c]at h;cases h
  |true=>
   rw[c]at h;cases h
   simp only[zJ,vL,xO,beq_iff_eq]at c;generalize p:D.ro n=q at hx
   cases hx<;>cases p
   rename_i b o vs O A l r;have a:=A3 (f:=vs) i.agg c.1 c.2 r
   cases g:i.agg with
   |true=>
    rw[g]at e a;exact⟨_,ay3 e y (λj z=>l j (by omega)),a⟩
   |false=>
    rw[g]at e a;have B:i.size=1:=by rcases c.2 with h|h<;>simp_all
    exact⟨_,QB e (by have:=l 0 (by omega);simpa using this),a⟩
 .cases h
def xB:=@Option.some.injEq
theorem m7{α β:Type}{f:α->Option β}:∀{l:List α}{r:List β},l.mapM f=some r->∀(i:Nat)(b:β),r[i]?=some b->∃a,l[i]?=some a/\f a=some b
 |[],r,h,i,b,c=>by simp at h;subst h;simp at c
 |x::l,r,h,i,b,c=>by
  simp only[List.mapM_cons,Option.bind_eq_bind,Option.bind_eq_some_iff,Option.pure_def,xB]at h;obtain⟨y,d,j,s,rfl⟩:=h
  cases i with
  |zero=>simp at c;subst c;exact⟨x,rfl,d⟩
  |succ i=>simp at c;obtain⟨a,g,e⟩:=m7 s i b c;exact⟨a,by simpa using g,e⟩
def xN:=@Option.map_eq_some_iff
def vY:=@Prod.mk.injEq
theorem l4{t:TypeId}{i:TI}(h:aD P t=some i){f o n:Nat}{c:Bool}(a:i.fs[f]?=some (o,c,n)) :
  ∃b l,P.underlying t=some (.struct b)/\b[f]?=some l/\l.offset=o/\er P l.type=some (c,n):=by
 obtain⟨d,u,q,j,_,_,e,_,_,_,_⟩:=E2 h;rw[e]at a
 cases u with
 |struct b=>
  simp only at a
  cases m:b.toList.mapM (λf=>(er P f.type).map λs=>(f.offset,s.1,s.2))with
  |none=>rw[m]at a;simp at a
  |some r=>
   rw[m]at a;obtain⟨l,p,g⟩:=m7 m f _ a;simp only[xN,vY]at g;obtain⟨sz,k,rfl,rfl,rfl⟩:=g;exact⟨b,l,j,by simpa using p,rfl,by rw[k]⟩
 |_=>simp at a
theorem aN2{t:TypeId}{i:TI}(h:aD P t=some i){f a n b o:Nat}{l:Bool}(d:i.fs[f]?=some (a,l,n))(c:n≠0) :
  (Instr.fieldAt t (.pointer (some ⟨b,o,none⟩)) f).run P w= .ok (.pointer (some ⟨b,o+a,none⟩)) w:=by
 obtain⟨s,m,k,j,g,e⟩:=l4 h d;have:=(qP e w).2;simp[Instr.fieldAt,run_underlying k,j,Instr.sureAddr,fieldPlace,this,c,Result.andThen,x4,g]
def xJ:=@Bool.not_eq_true'
theorem w8{t:TypeId}{T:TypeId->Option TI}(r:∀t i,T t=some i->aD P t=some i){f:Nat}{k d:D}{s:Prop}{x:Value}(h:J2 (T t) f k=some (s,d))(hx:Rd w (ay σ X) k x) :
  ∃u,(Instr.fieldAt t x f).run P w= .ok u w/\Rd w (ay σ X) d u:=by
 cases a:T t with
 |none=>rw[a]at h;simp[J2]at h
 |some i=>
  rw[a]at h
  cases g:i.fs[f]? with
  |none=>cases k<;>simp[J2,g]at h;(split at h<;>simp_all)
  |some p=>
   obtain⟨e,J,n⟩:=p
   cases k with
   |ro z=>
    simp only[J2,g]at h
    cases c:(Nat.ble e z.length && !(n==0))with
    |false=>rw[c]at h;cases h
    |true=>
     rw[c]at h;cases h
     simp only[zJ,vL,xJ,beq_eq_false_iff_ne,ne_eq]at c;generalize B:D.ro z=q at hx
     cases hx<;>cases B
     rename_i b o vs O E l A;refine⟨_,aN2 (r t i a) g c.2,.ro _ _ _ (λj=>vs (e+j)) O E (λj C=>?_) (λj d m=>?_)⟩
     .rw[vQ];exact l (e+j) (by simp at C;omega)
     .rw[xR]at m;exact A _ _ m
   |v y=>
    have:=hx.val rfl;subst this;unfold J2 at h;split at h
    .cases ‹D.v _=D.ro _›
    .rename_i H I b o G F
     cases G;cases F
     simp only[g]at h
     cases c:(!(n==0))with
     |false=>rw[c]at h;cases h
     |true=>
      rw[c]at h;cases h
      simp only[xJ,beq_eq_false_iff_ne,ne_eq]at c;exact⟨_,aN2 (r t i a) g c,.v _⟩
    .cases h
   |_=>simp[J2]at h
def wJ:=@Array.ext'
def xY:=@List.ext_getElem?
def xV:=@List.getElem?_range
theorem EE{t:TypeId}{T:TypeId->Option TI}(H:∀t i,T t=some i->aD P t=some i){f:Nat}{m d:D}{s:Prop}{x:Value}(h:iK (T t) f m=some (s,d))(hx:Rd w (ay σ X) m x) :
  ∃u,(Instr.field t x f).run P w= .ok u w/\Rd w (ay σ X) d u:=by
 cases b:T t with
 |none=>rw[b]at h;simp[iK]at h
 |some i=>
  rw[b]at h
  cases m with
  |agg r=>
   cases k:i.fs[f]? with
   |none=>simp[iK,k]at h
   |some p=>
   obtain⟨o,v,n⟩:=p;simp only[iK,k]at h
   cases c:(Nat.ble (o+n) r.length&&(v||n==1))with
   |false=>rw[c]at h;cases h
   |true=>
    rw[c]at h;cases h
    simp only[zJ,vL,xO,beq_iff_eq]at c;generalize F:D.agg r=q at hx
    cases hx<;>cases F
    rename_i vs G E;obtain⟨J,K,B,A,z,I⟩:=l4 (H t i b) k;obtain⟨y,C⟩:=qP I w;have g:=A3 (w:=w) (O:=ay σ X) (cs:=r.drop o) (f:=λj=>(vs[o+j]?).getD undef) (n:=n) v (by simp;omega) c.2 (λj d l=>by
     rw[xR]at l;have a:o+j<vs.length:=by rw[G];exact(zE.1 l).1
     have:=E (o+j) d _ l (zD a)
     simpa [zD a]using this)
    refine⟨_,?_,g⟩
    cases v with
    |true=>
     simp only[Instr.field,Sem.run_bind,run_underlying B,Result.andThen,A,asAgg,Sem.run_pure,part,y,C,if_true,z];have e:vs.toArray.extract o (o+n)=((List.range n).map λj=>(vs[o+j]?).getD undef).toArray:=by
      apply wJ;apply xY;intro j;simp only[Array.toList_extract,List.extract_eq_take_drop,yX,xR,qA,xV];by_cases hj:j<n
      .have:o+j<vs.length:=by omega
       simp[hj,this]
      .simp[hj]
     rw[e]
    |false=>
     have:n=1:=by simpa using c.2
     subst this;have a:o<vs.length:=by omega
     simp[Instr.field,run_underlying B,Result.andThen,A,asAgg,part,y,z,a]
  |_=>simp[iK]at h
theorem x7{t:TypeId}{i:TI}(h:aD P t=some i){e k b:Nat}{a:Bool}(f:i.sl=some (e,a,k,b)):P.underlying t=some (.slice e)/\er P e=some (a,k)/\P.bytesOf e=b:=by
 obtain⟨c,u,l,g,_,_,_,d,_,_,_⟩:=E2 h;rw[d]at f
 cases u with
 |slice m=>
  simp only[xN,vY]at f;obtain⟨sz,j,rfl,rfl,rfl,rfl⟩:=f;exact⟨g,by rw[j],rfl⟩
 |_=>simp at f
theorem aK4{t:TypeId}{i:TI}(h:aD P t=some i){n k:Nat}{a:Bool}(f:i.arr=some (n,a,k)):∃e,P.underlying t=some (.array n e)/\er P e=some (a,k):=by
 obtain⟨b,u,j,d,_,_,_,_,c,_,_⟩:=E2 h;rw[c]at f
 cases u with
 |array m e=>
  simp only[xN,vY]at f;obtain⟨sz,g,rfl,rfl,rfl⟩:=f;exact⟨e,d,by rw[g]⟩
 |_=>simp at f
theorem oX{t:TypeId}{i:TI}(h:aD P t=some i)(f:i.str=true):P.underlying t=some .string:=by
 obtain⟨a,u,d,c,_,_,_,_,_,_,b⟩:=E2 h;rw[b]at f
 cases u<;>simp at f
 exact c
theorem Lq{p:Prop}(h:p:=by
 have:=hx.val rfl;subst this;exact⟨_,by simp[Builtin.len_,run_underlying hu,Result.andThen,goInt],.v _⟩):p:=h
theorem J0{t ty:TypeId}{T:TypeId->Option TI}(j:∀t i,T t=some i->aD P t=some i){o d:D}{s:Prop}{x:Value}(h:EH (T t) o=some (s,d))(hx:Rd w (ay σ X) o x) :
  ∃u,(Builtin.len_ #[t] ty #[x]).run P w= .ok u w/\Rd w (ay σ X) d u:=by
 cases b:T t with
 |none=>rw[b]at h;simp[EH]at h
 |some i=>
  rw[b]at h;unfold EH at h;split at h
  .rename_i m k r g
   cases g
   cases f:i.sl with
   |none=>rw[f]at h;cases h
   |some p=>
    obtain⟨e,A,y,l⟩:=p;rw[f]at h
    cases h
    have hu:=(x7 (j t i b) f).1;generalize z:D.sl k r=q at hx
    cases hx<;>cases z
    exact⟨_,by simp[Builtin.len_,run_underlying hu,Result.andThen,goInt],.v _⟩
  .rename_i m a n c g
   cases g
   cases f:i.sl with
   |none=>rw[f]at h;cases h
   |some p=>
    obtain⟨e,A,y,l⟩:=p;rw[f]at h
    cases h
    have hu:=(x7 (j t i b) f).1;exact Lq
  .rename_i m s g
   cases g
   cases f:i.str with
   |false=>rw[f]at h;cases h
   |true=>
    rw[f]at h
    cases h
    have hu:=oX (j t i b) f;exact Lq
  .cases h
def wT:=@Nat.blt_eq
theorem J1{t:TypeId}{T:TypeId->Option TI}(G:∀t i,T t=some i->aD P t=some i){H I d:D}{s:Prop}{x y:Value}(h:w3 (T t) H I=some (s,d))(E:s)(hx:Rd w (ay σ X) H x)(C:Rd w (ay σ X) I y) :
  ∃u,(Instr.indexAt t x y).run P w= .ok u w/\Rd w (ay σ X) d u:=by
 cases a:T t with
 |none=>rw[a]at h;simp[w3]at h
 |some i=>
  rw[a]at h;unfold w3 at h;split at h
  .rename_i M J L j B
   cases B
   split at h
   .rename_i n V k r
    cases f:(Nat.blt j n&&Nat.ble (j*k) J.length)with
    |false=>rw[f]at h;cases h
    |true=>
     rw[f]at h;cases h
     simp only[zJ,vL,wT]at f;obtain⟨e,l,z⟩:=aK4 (G t i a) r;have g:=(qP z w).2;have:=C.val rfl;subst this;generalize O:D.ro J=q at hx
     cases hx<;>cases O
     rename_i b o vs S R A N;refine⟨.pointer (some ⟨b,o+j*k,none⟩),?_,.ro _ _ _ (λm=>vs (j*k+m)) S R (λm Q=>?_) (λm d F=>?_)⟩
     .have Y:(Int.ofNat j).toNat=j:=rfl;have W:(Int.ofNat j:Int)<n:=by simpa using f.1
      simp[Instr.indexAt,asIntOf,run_underlying l,Instr.sureAddr,Result.andThen,g,x4,f.1]
     .rw[vQ];exact A (j*k+m) (by simp at Q;omega)
     .rw[xR]at F;exact N _ _ F
   .cases h
  .rename_i M b K n c L j B
   cases B
   split at h
   .rename_i e V k U p
    cases h
    obtain⟨l,z,_⟩:=x7 (G t i a) p;have g:=(qP z w).2;have:=C.val rfl;subst this;have:=hx.val rfl;subst this;exact⟨_,by simp[Instr.indexAt,asIntOf,run_underlying l,Result.andThen,g,x4,E.1,E.2],.v _⟩
   .cases h
  .cases h
def vD:=@List.map_toArray
theorem MI{T:TypeId->Option TI}(C:∀t i,T t=some i->aD P t=some i){o:Oper}{s:Prop}{d:D}(h:hJ T o.op ρ=some (s,d))(L:s):Yd P o ρ σ d:=by
 intro w X η j K;obtain⟨dst,op,U,pos,aft,g⟩:=o;simp only at h j;unfold hJ at h;split at h
 .rename_i x;cases h;exact⟨Ex.refl w,j x (by simp[Op.operands])⟩
 .rename_i x;cases h;exact⟨Ex.refl w,j x (by simp[Op.operands])⟩
 .rename_i c x y;have m:=j c (by simp[Op.operands]);have hx:=j x (by simp[Op.operands]);have F:=j y (by simp[Op.operands]);unfold tk at h;split at h
  .rename_i e;cases h;rw[e]at m;have:=m.val rfl;simp only[execOp,this,asBool];exact⟨Ex.refl w,hx⟩
  .rename_i e;cases h;rw[e]at m;have:=m.val rfl;simp only[execOp,this,asBool];exact⟨Ex.refl w,F⟩
  .cases h
 .rename_i t x;have hx:=j x (by simp[Op.operands]);unfold xc at h;split at h
  .cases h
  .rename_i M
   cases h
   exact dC (s:=Instr.box t (η x)) (by simp[Instr.box,newVar,newRow,newObj,Sem.run,Result.andThen]) ((Ex.refl w).alloc) (NC K hx M t)
 .rename_i x;have hx:=j x (by simp[Op.operands]);unfold PN at h;split at h
  .rename_i I e;cases h;rw[e]at hx;generalize p:η x=u at *;generalize A:D.ro I=q at hx;cases hx<;>cases A;rename_i b W vs Z Y m z;simp only[execOp,p];exact⟨Ex.refl w,.ro _ _ _ vs Z Y m z⟩
  .rename_i f I e;cases h;rw[e]at hx;generalize p:η x=u at *;generalize A:D.clo f I=q at hx;cases hx<;>cases A;rename_i vs N z;simp only[execOp,p];exact⟨Ex.refl w,.clo f I vs N z⟩
  .rename_i a e;cases h;rw[e]at hx;have:=hx.val rfl;simp only[execOp,this];exact⟨Ex.refl w,.v _⟩
  .rename_i f x y e;cases h;rw[e]at hx;have:=hx.val rfl;simp only[execOp,this];exact⟨Ex.refl w,.v _⟩
  .cases h
 .rename_i b t x y _;have hx:=j x (by simp[Op.operands]);have F:=j y (by simp[Op.operands]);unfold PS at h;split at h
  .rename_i u v n H;rw[n]at hx;rw[H]at F;simp only[xN]at h;obtain⟨⟨V,r⟩,l,k⟩:=h
   cases k
   have:=FP (P:=P) l L t x y w;rw[←hx.val rfl,←F.val rfl]at this;exact dC this (Ex.refl w) (.v _)
  .cases h
 .rename_i b t x;have hx:=j x (by simp[Op.operands]);unfold aUn at h;split at h
  .rename_i u n;rw[n]at hx;simp only[xN]at h;obtain⟨⟨V,r⟩,l,k⟩:=h
   cases k
   have:=MR (P:=P) l L w;rw[←hx.val rfl]at this;exact dC this (Ex.refl w) (.v _)
  .cases h
 .rename_i t x;obtain⟨u,l,k⟩:=EG C h (j x (by simp[Op.operands]));exact dC l (Ex.refl w) k
 .rename_i t x f;obtain⟨u,l,k⟩:=w8 C h (j x (by simp[Op.operands]));exact dC l (Ex.refl w) k
 .rename_i t x f;obtain⟨u,l,k⟩:=EE C h (j x (by simp[Op.operands]));exact dC l (Ex.refl w) k
 .rename_i x i;have hx:=j x (by simp[Op.operands]);generalize Q:i=i0 at h;unfold J5 at h;split at h
  .rename_i ds e;subst Q;rw[e]at hx;split at h
   .rename_i S G
    cases h
    generalize p:η x=u at *;generalize A:D.tup ds=q at hx
    cases hx<;>cases A
    rename_i vs N z;have B:i<vs.length:=by rw[N];exact(zE.1 G).1
    refine dC (s:=Instr.extract (η x) i) (u:=vs[i]) (by rw[p];simp[Instr.extract,B]) (Ex.refl w) (z i _ _ G (zD B))
   .cases h
  .rename_i vs e;subst Q;rw[e]at hx;split at h
   .rename_i S G
    cases h
    have:=hx.val rfl;exact dC (s:=Instr.extract (η x) i) (u:=S) (by rw[this];simp[Instr.extract,G]) (Ex.refl w) (.v _)
   .cases h
  .cases h
 .rename_i t x i;obtain⟨u,l,k⟩:=J1 C h L (j x (by simp[Op.operands])) (j i (by simp[Op.operands]));exact dC l (Ex.refl w) k
 .rename_i c;obtain⟨J,E,O⟩:=c;unfold EI at h;split at h
  .rename_i x t n H R;simp only at n H R;have k:E= #[x]:=by apply wJ;simpa using H
   have h3:O= #[t]:=by apply wJ;simpa using R
   subst n k h3;obtain⟨u,g1,g2⟩:=J0 (ty:=U) C h (j x (by simp[Op.operands,Call.operands]));simp only[execOp,resolve,invoke,builtin,Sem.run_bind,Sem.run_pure,Result.andThen,vD,List.map_cons,List.map_nil,g1];exact⟨Ex.refl w,g2⟩
  .cases h
 .cases h
theorem yn{T:TypeId->Option TI}(S:∀t i,T t=some i->aD P t=some i){o:Oper}{t:TypeId}{x f:Operand}{k:Nat}{xs:List (List D)}{kk:IntKind}{j:Int}{cs:List D}{i:TI}{p:Nat×Bool×Nat×Nat}(B:o.op= .indexAddr t x f)(hx:ρ x= .sl k xs)(O:ρ f= .v (.int kk j))
  (I:T t=some i) (K:i.sl=some p) (l:p.2.2.1=k) (n:xs[j.toNat]?=some cs) (V:0<=j):Yd P o ρ σ (.ro cs):=by
 intro w X η c J;obtain⟨dst,op,ty,pos,Z,g⟩:=o;simp only at B;subst B;obtain⟨e,ag,A,Y⟩:=p;simp only at l;subst l;have E:=c x (by simp[Op.operands]);have q:=c f (by simp[Op.operands]);rw[hx]at E;rw[O]at q;have q:=q.val rfl;obtain⟨H,z,_⟩:=x7 (S t i I) K;have F:=(qP z w).2;obtain⟨a,W,vs,G,C,l,y,L⟩:=E.sl_inv;obtain⟨b,r,rfl,U,R,h⟩:=y _ _ n;have M:j.toNat<xs.length:=(zE.1 n).1;have N:j<xs.length:=by omega
 have hl:cs.length=A:=l cs (zG n);refine dC (s:=Instr.indexAt t (η x) (η f)) (u:=.pointer (some ⟨b,r+j.toNat*A,none⟩)) ?_ (Ex.refl w) (.ro _ _ _ (vs j.toNat) U R (λm hm=>h m (by omega)) (λm d Q=>L _ _ n m d Q));rw[G,q];simp[Instr.indexAt,asIntOf,run_underlying H,Result.andThen,F,x4,V,N]
end
end
section
open Go Go.RowKit Go.Shelf
structure az(P:Program)(f:FuncId)(args:List D)(σ:af)(R:D->af->Prop):Prop where
 ent:Enters P f
 run:∀(w:World)(X:Nat->Prop)(vs:List Value),bb w (ay σ X) args vs->aU w X σ ->
  Calls P f vs.toArray w λe w'=>∃u d σ',e= .returned u/\R d σ'/\Rd w' (ay σ' X) d u/\aU w' X σ'/\Mv w σ w' σ'
structure APure(P:Program)(f:FuncId)(args:List D)(d:D):Prop where
 ent:Enters P f
 run:∀(w:World)(O:Nat->Prop)(vs:List Value),bb w O args vs->qZ w O ->
  Calls P f vs.toArray w λe w'=>∃u,e= .returned u/\Rd w' O d u/\Ex w w'
structure cb(P:Program)(f:FuncId)(args:List D)(R:D->Prop):Prop where
 ent:Enters P f
 run:∀(w:World)(O:Nat->Prop)(vs:List Value),bb w O args vs->qZ w O ->
  Calls P f vs.toArray w λe w'=>∃u d,e= .returned u/\R d/\Rd w' O d u/\Ex w w'
section
variable {P:Program} {r:Option Nat} {n:Nat} {df:Nat} {ops:Array Oper} {Q:eY} {a:List D} {σ:af} {w:World} {X:Nat->Prop} {ρ:Operand->D}
theorem aW7{O:Nat->Prop}{η:Operand->Value}:∀(l:List Operand),(∀x∈l,Rd w O (ρ x) (η x))->bb w O (l.map ρ) (l.map η)
 |[],_=>.nil
 |x::l,h=>.cons (h x (by simp)) (aW7 l λy a=>h y (by simp[a]))
def jL(o:Op)(ρ:Operand->D):Option (FuncId×List D):=
 match o with
 |.call c=>match c.callee with
  |.value x=>match ρ x with
   |.v (.func (.func f) t p)=>bif t.toList.isEmpty then some (f,c.args.toList.map ρ++p.toList.map .v)else none
   |.clo f s=>some (f,c.args.toList.map ρ++s)
   |_=>none
  |_=>none
 |_=>none
def yP:=@List.getElem?_append_left
def yK:=@List.getElem?_append_right
theorem bb.append{O:Nat->Prop}{s e:List D}{c vs:List Value}(h:bb w O s c)(k:bb w O e vs):bb w O (s++e) (c++vs):=by
 refine⟨by simp[h.len,k.len],λj d u b a=>?_⟩;by_cases hj:j<s.length
 .rw[yP hj]at b;rw[yP (by rw[h.len];exact hj)]at a;exact h.at_ j d u b a
 .rw[yK (by omega)]at b;rw[yK (by rw[h.len];omega),h.len]at a;exact k.at_ _ d u b a
theorem nU{o:Oper}{f:FuncId}{s:List D}(h:jL o.op ρ=some (f,s))(i:Enters P f){O:Nat->Prop}{η:Operand->Value}(d:∀x∈o.op.operands,Rd w O (ρ x) (η x)) :
  ∃vs:List Value,bb w O s vs/\(execOp η o).run P w= .ok (.enter f vs.toArray) w:=by
 obtain⟨dst,k,F,pos,E,g⟩:=o;simp only at h d
 cases k<;>simp only[jL]at h<;>try cases h
 rename_i c;obtain⟨b,a,at_⟩:=c
 cases b<;>simp only at h<;>try cases h
 rename_i x;have hx:=d x (by simp[Op.operands,Call.operands]);have j:bb w O (a.toList.map ρ) (a.toList.map η):=aW7 _ λy l=>d y (by simp[Op.operands,Call.operands];exact Or.inr (by simpa using l));split at h
 .rename_i B t p e
  rw[e]at hx;have v:=hx.val rfl
  cases m:t.toList.isEmpty with
  |false=>rw[m]at h;cases h
  |true=>
   rw[m]at h
   cases h
   have A:t= #[]:=by simpa using m
   subst A;refine⟨a.toList.map η++p.toList,j.append (KO _),?_⟩;have:=i (a.map η++p) w;simp only[execOp,resolve,v,Deferred.ofValue,Sem.run_bind,Sem.run_pure,Result.andThen,invoke];rw[show(List.map η a.toList++p.toList).toArray=Array.map η a++p by apply wJ;simp]
   simpa using this
 .rename_i B C e
  cases h
  rw[e]at hx;generalize v:η x=u at hx;generalize n:D.clo f C=q at hx
  cases hx<;>cases n
  rename_i vs z r;refine⟨a.toList.map η++vs,j.append ⟨z,r⟩,?_⟩;have:=i (a.map η++vs.toArray) w;simp only[execOp,resolve,v,Deferred.ofValue,Sem.run_bind,Sem.run_pure,Result.andThen,invoke];rw[show(List.map η a.toList++vs).toArray=Array.map η a++vs.toArray by apply wJ;simp]
  simpa using this
 .cases h
theorem eW(s t:af):aQ (s++t)=aQ s++aQ t:=by simp[aQ]
theorem Qu{s:af}{b:Nat}{k:aE}(h:(b,k)∈s):b∈aQ s:=xM.2 ⟨_,h,rfl⟩
theorem r9{w w':World}{O g:Nat->Prop}(z:w.heap.size<=w'.heap.size)(f:∀b,b<w.heap.size->¬O b->¬g b)
  (s:∀b,b<w.heap.size->¬O b->w'.heap[b]?=w.heap[b]?) {k:aE} {o:Obj} (h:k.ok w O o):k.ok w' g o:=by
 cases k with
 |cells t p=>obtain⟨vs,e,a⟩:=h;exact⟨vs,e,a.keep z f s⟩
 |obj ok=>exact h
 |mp P k G=>obtain⟨m,c,n,F,e,a,l⟩:=h;exact⟨m,c,n,F,e,a,λy=>(l y).imp id λ⟨v,d,j,i,q⟩=>⟨v,d,j,i,q.keep z f s⟩⟩
theorem Qz(s t:af)(b:Nat):ay (s++t) X b↔ay s (λb=>X b\/b∈aQ t) b:=by
 simp only[ay,eW,zO];constructor
 .rintro(h|h|h)
  .exact .inl (.inl h)
  .exact .inr h
  .exact .inl (.inr h)
 .rintro((h|h)|h)
  .exact .inl h
  .exact .inr (.inr h)
  .exact .inr (.inl h)
def wR:=@List.nodup_append
theorem aU.left{s t:af}(h:aU w X (s++t)):aU w (λb=>X b\/b∈aQ t) s:=by
 have d:=h.nodup;rw[eW,wR]at d;refine⟨d.1,λb k m=>?_,λb a=>?_,h.gok.mono (λb a=>(Qz s t b).2 a)⟩
 .obtain⟨f,o,e,c⟩:=h.at_ b k (xK _ m);refine⟨?_,o,e,r9 (zT _) (λb _ a=>?_) (λ_ _ _=>rfl) c⟩
  .rintro(hx|hx)
   .exact f hx
   .exact d.2.2 b (Qu m) b hx rfl
  .rw[Qz]at a;exact a
 .rcases a with a|a
  .exact h.xlt b a
  .exact h.lt (by rw[eW];exact yW _ a)
theorem stays{s i t:af}{w':World}(h:aU w X (s++t))(l:aU w' (λb=>X b\/b∈aQ t) i)(m:Mv w s w' i) :
  aU w' X (i++t)/\Mv w (s++t) w' (i++t)/\(∀b,b<w.heap.size->¬ay (s++t) X b->¬ay (i++t) X b)/\(∀b,b<w.heap.size->¬ay (s++t) X b->w'.heap[b]?=w.heap[b]?):=by
 have j:=h.nodup;rw[eW,wR]at j;have O:∀b,b<w.heap.size->¬ay (s++t) X b->¬ay (i++t) X b:=by
  intro b d n v;simp only[ay,eW,zO,not_or]at n;rcases v with a|a
  .exact n.1 a
  .rw[eW,zO]at a;rcases a with a|a
   .rcases m.new b a with f|f
    .exact n.2.1 f
    .omega
   .exact n.2.2 a
 have S:∀b,b<w.heap.size->¬ay (s++t) X b->w'.heap[b]?=w.heap[b]?:=by
  intro b d n;simp only[ay,eW,zO,not_or]at n;exact m.keep.block b d n.2.1
 refine⟨⟨?_,?_,λb d=>yI (h.xlt b d) m.keep.size,l.gok.mono (λb d=>(Qz i t b).1 d)⟩,⟨m.keep.mono (λb _ d=>by rw[eW];exact xK _ d),λb d=>?_⟩,O,S⟩
 .rw[eW,wR];refine⟨l.nodup,j.2.1,λb a c f e=>?_⟩;subst e;obtain⟨⟨y,k⟩,x,rfl⟩:=xM.1 a;exact(l.at_ y k x).1 (.inr f)
 .intro b k q;rcases zO.1 q with g|g
  .obtain⟨a,o,f,r⟩:=l.at_ b k g;refine⟨λhx=>a (.inl hx),o,f,r9 (zT _) (λb _ d=>?_) (λ_ _ _=>rfl) r⟩;rw[Qz];exact d
  .obtain⟨a,o,f,r⟩:=h.at_ b k (yW _ g);have p:=(zX.1 f).1;refine⟨a,o,(m.keep.block b p (λu=>j.2.2 b u b (Qu g) rfl)).trans f,r9 m.keep.size O S r⟩
 .rw[eW,zO]at d;rcases d with d|d
  .rcases m.new b d with a|a
   .exact .inl (by rw[eW];exact xK _ a)
   .exact .inr a
  .exact .inl (by rw[eW];exact yW _ d)
theorem rX{s t:af}{d:D}{u:Value}(h:Rd w (ay (s++t) X) d u):Rd w (ay s (λb=>X b\/b∈aQ t)) d u:=
 h.keep (zT _) (λb _ a=>by rw[Qz]at a;exact a) (λ_ _ _=>rfl)
theorem GW{s t:af}{d:D}{u:Value}(h:Rd w (ay s (λb=>X b\/b∈aQ t)) d u):Rd w (ay (s++t) X) d u:=
 h.keep (zT _) (λb _ a=>by rw[Qz];exact a) (λ_ _ _=>rfl)
def dD(P:Program)(f:Func)(a:List D)(σ:af)(d:D):Prop:=
 ∀(w:World)(X:Nat->Prop)(t:Array Value),FR w (ay σ X) a t->aU w X σ->∃u,(results f t).run P w= .ok u w/\Rd w (ay σ X) d u
def br2(P:Program)(f:Func)(R:D->af->Prop):eY
 |.ret,a,σ=>∃d,dD P f a σ d/\R d σ
 |.normal,a,σ=>∃d,dD P f a σ d/\R d σ
 |_,_,_=>False
theorem AZ{f:Func}(h:f.results= #[]):dD P f a σ (.v (.tuple #[])):=λw X t _ _=>⟨_,results_none h t P w,.v _⟩
theorem jR{O:Nat->Prop}{t:Array Value}(h:FR w O a t)(i:Nat):Rd w O (a.getD i (.v undef)) (t.getD i undef):=(FR.eval (fr:=⟨t,[]⟩) h (.tmp i))
theorem GT{f:Func}{i:Tmp}(h:f.results= #[.tmp i]):dD P f a σ (a.getD i (.v undef)):=λw X t b _=>⟨_,results_tmp h t P w,jR b i⟩
theorem AY{n:Func}{i j:Tmp}(h:n.results= #[.tmp i,.tmp j]):dD P n a σ (.tup [a.getD i (.v undef),a.getD j (.v undef)]):=λw X t f _=>by
 refine⟨_,results_tmp2 h t P w,?_⟩;have:=bb.cons (jR f i) (bb.cons (jR f j) bb.nil);exact .tup _ _ this.len this.at_
def vV:=@Array.getElem?_append_left
def wF:=@List.getElem?_replicate
theorem CY{O:Nat->Prop}{args:List D}{vs:List Value}(h:bb w O args vs)(m:Nat):FR w O (args++List.replicate (m-args.length) (.v undef)) (vs.toArray++Array.replicate (m-vs.toArray.size) undef):=by
 refine⟨by simp[h.len],λi d a=>?_⟩;by_cases hi:i<args.length
 .rw[yP hi]at a;obtain⟨u,e,c⟩:=h.get a;refine⟨u,?_,c⟩;have:i<vs.length:=by rw[h.len];exact hi
  rw[vV (by simpa using this)]
  simpa using e
 .rw[yK (by omega),wF]at a;split at a
  .rename_i t
   cases a
   refine⟨undef,?_,.v _⟩;rw[Array.getElem?_append_right (by simp[h.len];omega)];have b:i-vs.toArray.size<m-vs.toArray.size:=by simp[h.len];exact t
   rw[Array.getElem?_replicate,if_pos b]
  .cases a
theorem Rd.of_cells{w w':World}{O:Nat->Prop}(z:w.heap.size<=w'.heap.size)(B:∀a v,w.cell? a=some v->w'.cell? a=some v){d:D}{x:Value}(h:Rd w O d x):Rd w' O d x:=by
 induction h with
 |v x=>exact .v x
 |any x=>exact .any x
 |sl k E a C vs r F l y c=>
  refine .sl k E a C vs r F (λi x hx=>?_) c;obtain⟨b,o,G,u,e,m⟩:=l i x hx;exact⟨b,o,G,u,yI e z,λj A=>B _ _ (m j A)⟩
 |ro s b o vs u e l y c=>exact .ro s b o vs u (yI e z) (λj A=>B _ _ (l j A)) c
 |agg s vs p y c=>exact .agg s vs p c
 |tup s vs p y c=>exact .tup s vs p c
 |clo f s vs p y c=>exact .clo f s vs p c
 |gl g q H u l=>exact .gl g q H (yI u z) (B _ _ l)
 |ifc t d x h c=>exact .ifc t d x c
 |mth n d x h c=>exact .mth n d x c
theorem bb.of_cells{w w':World}{O:Nat->Prop}(z:w.heap.size<=w'.heap.size)(c:∀a v,w.cell? a=some v->w'.cell? a=some v){s:List D}{xs:List Value}(h:bb w O s xs):bb w' O s xs:=
 ⟨h.len,λj d u e b=>(h.at_ j d u e b).of_cells z c⟩
theorem aG4{D:Nat}{o:Obj}(d:w.heap[D]?=some o)(b:o.isCells=false){o':Obj}(a:Addr)(v:Value)(h:w.cell? a=some v):(w.putObj D o').cell? a=some v:=by
 refine(World.cell?_of_block (w:=w) (World.putObj_heap_other (λe=>?_))).trans h;have t:=World.block_lt_of_cell? w a h;have c:w.heap[a.block]?=some o:=by rw[e];exact d
 simp only[World.cell?,c]at h
 cases o<;>simp[Obj.isCells]at b h
theorem Pz(D:Nat)(o:Obj):(w.putObj D o).heap.size=w.heap.size:=by simp[World.putObj]
theorem aU.turn(h:aU w X σ){D:Nat}{o o':Obj}(L:6<=D)(O:¬ay σ X D)(C:w.heap[D]?=some o)(J:o.isCells=false)(m:∀p c,o ≠ .map p c):aU (w.putObj D o') X σ:=by
 have z:w.heap.size<=(w.putObj D o').heap.size:=Nat.le_of_eq (Pz _ _).symm;have l:=aG4 (w:=w) C J (o':=o');have a:∀b,b≠D->(w.putObj D o').heap[b]?=w.heap[b]?:=λb f=>World.putObj_heap_other f;refine⟨h.nodup,λb k m=>?_,λb f=>yI (h.xlt b f) z,?_⟩
 .obtain⟨x,o,u,g⟩:=h.at_ b k m;refine⟨x,o,(a b (λe=>by subst e;exact O (.inr (Qu m)))).trans u,?_⟩
  cases k with
  |cells t M=>obtain⟨vs,B,A⟩:=g;exact⟨vs,B,A.of_cells z l⟩
  |obj ok=>exact g
  |mp P k G=>obtain⟨p,c,n,F,B,A,K⟩:=g;exact⟨p,c,n,F,B,A,λy=>(K y).imp id λ⟨v,d,I,H,E⟩=>⟨v,d,I,H,E.of_cells z l⟩⟩
 .refine⟨λb f=>yI (h.gok.lt b f) z,xH h.gok.sz z,h.gok.no,?_,?_,?_,λi n r=>l _ _ (h.gok.rc i n r)⟩
  .exact lY (λb f=>a b (by omega)) h.gok.pow
  .exact λi s r=>l _ _ (h.gok.words i s r)
  .obtain⟨q,x,u,g⟩:=h.gok.checks;refine⟨q,l _ _ x,u,g.same (a q (λe=>?_))⟩;obtain⟨p,ck,j,_⟩:=g;subst e;rw[C]at j
   cases j
   exact m _ _ rfl
theorem FR.of_cells{w w':World}{O:Nat->Prop}(z:w.heap.size<=w'.heap.size)(c:∀a v,w.cell? a=some v->w'.cell? a=some v){t:Array Value}(h:FR w O a t):FR w' O a t:=
 ⟨h.size,λi d b=>let ⟨u,h1,h2⟩:=h.at_ i d b;⟨u,h1,h2.of_cells z c⟩⟩
def wZ:=@List.nodup_cons
theorem aI9{v:Func}{t:Array Value}{w0:World}{s:af}{d:D}{F:Fence}{m:Nat}{R:Ending->World->Prop}(G:6<=w0.heap.size)(f:dD P v a s d)
  (r:∀w u,Rd w (ay s X) d u->aU w X s->Mv w0 σ w s->R (.returned u) w) :
  ∀(l:List Nat)(w:World),FR w (ay s X) a t->aU w X s->Mv w0 σ w s->l.Nodup->(∀b∈l,w0.heap.size<=b/\¬ay s X b/\w.heap[b]?=some (.deferred (some [])))->LeavesInM F m P v t R (l.map Qn) .returning w
 |[],w,p,n,g,_,_=>by
  obtain⟨u,I,H⟩:=f w X t p n;exact⟨u,I,r w u H n g⟩
 |b::l,w,p,n,g,j,k=>by
  obtain⟨J,B,o⟩:=k b (by simp);rw[wZ]at j;have z:w.heap.size<=(w.putObj b (.deferred none)).heap.size:=Nat.le_of_eq (Pz _ _).symm;refine⟨(λh=>by cases h),.inl ⟨b,_,rfl,run_takeDeferred o,aI9 G f r l _ (p.of_cells z (aG4 o rfl)) (n.turn (by omega) B o rfl (λ_ _ h=>by cases h)) ⟨⟨g.keep.os,g.keep.tape,g.keep.output,xH g.keep.size z,λi E C=>?_⟩,g.new⟩ j.2 (λc q=>?_)⟩⟩
  .exact(World.putObj_heap_other (λe=>by omega)).trans (g.keep.block i E C)
  .obtain⟨A,y,x⟩:=k c (by simp[q]);exact⟨A,y,(World.putObj_heap_other (λe=>by subst e;exact j.1 q)).trans x⟩
theorem lA{f:FuncId}{g:Func}{c:Code}{args:List D}{R:D->af->Prop}(x:P.funcs[f]?=some g)(i:(g.name == "runtime.NumGoroutine")=false)(y:g.body=some c)
  (h:∀B,dQ P none 9 B c (br2 P g R) (args++List.replicate (g.ntmps-args.length) (.v undef)) σ):az P f args σ R:=by
 refine⟨enters_of x i y,λw X vs E t=>?_⟩;refine callsIn_wide (n:=9)|>.1 (callsIn_of_wp_marks x y trivial ?_ rfl);refine wpIn_mono ((h w.heap.size).run w X _ ⟨CY E g.ntmps,t,EP.nil (zT _)⟩) ?_;have fin:∀{p:List D}{s:af}{b:Act}{a:World}{d:D},dD P g p s d->R d s->St a X w.heap.size p s b->Mv w σ a s ->
   LeavesInM Fence.wide 9 P g b.tmps (λe a=>∃u d σ',e= .returned u/\R d σ'/\Rd a (ay σ' X) d u/\aU a X σ'/\Mv w σ a σ') b.defers .returning a:=by
  intro p s b a d m l j o;obtain⟨_,F,e,q,r⟩:=j.df;rw[e];exact aI9 t.gok.sz m (λa u C A z=>⟨u,d,s,rfl,l,C,A,z⟩) F a j.fr j.st o q r
 rintro e b a ⟨p,s,k,j,o⟩
 cases e with
 |ret=>obtain⟨d,m,l⟩:=k;exact fin m l j o
 |normal=>obtain⟨d,m,l⟩:=k;exact fin m l j o
 |exit _=>exact k.elim
 |goto _=>exact k.elim
 |panic _=>exact k.elim
 |outgrown=>exact k.elim
theorem cb.of_call{f:FuncId}{args:List D}{R:D->Prop}(h:az P f args [] (λd _=>R d)):cb P f args R:=
 ⟨h.ent,λw O vs v o=>(h.run w O vs ⟨v.len,λj d u c g=>(v.at_ j d u c g).keep (zT _) (λb _ a=>by simpa [ay,aQ]using a) (λ_ _ _=>rfl)⟩
  ⟨by simp[aQ],by simp,o.lt,o.mono (λb a=>by simpa [ay,aQ]using a)⟩).mono λe m⟨u,d,s,c,g,l,n,k⟩=>⟨u,d,c,g,l.keep (zT _) (λb _ a i=>a (.inl i)) (λ_ _ _=>rfl),k.keep.mono (λb _ a=>by simp[aQ]at a)⟩⟩
theorem APure.of_call{f:FuncId}{args:List D}{d:D}(h:az P f args [] (λd' _=>d'=d)):APure P f args d:=
 ⟨h.ent,λw O vs v o=>((cb.of_call h).run w O vs v o).mono λe i⟨u,d',c,b,a,g⟩=>⟨u,c,by rw[←b];exact a,g⟩⟩
inductive Wk:List D->List D->Prop
 |nil:Wk [] []
 |same {d:D} {a b:List D} (h:Wk a b):Wk (d::a) (d::b)
 |any {d:D} {a b:List D} (h:Wk a b):Wk (d::a) (.any::b)
theorem Wk.get{a b:List D}(h:Wk a b):a.length=b.length/\∀(i:Nat)d,b[i]?=some d->d= .any\/a[i]?=some d:=by
 induction h with
 |nil=>exact⟨rfl,λi d h=>by simp at h⟩
 |same h e=>exact⟨by simp[e.1],λi d c=>by cases i with|zero=>simp at c;simp[c]|succ i=>simp at c;simpa using e.2 i d c⟩
 |any h e=>exact⟨by simp[e.1],λi d c=>by cases i with|zero=>simp at c;simp[c]|succ i=>simp at c;simpa using e.2 i d c⟩
end
end
section
open Go Go.RowKit Go.Shelf
section
variable {P:Program} {r:Option Nat} {n:Nat} {df:Nat} {ops:Array Oper} {Q:eY} {a:List D} {σ:af} {w:World} {X:Nat->Prop} {ρ:Operand->D}
def zU:=@List.mem_cons
theorem aU.new(h:aU w X σ)(o:Obj)(k:aE)(l:k.ok w (ay σ X) o) :
  aU (w.alloc o) X ((w.heap.size,k)::σ)/\Mv w σ (w.alloc o) ((w.heap.size,k)::σ)/\(∀b,b<w.heap.size->¬ay σ X b->¬ay ((w.heap.size,k)::σ) X b):=by
 have O:∀b,b<w.heap.size->¬ay σ X b->¬ay ((w.heap.size,k)::σ) X b:=by
  intro b a n j;rcases j with c|c
  .exact n (.inl c)
  .simp only[aQ,List.map_cons,zU]at c;rcases c with c|c
   .omega
   .exact n (.inr c)
 have hx:Ex w (w.alloc o):=(Ex.refl w).alloc;have d:qZ (w.alloc o) (ay ((w.heap.size,k)::σ) X):=h.gok.keep hx.size O (λb a _=>hx.block b a) (λb a=>by
  rcases a with a|a
  .exact yI (h.xlt b a) hx.size
  .simp only[aQ,List.map_cons,zU]at a;rcases a with rfl|a
   .simp
   .exact yI (h.lt a) hx.size)
 refine⟨⟨?_,?_,λb a=>yI (h.xlt b a) hx.size,d⟩,⟨hx.keep,λb a=>?_⟩,O⟩
 .simp only[aQ,List.map_cons,wZ];exact⟨λm=>by have:=h.lt m;omega,h.nodup⟩
 .intro b i m;rcases zU.1 m with e|m
  .cases e
   exact⟨λp=>by have:=h.xlt _ p;omega,o,by unfold World.alloc;exact Array.getElem?_push_size,r9 hx.size O (λb a _=>hx.block b a) l⟩
  .obtain⟨c,g,f,q⟩:=h.at_ b i m;exact⟨c,g,(hx.block b (zX.1 f).1).trans f,r9 hx.size O (λb a _=>hx.block b a) q⟩
 .simp only[aQ,List.map_cons,zU]at a;rcases a with rfl|a
  .exact .inr (zT _)
  .exact .inl a
theorem aL4{i b:Nat}{k k':aE}(h:σ[i]?=some (b,k)):aQ (σ.set i (b,k'))=aQ σ:=by
 unfold aQ;apply xY;intro j;rw[qA,qA,xP];split
 .rename_i e;subst e;split
  .rw[h];rfl
  .rename_i l;have:=(zE.1 h).1;omega
 .rfl
theorem aU.upd(h:aU w X σ){i b:Nat}{k k':aE}(d:σ[i]?=some (b,k)){w':World}{o':Obj}(a:aW (λx=>x=b) w w')(l:w'.heap[b]?=some o')(D:k'.ok w (ay σ X) o') :
  aU w' X (σ.set i (b,k'))/\Mv w σ w' (σ.set i (b,k'))/\(∀x,x<w.heap.size->¬ay σ X x->¬ay (σ.set i (b,k')) X x)/\(∀x,x<w.heap.size->¬ay σ X x->w'.heap[x]?=w.heap[x]?):=by
 have m:b∈aQ σ:=Qu (zG d);have O:∀x,x<w.heap.size->¬ay σ X x->¬ay (σ.set i (b,k')) X x:=by
  intro x _ n l;rcases l with f|f
  .exact n (.inl f)
  .rw[aL4 d]at f;exact n (.inr f)
 have S:∀x,x<w.heap.size->¬ay σ X x->w'.heap[x]?=w.heap[x]?:=λx hx n=>a.block x hx (λe=>n (.inr (e ▸ m)));have r:qZ w' (ay (σ.set i (b,k')) X):=h.gok.keep a.size O S (λx hx=>yI (h.own_lt (by
  rcases hx with hx|hx
  .exact .inl hx
  .rw[aL4 d]at hx;exact .inr hx)) a.size)
 refine⟨⟨by rw[aL4 d];exact h.nodup,?_,λx hx=>yI (h.xlt x hx) a.size,r⟩,⟨a.mono (λx _ e=>by subst e;exact m),λx hx=>.inl (by rw[aL4 d]at hx;exact hx)⟩,O,S⟩;intro x B C;obtain⟨j,c⟩:=yO C;rw[xP]at c;split at c
 .split at c
  .cases c
   exact⟨(h.at_ _ k (zG d)).1,o',l,r9 a.size O S D⟩
  .cases c
 .rename_i p;obtain⟨f,o,y,E⟩:=h.at_ x B (zG c);have g:x≠b:=by
   intro e;subst e;have q:=h.nodup;have G:(aQ σ)[i]?=some x:=by simp[aQ,qA,d]
   have F:(aQ σ)[j]?=some x:=by simp[aQ,qA,c]
   obtain⟨u,A⟩:=zE.1 G;obtain⟨s,z⟩:=zE.1 F;have v:=wS.1 q;rcases Nat.lt_or_gt_of_ne p with t|t
   .exact v i j u s t (A.trans z.symm)
   .exact v j i s u t (z.trans A.symm)
  exact⟨f,o,(a.block x (zX.1 y).1 g).trans y,r9 a.size O S E⟩
def PK:D->Bool
 |.any=>false
 |_=>true
theorem bf4{d:D}(h:PK d=true):d ≠ .any:=by rintro rfl;cases h
def dH:D->Bool
 |.v x=>x.oneCell'
 |.sl _ _=>true
 |.ro _=>true
 |.clo _ _=>true
 |_=>false
theorem Hi{O:Nat->Prop}{d:D}{u:Value}(h:Rd w O d u)(a:dH d=true):u.oneCell'=true:=by
 cases h<;>first|exact a|rfl|cases a
theorem kA{O:Nat->Prop}{cs:List D}{vs:List Value}(h:bb w O cs vs)(c:cs.all dH=true):∀v∈vs,v.oneCell'=true:=by
 intro v b;obtain⟨j,a⟩:=yO b;have t:j<cs.length:=by rw[←h.len];exact(zE.1 a).1
 exact Hi (h.at_ j cs[j] v (zD t) a) (yA.1 c _ (wE t))
theorem Pg{t:TypeId}{i:TI}(h:aD P t=some i)(d:i.zero.length=i.size)(p:0<i.size)(w:World):∃z,(zeroValue t).run P w= .ok z w/\z.cells.toList=i.zero.map zv:=by
 obtain⟨f,u,k,q,_,o,_,_,_,a,_⟩:=E2 h
 cases b:f.zero with
 |none=>rw[b]at a;simp at a;rw[a]at d;simp at d;omega
 |some z=>
  refine⟨z,by simp[zeroValue,typeInfo,program,Sem.run,k,b],?_⟩;rw[b]at a
  cases m:z.cells.toList.mapM tC with
  |none=>simp[m]at a;rw[a]at d;simp at d;omega
  |some n=>
   simp[m]at a;rw[a];have:∀(l:List Value)(r:List ZV),l.mapM tC=some r->l=r.map zv:=by
    intro l
    induction l with
    |nil=>intro r c;simp at c;subst c;rfl
    |cons x l g=>
     intro r c;simp only[List.mapM_cons,Option.bind_eq_bind,Option.bind_eq_some_iff,Option.pure_def,xB]at c;obtain⟨y,j,e,s,rfl⟩:=c;rw[List.map_cons,←Fo j,←g e s]
   exact this _ _ m
def vA:=@List.map_map
theorem qK{T:TypeId->Option TI}(s:∀t i,T t=some i->aD P t=some i){o:Oper}{c:List Oper}{t:TypeId}{i:TI}(m:gb ops a o=some true)(f:o.op= .alloc t)(p:T t=some i)(l:i.zero.length=i.size)(q:0<i.size)
  (k:∀b,bP P r n df ops Q c (aF a o.dst (.v (.pointer (some ⟨b,0,none⟩)))) ((b,.cells t (i.zero.map λz=>.v (zv z)))::σ)):bP P r n df ops Q (o::c) a σ:=by
 refine oM m (by rw[f];rfl) λw X j h=>?_;obtain⟨z,x,u⟩:=Pg (s t i p) l q w;have e:(execOp j.eval o).run P w= .ok (.value (.pointer (some ⟨w.heap.size,0,none⟩))) (w.alloc (.cells z.cells t)):=by
  simp only[execOp,f,Sem.run_bind,Instr.alloc,x,Result.andThen,newVar,newRow,newObj]
  rfl
 rw[e];obtain⟨A,y,g⟩:=h.st.new (.cells z.cells t) (.cells t (i.zero.map λz=>.v (zv z))) ⟨z.cells.toList,by simp,by rw[u];have:=KO (w:=w) (O:=ay σ X) (i.zero.map zv);rw[vA]at this;exact this⟩;exact⟨_,_,y,(⟨h.fr.keep (by simp) g (λb d _=>((Ex.refl w).alloc).block b d),A,h.df.keep (by simp) g (λb d _=>((Ex.refl w).alloc).block b d)⟩:St (w.alloc (.cells z.cells t)) X df a _ j).put (.v _) o.dst,k _⟩
def ft(cs:List D)(o:Nat)(new:List D):List D:=cs.take o++new++cs.drop (o+new.length)
theorem bb.take{O:Nat->Prop}{cs:List D}{vs:List Value}(h:bb w O cs vs)(m:Nat):bb w O (cs.take m) (vs.take m):=
 ⟨by simp[h.len],λj d u a b=>by
  rw[yX]at a b;split at a
  .rename_i c;rw[if_pos c]at b;exact h.at_ j d u a b
  .cases a⟩
theorem bb.drop{O:Nat->Prop}{cs:List D}{vs:List Value}(h:bb w O cs vs)(m:Nat):bb w O (cs.drop m) (vs.drop m):=
 ⟨by simp[h.len],λj d u b a=>by
  rw[xR]at b a;exact h.at_ _ d u b a⟩
theorem aP5{b:Nat}{c cur':Array Value}{t:TypeId}{f:Nat×Nat}(h:w.heap[b]?=some (.cells c t f)):(w.setRow b cur').heap[b]?=some (.cells cur' t f)/\aW (λx=>x=b) w (w.setRow b cur'):=by
 refine⟨setRow_heap w b c cur' t f h,rfl,rfl,rfl,by simp[World.setRow],λx hx n=>?_⟩;simp only[World.setRow,Array.getElem?_modify];rw[if_neg (λe=>n e.symm)]
theorem qJ{T:TypeId->Option TI}(U:∀t i,T t=some i->aD P t=some i){o:Oper}{g:List Oper}{t:TypeId}{p x:Operand}{i j b f:Nat}{tb:TypeId}{cs:List D}{d:D}{y:TI}(L:gb ops a o=some true)(G:o.op= .store t p x)(M:T t=some y)
  (R:gV a p= .v (.pointer (some ⟨b,f,none⟩))) (hx:gV a x=d) (H:σ[j]?=some (b,.cells tb cs)) (E:PK d=true) (S:(gF d).length=i) (N:y.size=i) (hf:f+i<=cs.length) (V:(gF d).all dH=true)
  (k:bP P r n df ops Q g (aF a o.dst (.v undef)) (σ.set j (b,.cells tb (ft cs f (gF d))))):bP P r n df ops Q (o::g) a σ:=by
 refine oM L (by rw[G];rfl) λw X c h=>?_;have F:=h.fr.eval x;rw[hx]at F;have C:=(h.fr.eval p).val R;have z:=F.cells (bf4 E);obtain⟨_,Z,q,vs,rfl,s⟩:=h.st.at_ b _ (zG H);have B:=(Mr (U t y M) w).2;have l:(c.eval x).cells.toList.length=i:=by rw[z.len,S]
 have m:=run_storeCells_at P b f tb (c.eval x).cells.toList 0 vs.toArray w q (by rw[l];simp[s.len];omega) (kA z V);have e:(execOp c.eval o).run P w= .ok .skip (w.setRow b (vs.take f++(c.eval x).cells.toList++vs.drop (f+(c.eval x).cells.toList.length)).toArray):=by
  have O:¬(c.eval x).cells.size≠y.size:=by
   have:(c.eval x).cells.size=i:=by simpa using l
   rw[this,N];simp
  simp only[execOp,G,Sem.run_bind,Instr.storeAt,C,Instr.sureAddr,Sem.run_pure,Result.andThen,storeVar,B,if_neg O,m];simp
 rw[e];obtain⟨K,A⟩:=aP5 (cur':=(vs.take f++(c.eval x).cells.toList++vs.drop (f+(c.eval x).cells.toList.length)).toArray) q;have u:bb w (ay σ X) (ft cs f (gF d)) (vs.take f++(c.eval x).cells.toList++vs.drop (f+(c.eval x).cells.toList.length)):=by
  unfold ft;rw[z.len];exact((s.take f).append z).append (s.drop _)
 obtain⟨Y,W,J,I⟩:=h.st.upd H (k':=.cells tb (ft cs f (gF d))) A K ⟨_,rfl,u⟩;exact⟨_,W,(⟨h.fr.keep A.size J I,Y,h.df.keep A.size J I⟩:St _ X df a _ c).put (.v _) o.dst,k⟩
theorem MB{T:TypeId->Option TI}(M:∀t i,T t=some i->aD P t=some i){o:Oper}{t:TypeId}{p:Operand}{j b a:Nat}{tb:TypeId}{cs:List D}{c:TI}(B:o.op= .load t p)(I:T t=some c)
  (K:ρ p= .v (.pointer (some ⟨b,a,none⟩))) (L:σ[j]?=some (b,.cells tb cs)) (V:a+c.size<=cs.length) (F:c.agg=true\/c.size=1):Yd P o ρ σ (m4 c.agg ((cs.drop a).take c.size)):=by
 intro w X η y z;obtain⟨dst,S,R,pos,Q,g⟩:=o;simp only at B;subst B;have q:=(y p (by simp[Op.operands])).val K;obtain⟨_,U,A,vs,rfl,k⟩:=z.at_ b _ (zG L);obtain⟨x,N⟩:=Mr (M t c I) w;have l:∀m,m<cs.length->w.cell? ⟨b,m,none⟩=some (vs.getD m undef):=by
  intro m C;have:m<vs.length:=by rw[k.len];exact C
  simp[World.cell?,A,this]
 have e:=A3 (w:=w) (O:=ay σ X) (cs:=cs.drop a) (f:=λm=>vs.getD (a+m) undef) (n:=c.size) c.agg (by simp;omega) F (λm d E=>by
  rw[xR]at E;obtain⟨u,H,G⟩:=k.get E
  simpa [List.getD_eq_getElem?_getD,H]using G)
 cases r:c.agg with
 |true=>
  rw[r]at x e;refine dC (s:=Instr.loadAt t (η p)) ?_ (Ex.refl w) e;rw[q];exact ay3 x N (λm C=>l (a+m) (by omega))
 |false=>
  rw[r]at x e;have J:c.size=1:=by rcases F with h|h<;>simp_all
  refine dC (s:=Instr.loadAt t (η p)) (u:=vs.getD (a+0) undef) ?_ (Ex.refl w) e;rw[q];exact QB x (l a (by omega))
end
end
end Go.Proofs.YtilnpcolgcmofaaGreatDoor
