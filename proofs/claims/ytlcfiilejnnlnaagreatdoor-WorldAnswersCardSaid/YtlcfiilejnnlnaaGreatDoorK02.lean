/- A part of the proof: Yd Cl St Rw Spec Bs Mo Pm. -/
import Derived.Test.YtlcfiilejnnlnaaGreatDoorK01
import Derived.Maps.AppendAt
import Derived.RangeFuncLeaves
import Derived.RangeFuncRecord
import Derived.RangeFuncSeq
import Derived.RangeFuncOwn
import Derived.Laws.CopyRow
import Derived.ArgAppend
import Derived.Laws.Tables
import Derived.Deep.OwnRows
set_option maxRecDepth 100000
set_option maxHeartbeats 20000000
set_option linter.all false
namespace Go.Proofs.YtlcfiilejnnlnaaGreatDoor
open Tryz
section
open Go Go.RowKit Go.Shelf
section
variable {P:Program} {σ:aa1} {w:World} {X:Nat->Prop} {ρ:Operand->D}
theorem ag4 {s:Sem Value} {u:Value} {w':World} {d:D} (h:s.run P w = .ok u w') (hx:Ex w w') (hr:Rd w' (Own σ X) d u):YU P w X σ d ((do pure (Next.value (← s)):Sem Next).run P w):=by
 simp only [Sem.run_bind,h,Result.andThen,Sem.run_pure];exact⟨hx,hr⟩
def yX:=@List.getElem?_take
theorem cb9 {O:Nat->Prop} {cs:List D} {f:Nat->Value} {n:Nat} (ag:Bool) (hl:n<=cs.length) (h1:ag=true\/n=1) (hr:∀ (j:Nat) d,cs[j]?=some d->Rd w O d (f j)) :
  Rd w O (mkD ag (cs.take n)) (if ag then .agg ((List.range n).map f).toArray else f 0):=by
 cases ag with
 | true=>
  refine .agg _ _ (by simp [hl]) (fun j d u h2 h3=>?_);rw [yX] at h2;split at h2
  ·rename_i hj;simp [hj] at h3;subst h3;exact hr j d h2
  ·cases h2
 | false=>
  have:n=1:=by simpa using h1
  subst this
  cases cs with
  | nil=>simp at hl
  | cons c cs=>exact hr 0 c rfl
def vL:=@Nat.ble_eq
def xO:=@Bool.or_eq_true
theorem bT7 {t:TypeId} {T:TypeId->Option TI} (hT:∀ t i,T t=some i->tiOf P t=some i) {dx d:D} {s:Prop} {x:Value} (h:bT8 (T t) dx=some (s,d)) (hx:Rd w (Own σ X) dx x) :
  ∃ u,(Instr.loadAt t x).run P w = .ok u w/\Rd w (Own σ X) d u:=by
 unfold bT8 at h;split at h
 ·rename_i i cs hti;obtain⟨g1,g2⟩:=aT1 (hT t i hti) w
  cases hc:(Nat.ble i.size cs.length&&(i.agg||i.size==1)) with
  | false=>rw [hc] at h;cases h
  | true=>
   rw [hc] at h;cases h
   simp only [zJ,vL,xO,beq_iff_eq] at hc;generalize hq:D.ro cs=q at hx
   cases hx<;>cases hq
   rename_i b off vs hO hb hcl hr;have hrd:=cb9 (f:=vs) i.agg hc.1 hc.2 hr
   cases hag:i.agg with
   | true=>
    rw [hag] at g1 hrd;exact⟨_,az0 g1 g2 (fun j hj=>hcl j (by omega)),hrd⟩
   | false=>
    rw [hag] at g1 hrd;have h1:i.size=1:=by rcases hc.2 with h|h<;>simp_all
    exact⟨_,au1 g1 (by have:=hcl 0 (by omega);simpa using this),hrd⟩
 ·cases h
def xB:=@Option.some.injEq
theorem bq6 {α β:Type} {f:α->Option β}:∀ {l:List α} {r:List β},l.mapM f=some r->∀ (i:Nat) (b:β),r[i]?=some b->∃ a,l[i]?=some a/\f a=some b
 | [],r,h,i,b,hb=>by simp at h;subst h;simp at hb
 | x::l,r,h,i,b,hb=>by
  simp only [List.mapM_cons,Option.bind_eq_bind,Option.bind_eq_some_iff,Option.pure_def,xB] at h;obtain⟨y,hy,ys,hys,rfl⟩:=h
  cases i with
  | zero=>simp at hb;subst hb;exact⟨x,rfl,hy⟩
  | succ i=>simp at hb;obtain⟨a,h1,h2⟩:=bq6 hys i b hb;exact⟨a,by simpa using h1,h2⟩
def xN:=@Option.map_eq_some_iff
def vY:=@Prod.mk.injEq
theorem bn7 {t:TypeId} {i:TI} (h:tiOf P t=some i) {f off n:Nat} {ag:Bool} (hf:i.fs[f]?=some (off,ag,n)) :
  ∃ fs fl,P.underlying t=some (.struct fs)/\fs[f]?=some fl/\fl.offset=off/\szOf P fl.type=some (ag,n):=by
 obtain⟨inf,u,h1,h2,_,_,h5,_,_,_,_⟩:=as9 h;rw [h5] at hf
 cases u with
 | struct fs=>
  simp only at hf
  cases hm:fs.toList.mapM (fun f=>(szOf P f.type).map fun s=>(f.offset,s.1,s.2)) with
  | none=>rw [hm] at hf;simp at hf
  | some r=>
   rw [hm] at hf;obtain⟨fl,g1,g2⟩:=bq6 hm f _ hf;simp only [xN,vY] at g2;obtain⟨sz,g3,rfl,rfl,rfl⟩:=g2;exact⟨fs,fl,h2,by simpa using g1,rfl,by rw [g3]⟩
 | _=>simp at hf
theorem aN9 {t:TypeId} {i:TI} (h:tiOf P t=some i) {f off n b o:Nat} {ag:Bool} (hf:i.fs[f]?=some (off,ag,n)) (hn:n≠0) :
  (Instr.fieldAt t (.pointer (some ⟨b,o,none⟩)) f).run P w = .ok (.pointer (some ⟨b,o+off,none⟩)) w:=by
 obtain⟨fs,fl,h1,h2,h3,h4⟩:=bn7 h hf;have:=(aq0 h4 w).2;simp [Instr.fieldAt,run_underlying h1,h2,Instr.sureAddr,fieldPlace,this,hn,Result.andThen,as5,h3]
def xJ:=@Bool.not_eq_true'
theorem bK3 {t:TypeId} {T:TypeId->Option TI} (hT:∀ t i,T t=some i->tiOf P t=some i) {f:Nat} {dx d:D} {s:Prop} {x:Value} (h:aG2 (T t) f dx=some (s,d)) (hx:Rd w (Own σ X) dx x) :
  ∃ u,(Instr.fieldAt t x f).run P w = .ok u w/\Rd w (Own σ X) d u:=by
 cases hti:T t with
 | none=>rw [hti] at h;simp [aG2] at h
 | some i=>
  rw [hti] at h
  cases hf:i.fs[f]? with
  | none=>cases dx<;>simp [aG2,hf] at h;(split at h<;>simp_all)
  | some p=>
   obtain⟨off,ag,n⟩:=p
   cases dx with
   | ro cs=>
    simp only [aG2,hf] at h
    cases hc:(Nat.ble off cs.length && !(n==0)) with
    | false=>rw [hc] at h;cases h
    | true=>
     rw [hc] at h;cases h
     simp only [zJ,vL,xJ,beq_eq_false_iff_ne,ne_eq] at hc;generalize hq:D.ro cs=q at hx
     cases hx<;>cases hq
     rename_i b o vs hO hb hcl hr;refine⟨_,aN9 (hT t i hti) hf hc.2,.ro _ _ _ (fun j=>vs (off+j)) hO hb (fun j hj=>?_) (fun j d hd=>?_)⟩
     ·rw [vQ];exact hcl (off+j) (by simp at hj;omega)
     ·rw [xR] at hd;exact hr _ _ hd
   | v y=>
    have:=hx.val rfl;subst this;unfold aG2 at h;split at h
    ·cases ‹D.v _=D.ro _›
    ·rename_i i' f' b o e1 e2
     cases e1;cases e2
     simp only [hf] at h
     cases hc:(!(n==0)) with
     | false=>rw [hc] at h;cases h
     | true=>
      rw [hc] at h;cases h
      simp only [xJ,beq_eq_false_iff_ne,ne_eq] at hc;exact⟨_,aN9 (hT t i hti) hf hc,.v _⟩
    ·cases h
   | _=>simp [aG2] at h
def wJ:=@Array.ext'
def xY:=@List.ext_getElem?
def xV:=@List.getElem?_range
theorem bT5 {t:TypeId} {T:TypeId->Option TI} (hT:∀ t i,T t=some i->tiOf P t=some i) {f:Nat} {dx d:D} {s:Prop} {x:Value} (h:bm4 (T t) f dx=some (s,d)) (hx:Rd w (Own σ X) dx x) :
  ∃ u,(Instr.field t x f).run P w = .ok u w/\Rd w (Own σ X) d u:=by
 cases hti:T t with
 | none=>rw [hti] at h;simp [bm4] at h
 | some i=>
  rw [hti] at h
  cases dx with
  | agg cs=>
   cases hf:i.fs[f]? with
   | none=>simp [bm4,hf] at h
   | some p=>
   obtain⟨off,ag,n⟩:=p;simp only [bm4,hf] at h
   cases hc:(Nat.ble (off+n) cs.length&&(ag||n==1)) with
   | false=>rw [hc] at h;cases h
   | true=>
    rw [hc] at h;cases h
    simp only [zJ,vL,xO,beq_iff_eq] at hc;generalize hq:D.agg cs=q at hx
    cases hx<;>cases hq
    rename_i vs hl hr;obtain⟨fs,fl,h1,h2,h3,h4⟩:=bn7 (hT t i hti) hf;obtain⟨k1,k2⟩:=aq0 h4 w;have hrd:=cb9 (w:=w) (O:=Own σ X) (cs:=cs.drop off) (f:=fun j=>(vs[off+j]?).getD undef) (n:=n) ag (by simp;omega) hc.2 (fun j d hd=>by
     rw [xR] at hd;have hlt:off+j<vs.length:=by rw [hl];exact (zE.1 hd).1
     have:=hr (off+j) d _ hd (zD hlt)
     simpa [zD hlt] using this)
    refine⟨_,?_,hrd⟩
    cases ag with
    | true=>
     simp only [Instr.field,Sem.run_bind,run_underlying h1,Result.andThen,h2,asAgg,Sem.run_pure,part,k1,k2,if_true,h3];have e:vs.toArray.extract off (off+n)=((List.range n).map fun j=>(vs[off+j]?).getD undef).toArray:=by
      apply wJ;apply xY;intro j;simp only [Array.toList_extract,List.extract_eq_take_drop,yX,xR,zP,xV];by_cases hj:j<n
      ·have:off+j<vs.length:=by omega
       simp [hj,this]
      ·simp [hj]
     rw [e]
    | false=>
     have:n=1:=by simpa using hc.2
     subst this;have hlt:off<vs.length:=by omega
     simp [Instr.field,run_underlying h1,Result.andThen,h2,asAgg,part,k1,h3,hlt]
  | _=>simp [bm4] at h
theorem al0 {t:TypeId} {i:TI} (h:tiOf P t=some i) {e k by_:Nat} {ag:Bool} (hf:i.sl=some (e,ag,k,by_)):P.underlying t=some (.slice e)/\szOf P e=some (ag,k)/\P.bytesOf e=by_:=by
 obtain⟨inf,u,h1,h2,_,_,_,h5,_,_,_⟩:=as9 h;rw [h5] at hf
 cases u with
 | slice e'=>
  simp only [xN,vY] at hf;obtain⟨sz,g3,rfl,rfl,rfl,rfl⟩:=hf;exact⟨h2,by rw [g3],rfl⟩
 | _=>simp at hf
theorem bK7 {t:TypeId} {i:TI} (h:tiOf P t=some i) {n k:Nat} {ag:Bool} (hf:i.arr=some (n,ag,k)):∃ e,P.underlying t=some (.array n e)/\szOf P e=some (ag,k):=by
 obtain⟨inf,u,h1,h2,_,_,_,_,h5,_,_⟩:=as9 h;rw [h5] at hf
 cases u with
 | array m e=>
  simp only [xN,vY] at hf;obtain⟨sz,g3,rfl,rfl,rfl⟩:=hf;exact⟨e,h2,by rw [g3]⟩
 | _=>simp at hf
theorem bA9 {t:TypeId} {i:TI} (h:tiOf P t=some i) (hf:i.str=true):P.underlying t=some .string:=by
 obtain⟨inf,u,h1,h2,_,_,_,_,_,_,h5⟩:=as9 h;rw [h5] at hf
 cases u<;>simp at hf
 exact h2
theorem ci6 {t ty:TypeId} {T:TypeId->Option TI} (hT:∀ t i,T t=some i->tiOf P t=some i) {dx d:D} {s:Prop} {x:Value} (h:aLen (T t) dx=some (s,d)) (hx:Rd w (Own σ X) dx x) :
  ∃ u,(Builtin.len_ #[t] ty #[x]).run P w = .ok u w/\Rd w (Own σ X) d u:=by
 cases hti:T t with
 | none=>rw [hti] at h;simp [aLen] at h
 | some i=>
  rw [hti] at h;unfold aLen at h;split at h
  ·rename_i i' k xs e1
   cases e1
   cases hs:i.sl with
   | none=>rw [hs] at h;cases h
   | some p=>
    obtain⟨e,ag,kk,by_⟩:=p;rw [hs] at h
    cases h
    have hu:=(al0 (hT t i hti) hs).1;generalize hq:D.sl k xs=q at hx
    cases hx<;>cases hq
    exact⟨_,by simp [Builtin.len_,run_underlying hu,Result.andThen,goInt],.v _⟩
  ·rename_i i' a n c e1
   cases e1
   cases hs:i.sl with
   | none=>rw [hs] at h;cases h
   | some p=>
    obtain⟨e,ag,kk,by_⟩:=p;rw [hs] at h
    cases h
    have hu:=(al0 (hT t i hti) hs).1;have:=hx.val rfl;subst this;exact⟨_,by simp [Builtin.len_,run_underlying hu,Result.andThen,goInt],.v _⟩
  ·rename_i i' s e1
   cases e1
   cases hs:i.str with
   | false=>rw [hs] at h;cases h
   | true=>
    rw [hs] at h
    cases h
    have hu:=bA9 (hT t i hti) hs;have:=hx.val rfl;subst this;exact⟨_,by simp [Builtin.len_,run_underlying hu,Result.andThen,goInt],.v _⟩
  ·cases h
def wT:=@Nat.blt_eq
theorem ci7 {t:TypeId} {T:TypeId->Option TI} (hT:∀ t i,T t=some i->tiOf P t=some i) {dx di d:D} {s:Prop} {x y:Value} (h:aIdx (T t) dx di=some (s,d)) (hs:s) (hx:Rd w (Own σ X) dx x) (hy:Rd w (Own σ X) di y) :
  ∃ u,(Instr.indexAt t x y).run P w = .ok u w/\Rd w (Own σ X) d u:=by
 cases hti:T t with
 | none=>rw [hti] at h;simp [aIdx] at h
 | some i=>
  rw [hti] at h;unfold aIdx at h;split at h
  ·rename_i i' cs kk j e1
   cases e1
   split at h
   ·rename_i n ag k harr
    cases hc:(Nat.blt j n&&Nat.ble (j*k) cs.length) with
    | false=>rw [hc] at h;cases h
    | true=>
     rw [hc] at h;cases h
     simp only [zJ,vL,wT] at hc;obtain⟨e,hu,hsz⟩:=bK7 (hT t i hti) harr;have hz:=(aq0 hsz w).2;have:=hy.val rfl;subst this;generalize hq:D.ro cs=q at hx
     cases hx<;>cases hq
     rename_i b o vs hO hb hcl hr;refine⟨.pointer (some ⟨b,o+j*k,none⟩),?_,.ro _ _ _ (fun m=>vs (j*k+m)) hO hb (fun m hm=>?_) (fun m d hd=>?_)⟩
     ·have h1:(Int.ofNat j).toNat=j:=rfl;have h2:(Int.ofNat j:Int)<n:=by simpa using hc.1
      simp [Instr.indexAt,asIntOf,run_underlying hu,Instr.sureAddr,Result.andThen,hz,as5,hc.1]
     ·rw [vQ];exact hcl (j*k+m) (by simp at hm;omega)
     ·rw [xR] at hd;exact hr _ _ hd
   ·cases h
  ·rename_i i' b off n c kk j e1
   cases e1
   split at h
   ·rename_i e ag k by_ hsl
    cases h
    obtain⟨hu,hsz,_⟩:=al0 (hT t i hti) hsl;have hz:=(aq0 hsz w).2;have:=hy.val rfl;subst this;have:=hx.val rfl;subst this;exact⟨_,by simp [Instr.indexAt,asIntOf,run_underlying hu,Result.andThen,hz,as5,hs.1,hs.2],.v _⟩
   ·cases h
  ·cases h
def vD:=@List.map_toArray
theorem ck0 {T:TypeId->Option TI} (hT:∀ t i,T t=some i->tiOf P t=some i) {o:Oper} {s:Prop} {d:D} (h:aop T o.op ρ=some (s,d)) (hs:s):Yd P o ρ σ d:=by
 intro w X η hη hst;obtain⟨dst,op,ty,pos,aft,g⟩:=o;simp only at h hη;unfold aop at h;split at h
 ·rename_i x;cases h;exact⟨Ex.refl w,hη x (by simp [Op.operands])⟩
 ·rename_i x;cases h;exact⟨Ex.refl w,hη x (by simp [Op.operands])⟩
 ·rename_i c x y;have hc:=hη c (by simp [Op.operands]);have hx:=hη x (by simp [Op.operands]);have hy:=hη y (by simp [Op.operands]);unfold bT4 at h;split at h
  ·rename_i e;cases h;rw [e] at hc;have:=hc.val rfl;simp only [execOp,this,asBool];exact⟨Ex.refl w,hx⟩
  ·rename_i e;cases h;rw [e] at hc;have:=hc.val rfl;simp only [execOp,this,asBool];exact⟨Ex.refl w,hy⟩
  ·cases h
 ·rename_i t x;have hx:=hη x (by simp [Op.operands]);unfold aBox at h;split at h
  ·cases h
  ·rename_i hne
   cases h
   exact ag4 (s:=Instr.box t (η x)) (by simp [Instr.box,newVar,newRow,newObj,Sem.run,Result.andThen]) ((Ex.refl w).alloc) (cm7 hst hx hne t)
 ·rename_i x;have hx:=hη x (by simp [Op.operands]);unfold aNil at h;split at h
  ·rename_i cs e;cases h;rw [e] at hx;generalize hu:η x=u at *;generalize hq:D.ro cs=q at hx;cases hx<;>cases hq;rename_i b off vs hO hb hc hr;simp only [execOp,hu];exact⟨Ex.refl w,.ro _ _ _ vs hO hb hc hr⟩
  ·rename_i f cs e;cases h;rw [e] at hx;generalize hu:η x=u at *;generalize hq:D.clo f cs=q at hx;cases hx<;>cases hq;rename_i vs hl hr;simp only [execOp,hu];exact⟨Ex.refl w,.clo f cs vs hl hr⟩
  ·rename_i a e;cases h;rw [e] at hx;have:=hx.val rfl;simp only [execOp,this];exact⟨Ex.refl w,.v _⟩
  ·rename_i f x y e;cases h;rw [e] at hx;have:=hx.val rfl;simp only [execOp,this];exact⟨Ex.refl w,.v _⟩
  ·cases h
 ·rename_i b t x y _;have hx:=hη x (by simp [Op.operands]);have hy:=hη y (by simp [Op.operands]);unfold aBin at h;split at h
  ·rename_i u v e1 e2;rw [e1] at hx;rw [e2] at hy;simp only [xN] at h;obtain⟨⟨s',r⟩,h1,h2⟩:=h
   cases h2
   have:=bZ7 (P:=P) h1 hs t x y w;rw [← hx.val rfl,← hy.val rfl] at this;exact ag4 this (Ex.refl w) (.v _)
  ·cases h
 ·rename_i b t x;have hx:=hη x (by simp [Op.operands]);unfold aUn at h;split at h
  ·rename_i u e1;rw [e1] at hx;simp only [xN] at h;obtain⟨⟨s',r⟩,h1,h2⟩:=h
   cases h2
   have:=ck5 (P:=P) h1 hs w;rw [← hx.val rfl] at this;exact ag4 this (Ex.refl w) (.v _)
  ·cases h
 ·rename_i t x;obtain⟨u,h1,h2⟩:=bT7 hT h (hη x (by simp [Op.operands]));exact ag4 h1 (Ex.refl w) h2
 ·rename_i t x f;obtain⟨u,h1,h2⟩:=bK3 hT h (hη x (by simp [Op.operands]));exact ag4 h1 (Ex.refl w) h2
 ·rename_i t x f;obtain⟨u,h1,h2⟩:=bT5 hT h (hη x (by simp [Op.operands]));exact ag4 h1 (Ex.refl w) h2
 ·rename_i x i;have hx:=hη x (by simp [Op.operands]);generalize hi:i=i0 at h;unfold aExt at h;split at h
  ·rename_i ds e;subst hi;rw [e] at hx;split at h
   ·rename_i d' hd
    cases h
    generalize hu:η x=u at *;generalize hq:D.tup ds=q at hx
    cases hx<;>cases hq
    rename_i vs hl hr;have hlt:i<vs.length:=by rw [hl];exact (zE.1 hd).1
    refine ag4 (s:=Instr.extract (η x) i) (u:=vs[i]) (by rw [hu];simp [Instr.extract,hlt]) (Ex.refl w) (hr i _ _ hd (zD hlt))
   ·cases h
  ·rename_i vs e;subst hi;rw [e] at hx;split at h
   ·rename_i d' hd
    cases h
    have:=hx.val rfl;exact ag4 (s:=Instr.extract (η x) i) (u:=d') (by rw [this];simp [Instr.extract,hd]) (Ex.refl w) (.v _)
   ·cases h
  ·cases h
 ·rename_i t x i;obtain⟨u,h1,h2⟩:=ci7 hT h hs (hη x (by simp [Op.operands])) (hη i (by simp [Op.operands]));exact ag4 h1 (Ex.refl w) h2
 ·rename_i c;obtain⟨callee,args,ats⟩:=c;unfold ci8 at h;split at h
  ·rename_i x t e1 e2 e3;simp only at e1 e2 e3;have h2:args = #[x]:=by apply wJ;simpa using e2
   have h3:ats = #[t]:=by apply wJ;simpa using e3
   subst e1 h2 h3;obtain⟨u,g1,g2⟩:=ci6 (ty:=ty) hT h (hη x (by simp [Op.operands,Call.operands]));simp only [execOp,resolve,invoke,builtin,Sem.run_bind,Sem.run_pure,Result.andThen,vD,List.map_cons,List.map_nil,g1];exact⟨Ex.refl w,g2⟩
  ·cases h
 ·cases h
theorem bK5 {T:TypeId->Option TI} (hT:∀ t i,T t=some i->tiOf P t=some i) {o:Oper} {t:TypeId} {x ix:Operand} {k:Nat} {xs:List (List D)} {kk:IntKind} {j:Int} {cs:List D} {i:TI} {p:Nat × Bool × Nat × Nat} (ho:o.op = .indexAddr t x ix) (hx:ρ x = .sl k xs) (hi:ρ ix = .v (.int kk j))
  (ht:T t=some i) (hs:i.sl=some p) (hk:p.2.2.1=k) (hc:xs[j.toNat]?=some cs) (h0:0<=j):Yd P o ρ σ (.ro cs):=by
 intro w X η hη hst;obtain⟨dst,op,ty,pos,aft,g⟩:=o;simp only at ho;subst ho;obtain⟨e,ag,k',by_⟩:=p;simp only at hk;subst hk;have h1:=hη x (by simp [Op.operands]);have h2:=hη ix (by simp [Op.operands]);rw [hx] at h1;rw [hi] at h2;have h2:=h2.val rfl;obtain⟨hu,hsz,_⟩:=al0 (hT t i ht) hs;have hz:=(aq0 hsz w).2;obtain⟨a,cap,vs,hv,hcap,hk,hcl,hr⟩:=h1.sl_inv;obtain⟨b,off,rfl,hO,hb,hcell⟩:=hcl _ _ hc;have hlt:j.toNat<xs.length:=(zE.1 hc).1;have hj:j<xs.length:=by omega
 have hl:cs.length=k':=hk cs (zG hc);refine ag4 (s:=Instr.indexAt t (η x) (η ix)) (u:=.pointer (some ⟨b,off+j.toNat*k',none⟩)) ?_ (Ex.refl w) (.ro _ _ _ (vs j.toNat) hO hb (fun m hm=>hcell m (by omega)) (fun m d hd=>hr _ _ hc m d hd));rw [hv,h2];simp [Instr.indexAt,asIntOf,run_underlying hu,Result.andThen,hz,as5,h0,hj]
end
end
section
open Go Go.RowKit Go.Shelf
structure ACall (P:Program) (f:FuncId) (args:List D) (σ:aa1) (R:D->aa1->Prop):Prop where
 ent:Enters P f
 run:∀ (w:World) (X:Nat->Prop) (vs:List Value),RdL w (Own σ X) args vs->StOK w X σ ->
  Calls P f vs.toArray w fun e w'=>∃ u d σ',e = .returned u/\R d σ'/\Rd w' (Own σ' X) d u/\StOK w' X σ'/\Mv w σ w' σ'
structure APure (P:Program) (f:FuncId) (args:List D) (d:D):Prop where
 ent:Enters P f
 run:∀ (w:World) (O:Nat->Prop) (vs:List Value),RdL w O args vs->GOK w O ->
  Calls P f vs.toArray w fun e w'=>∃ u,e = .returned u/\Rd w' O d u/\Ex w w'
structure ASome (P:Program) (f:FuncId) (args:List D) (R:D->Prop):Prop where
 ent:Enters P f
 run:∀ (w:World) (O:Nat->Prop) (vs:List Value),RdL w O args vs->GOK w O ->
  Calls P f vs.toArray w fun e w'=>∃ u d,e = .returned u/\R d/\Rd w' O d u/\Ex w w'
section
variable {P:Program} {r:Option Nat} {n:Nat} {df:Nat} {ops:Array Oper} {Q:Pst} {a:List D} {σ:aa1} {w:World} {X:Nat->Prop} {ρ:Operand->D}
theorem aY0 {O:Nat->Prop} {η:Operand->Value}:∀ (l:List Operand),(∀ x∈l,Rd w O (ρ x) (η x))->RdL w O (l.map ρ) (l.map η)
 | [],_=>.nil
 | x::l,h=>.cons (h x (by simp)) (aY0 l fun y hy=>h y (by simp [hy]))
def bx9 (op:Op) (ρ:Operand->D):Option (FuncId × List D):=
 match op with
 | .call c=>match c.callee with
  | .value x=>match ρ x with
   | .v (.func (.func f) first cap)=>bif first.toList.isEmpty then some (f,c.args.toList.map ρ++cap.toList.map .v) else none
   | .clo f cs=>some (f,c.args.toList.map ρ++cs)
   | _=>none
  | _=>none
 | _=>none
def yP:=@List.getElem?_append_left
def yK:=@List.getElem?_append_right
theorem RdL.append {O:Nat->Prop} {ds es:List D} {us vs:List Value} (h:RdL w O ds us) (k:RdL w O es vs):RdL w O (ds++es) (us++vs):=by
 refine⟨by simp [h.len,k.len],fun j d u h1 h2=>?_⟩;by_cases hj:j<ds.length
 ·rw [yP hj] at h1;rw [yP (by rw [h.len];exact hj)] at h2;exact h.at_ j d u h1 h2
 ·rw [yK (by omega)] at h1;rw [yK (by rw [h.len];omega),h.len] at h2;exact k.at_ _ d u h1 h2
theorem bt0 {o:Oper} {f:FuncId} {ds:List D} (h:bx9 o.op ρ=some (f,ds)) (hf:Enters P f) {O:Nat->Prop} {η:Operand->Value} (hη:∀ x∈o.op.operands,Rd w O (ρ x) (η x)) :
  ∃ vs:List Value,RdL w O ds vs/\(execOp η o).run P w = .ok (.enter f vs.toArray) w:=by
 obtain⟨dst,op,ty,pos,aft,g⟩:=o;simp only at h hη
 cases op<;>simp only [bx9] at h<;>try cases h
 rename_i c;obtain⟨callee,args,at_⟩:=c
 cases callee<;>simp only at h<;>try cases h
 rename_i x;have hx:=hη x (by simp [Op.operands,Call.operands]);have ha:RdL w O (args.toList.map ρ) (args.toList.map η):=aY0 _ fun y hy=>hη y (by simp [Op.operands,Call.operands];exact Or.inr (by simpa using hy));split at h
 ·rename_i f' first cap e
  rw [e] at hx;have hv:=hx.val rfl
  cases hem:first.toList.isEmpty with
  | false=>rw [hem] at h;cases h
  | true=>
   rw [hem] at h
   cases h
   have h0:first = #[]:=by simpa using hem
   subst h0;refine⟨args.toList.map η++cap.toList,ha.append (RdL.vals _),?_⟩;have:=hf (args.map η++cap) w;simp only [execOp,resolve,hv,Deferred.ofValue,Sem.run_bind,Sem.run_pure,Result.andThen,invoke];rw [show (List.map η args.toList++cap.toList).toArray=Array.map η args++cap by apply wJ;simp]
   simpa using this
 ·rename_i f' cs e
  cases h
  rw [e] at hx;generalize hv:η x=u at hx;generalize hq:D.clo f cs=q at hx
  cases hx<;>cases hq
  rename_i vs hl hr;refine⟨args.toList.map η++vs,ha.append ⟨hl,hr⟩,?_⟩;have:=hf (args.map η++vs.toArray) w;simp only [execOp,resolve,hv,Deferred.ofValue,Sem.run_bind,Sem.run_pure,Result.andThen,invoke];rw [show (List.map η args.toList++vs).toArray=Array.map η args++vs.toArray by apply wJ;simp]
  simpa using this
 ·cases h
theorem ab1 (s t:aa1):aa6 (s++t)=aa6 s++aa6 t:=by simp [aa6]
theorem aA9 {s:aa1} {b:Nat} {k:Blk} (h:(b,k)∈s):b∈aa6 s:=xM.2 ⟨_,h,rfl⟩
theorem pA4 {w w':World} {O O':Nat->Prop} (hz:w.heap.size<=w'.heap.size) (hO:∀ b,b<w.heap.size->¬ O b->¬ O' b)
  (hs:∀ b,b<w.heap.size->¬ O b->w'.heap[b]?=w.heap[b]?) {k:Blk} {o:Obj} (h:k.ok w O o):k.ok w' O' o:=by
 cases k with
 | cells t cs=>obtain⟨vs,h1,h2⟩:=h;exact⟨vs,h1,h2.keep hz hO hs⟩
 | obj ok=>exact h
 | mp P k G=>obtain⟨es,c,n,F,h1,h2,h3⟩:=h;exact⟨es,c,n,F,h1,h2,fun key=>(h3 key).imp id fun ⟨v,d,q1,q2,q3⟩=>⟨v,d,q1,q2,q3.keep hz hO hs⟩⟩
theorem av8 (s t:aa1) (b:Nat):Own (s++t) X b↔Own s (fun b=>X b\/b∈aa6 t) b:=by
 simp only [Own,ab1,zO];constructor
 ·rintro (h|h|h)
  ·exact .inl (.inl h)
  ·exact .inr h
  ·exact .inl (.inr h)
 ·rintro ((h|h)|h)
  ·exact .inl h
  ·exact .inr (.inr h)
  ·exact .inr (.inl h)
def wR:=@List.nodup_append
theorem StOK.left {s t:aa1} (h:StOK w X (s++t)):StOK w (fun b=>X b\/b∈aa6 t) s:=by
 have hnd:=h.nodup;rw [ab1,wR] at hnd;refine⟨hnd.1,fun b k hm=>?_,fun b hb=>?_,h.gok.mono (fun b hb=>(av8 s t b).2 hb)⟩
 ·obtain⟨h1,o,h2,h3⟩:=h.at_ b k (xK _ hm);refine⟨?_,o,h2,pA4 (zT _) (fun b _ hb=>?_) (fun _ _ _=>rfl) h3⟩
  ·rintro (hx|hx)
   ·exact h1 hx
   ·exact hnd.2.2 b (aA9 hm) b hx rfl
  ·rw [av8] at hb;exact hb
 ·rcases hb with hb|hb
  ·exact h.xlt b hb
  ·exact h.lt (by rw [ab1];exact yW _ hb)
theorem stays {s s' t:aa1} {w':World} (h:StOK w X (s++t)) (h':StOK w' (fun b=>X b\/b∈aa6 t) s') (hm:Mv w s w' s') :
  StOK w' X (s'++t)/\Mv w (s++t) w' (s'++t)/\(∀ b,b<w.heap.size->¬ Own (s++t) X b->¬ Own (s'++t) X b)/\(∀ b,b<w.heap.size->¬ Own (s++t) X b->w'.heap[b]?=w.heap[b]?):=by
 have hnd:=h.nodup;rw [ab1,wR] at hnd;have hO:∀ b,b<w.heap.size->¬ Own (s++t) X b->¬ Own (s'++t) X b:=by
  intro b hb hn ho;simp only [Own,ab1,zO,not_or] at hn;rcases ho with h1|h1
  ·exact hn.1 h1
  ·rw [ab1,zO] at h1;rcases h1 with h1|h1
   ·rcases hm.new b h1 with h2|h2
    ·exact hn.2.1 h2
    ·omega
   ·exact hn.2.2 h1
 have hS:∀ b,b<w.heap.size->¬ Own (s++t) X b->w'.heap[b]?=w.heap[b]?:=by
  intro b hb hn;simp only [Own,ab1,zO,not_or] at hn;exact hm.keep.block b hb hn.2.1
 refine⟨⟨?_,?_,fun b hb=>yI (h.xlt b hb) hm.keep.size,h'.gok.mono (fun b hb=>(av8 s' t b).1 hb)⟩,⟨hm.keep.mono (fun b _ hb=>by rw [ab1];exact xK _ hb),fun b hb=>?_⟩,hO,hS⟩
 ·rw [ab1,wR];refine⟨h'.nodup,hnd.2.1,fun b h1 c h2 e=>?_⟩;subst e;obtain⟨⟨b',k⟩,g1,rfl⟩:=xM.1 h1;exact (h'.at_ b' k g1).1 (.inr h2)
 ·intro b k hbk;rcases zO.1 hbk with g|g
  ·obtain⟨h1,o,h2,h3⟩:=h'.at_ b k g;refine⟨fun hx=>h1 (.inl hx),o,h2,pA4 (zT _) (fun b _ hb=>?_) (fun _ _ _=>rfl) h3⟩;rw [av8];exact hb
  ·obtain⟨h1,o,h2,h3⟩:=h.at_ b k (yW _ g);have hlt:=(zX.1 h2).1;refine⟨h1,o,(hm.keep.block b hlt (fun hs=>hnd.2.2 b hs b (aA9 g) rfl)).trans h2,pA4 hm.keep.size hO hS h3⟩
 ·rw [ab1,zO] at hb;rcases hb with hb|hb
  ·rcases hm.new b hb with h1|h1
   ·exact .inl (by rw [ab1];exact xK _ h1)
   ·exact .inr h1
  ·exact .inl (by rw [ab1];exact yW _ hb)
theorem bC5 {s t:aa1} {d:D} {u:Value} (h:Rd w (Own (s++t) X) d u):Rd w (Own s (fun b=>X b\/b∈aa6 t)) d u:=
 h.keep (zT _) (fun b _ hb=>by rw [av8] at hb;exact hb) (fun _ _ _=>rfl)
theorem cc0 {s t:aa1} {d:D} {u:Value} (h:Rd w (Own s (fun b=>X b\/b∈aa6 t)) d u):Rd w (Own (s++t) X) d u:=
 h.keep (zT _) (fun b _ hb=>by rw [av8];exact hb) (fun _ _ _=>rfl)
def ResOK (P:Program) (fn:Func) (a:List D) (σ:aa1) (d:D):Prop:=
 ∀ (w:World) (X:Nat->Prop) (t:Array Value),FR w (Own σ X) a t->StOK w X σ->∃ u,(results fn t).run P w = .ok u w/\Rd w (Own σ X) d u
def retQ (P:Program) (fn:Func) (R:D->aa1->Prop):Pst
 | .ret,a,σ=>∃ d,ResOK P fn a σ d/\R d σ
 | .normal,a,σ=>∃ d,ResOK P fn a σ d/\R d σ
 | _,_,_=>False
theorem bM0 {fn:Func} (h:fn.results = #[]):ResOK P fn a σ (.v (.tuple #[])):=fun w X t _ _=>⟨_,results_none h t P w,.v _⟩
theorem al7 {O:Nat->Prop} {t:Array Value} (h:FR w O a t) (i:Nat):Rd w O (a.getD i (.v undef)) (t.getD i undef):=(FR.eval (fr:=⟨t,[]⟩) h (.tmp i))
theorem cb5 {fn:Func} {i:Tmp} (h:fn.results = #[.tmp i]):ResOK P fn a σ (a.getD i (.v undef)):=fun w X t hf _=>⟨_,results_tmp h t P w,al7 hf i⟩
theorem bL9 {fn:Func} {i j:Tmp} (h:fn.results = #[.tmp i,.tmp j]):ResOK P fn a σ (.tup [a.getD i (.v undef),a.getD j (.v undef)]):=fun w X t hf _=>by
 refine⟨_,results_tmp2 h t P w,?_⟩;have:=RdL.cons (al7 hf i) (RdL.cons (al7 hf j) RdL.nil);exact .tup _ _ this.len this.at_
def vV:=@Array.getElem?_append_left
def wF:=@List.getElem?_replicate
theorem bP9 {O:Nat->Prop} {args:List D} {vs:List Value} (h:RdL w O args vs) (m:Nat):FR w O (args++List.replicate (m-args.length) (.v undef)) (vs.toArray++Array.replicate (m-vs.toArray.size) undef):=by
 refine⟨by simp [h.len],fun i d hd=>?_⟩;by_cases hi:i<args.length
 ·rw [yP hi] at hd;obtain⟨u,h1,h2⟩:=h.get hd;refine⟨u,?_,h2⟩;have:i<vs.length:=by rw [h.len];exact hi
  rw [vV (by simpa using this)]
  simpa using h1
 ·rw [yK (by omega),wF] at hd;split at hd
  ·rename_i hlt
   cases hd
   refine⟨undef,?_,.v _⟩;rw [Array.getElem?_append_right (by simp [h.len];omega)];have hl2:i-vs.toArray.size<m-vs.toArray.size:=by simp [h.len];exact hlt
   rw [Array.getElem?_replicate,if_pos hl2]
  ·cases hd
theorem Rd.of_cells {w w':World} {O:Nat->Prop} (hz:w.heap.size<=w'.heap.size) (hc:∀ a v,w.cell? a=some v->w'.cell? a=some v) {d:D} {x:Value} (h:Rd w O d x):Rd w' O d x:=by
 induction h with
 | v x=>exact .v x
 | any x=>exact .any x
 | sl k xs a cap vs hcap hk hcl hr ih=>
  refine .sl k xs a cap vs hcap hk (fun i x hx=>?_) ih;obtain⟨b,off,ha,hb,hlt,hcell⟩:=hcl i x hx;exact⟨b,off,ha,hb,yI hlt hz,fun j hj=>hc _ _ (hcell j hj)⟩
 | ro cs b off vs hb hlt hcl hr ih=>exact .ro cs b off vs hb (yI hlt hz) (fun j hj=>hc _ _ (hcl j hj)) ih
 | agg cs vs hl hr ih=>exact .agg cs vs hl ih
 | tup cs vs hl hr ih=>exact .tup cs vs hl ih
 | clo f cs vs hl hr ih=>exact .clo f cs vs hl ih
 | gl g q h1 hb hcl=>exact .gl g q h1 (yI hb hz) (hc _ _ hcl)
 | ifc t d x h ih=>exact .ifc t d x ih
theorem RdL.of_cells {w w':World} {O:Nat->Prop} (hz:w.heap.size<=w'.heap.size) (hc:∀ a v,w.cell? a=some v->w'.cell? a=some v) {ds:List D} {xs:List Value} (h:RdL w O ds xs):RdL w' O ds xs:=
 ⟨h.len,fun j d u h1 h2=>(h.at_ j d u h1 h2).of_cells hz hc⟩
theorem aH0 {D:Nat} {o:Obj} (hD:w.heap[D]?=some o) (ho:o.isCells=false) {o':Obj} (a:Addr) (v:Value) (h:w.cell? a=some v):(w.putObj D o').cell? a=some v:=by
 refine (World.cell?_of_block (w:=w) (World.putObj_heap_other (fun e=>?_))).trans h;have hlt:=World.block_lt_of_cell? w a h;have hb:w.heap[a.block]?=some o:=by rw [e];exact hD
 simp only [World.cell?,hb] at h
 cases o<;>simp [Obj.isCells] at ho h
theorem an3 (D:Nat) (o:Obj):(w.putObj D o).heap.size=w.heap.size:=by simp [World.putObj]
theorem StOK.turn (h:StOK w X σ) {D:Nat} {o o':Obj} (h5:8<=D) (hO:¬ Own σ X D) (hD:w.heap[D]?=some o) (ho:o.isCells=false) (hm:∀ es c,o ≠ .map es c):StOK (w.putObj D o') X σ:=by
 have hz:w.heap.size<=(w.putObj D o').heap.size:=Nat.le_of_eq (an3 _ _).symm;have hc:=aH0 (w:=w) hD ho (o':=o');have hoth:∀ b,b≠D->(w.putObj D o').heap[b]?=w.heap[b]?:=fun b hb=>World.putObj_heap_other hb;refine⟨h.nodup,fun b k hm=>?_,fun b hb=>yI (h.xlt b hb) hz,?_⟩
 ·obtain⟨h1,o,h2,h3⟩:=h.at_ b k hm;refine⟨h1,o,(hoth b (fun e=>by subst e;exact hO (.inr (aA9 hm)))).trans h2,?_⟩
  cases k with
  | cells t cs=>obtain⟨vs,g1,g2⟩:=h3;exact⟨vs,g1,g2.of_cells hz hc⟩
  | obj ok=>exact h3
  | mp P k G=>obtain⟨es,c,n,F,g1,g2,g3⟩:=h3;exact⟨es,c,n,F,g1,g2,fun key=>(g3 key).imp id fun ⟨v,d,q1,q2,q3⟩=>⟨v,d,q1,q2,q3.of_cells hz hc⟩⟩
 ·refine⟨fun b hb=>yI (h.gok.lt b hb) hz,xH h.gok.sz hz,h.gok.no,?_,?_,?_⟩
  ·exact bn1 (fun b hb=>hoth b (by omega)) h.gok.pow
  ·exact fun i s hi=>hc _ _ (h.gok.words i s hi)
  ·obtain⟨q,h1,h2,h3⟩:=h.gok.checks;refine⟨q,hc _ _ h1,h2,h3.same (hoth q (fun e=>?_))⟩;obtain⟨es,ck,hm',_⟩:=h3;subst e;rw [hD] at hm'
   cases hm'
   exact hm _ _ rfl
theorem FR.of_cells {w w':World} {O:Nat->Prop} (hz:w.heap.size<=w'.heap.size) (hc:∀ a v,w.cell? a=some v->w'.cell? a=some v) {t:Array Value} (h:FR w O a t):FR w' O a t:=
 ⟨h.size,fun i d hd=>let ⟨u,h1,h2⟩:=h.at_ i d hd;⟨u,h1,h2.of_cells hz hc⟩⟩
def wZ:=@List.nodup_cons
theorem aJ4 {fn:Func} {t:Array Value} {w0:World} {s':aa1} {d:D} {F:Fence} {m:Nat} {R:Ending->World->Prop} (h5:8<=w0.heap.size) (hres:ResOK P fn a s' d)
  (hR:∀ w' u,Rd w' (Own s' X) d u->StOK w' X s'->Mv w0 σ w' s'->R (.returned u) w') :
  ∀ (bs:List Nat) (w':World),FR w' (Own s' X) a t->StOK w' X s'->Mv w0 σ w' s'->bs.Nodup->(∀ b∈bs,w0.heap.size<=b/\¬ Own s' X b/\w'.heap[b]?=some (.deferred (some [])))->LeavesInM F m P fn t R (bs.map mrk) .returning w'
 | [],w',h1,h2,h3,_,_=>by
  obtain⟨u,g3,g4⟩:=hres w' X t h1 h2;exact⟨u,g3,hR w' u g4 h2 h3⟩
 | b::bs,w',h1,h2,h3,hnd,hbs=>by
  obtain⟨k1,k2,k3⟩:=hbs b (by simp);rw [wZ] at hnd;have hz:w'.heap.size<=(w'.putObj b (.deferred none)).heap.size:=Nat.le_of_eq (an3 _ _).symm;refine⟨(fun h=>by cases h),.inl ⟨b,_,rfl,run_takeDeferred k3,aJ4 h5 hres hR bs _ (h1.of_cells hz (aH0 k3 rfl)) (h2.turn (by omega) k2 k3 rfl (fun _ _ h=>by cases h)) ⟨⟨h3.keep.os,h3.keep.tape,h3.keep.output,xH h3.keep.size hz,fun i hi hs=>?_⟩,h3.new⟩ hnd.2 (fun c hc=>?_)⟩⟩
  ·exact (World.putObj_heap_other (fun e=>by omega)).trans (h3.keep.block i hi hs)
  ·obtain⟨q1,q2,q3⟩:=hbs c (by simp [hc]);exact⟨q1,q2,(World.putObj_heap_other (fun e=>by subst e;exact hnd.1 hc)).trans q3⟩
theorem bh8 {f:FuncId} {fn:Func} {c:Code} {args:List D} {R:D->aa1->Prop} (hf:P.funcs[f]?=some fn) (hname:(fn.name == "runtime.NumGoroutine")=false) (hb:fn.body=some c)
  (h:∀ B,AWP P none 9 B c (retQ P fn R) (args++List.replicate (fn.ntmps-args.length) (.v undef)) σ):ACall P f args σ R:=by
 refine⟨enters_of hf hname hb,fun w X vs hv hs=>?_⟩;refine callsIn_wide (n:=9) |>.1 (callsIn_of_wp_marks hf hb trivial ?_ rfl);refine wpIn_mono ((h w.heap.size).run w X _ ⟨bP9 hv fn.ntmps,hs,Mks.nil (zT _)⟩) ?_;have fin:∀ {a':List D} {s':aa1} {fr':Act} {w':World} {d:D},ResOK P fn a' s' d->R d s'->St w' X w.heap.size a' s' fr'->Mv w σ w' s' ->
   LeavesInM Fence.wide 9 P fn fr'.tmps (fun e w'=>∃ u d σ',e = .returned u/\R d σ'/\Rd w' (Own σ' X) d u/\StOK w' X σ'/\Mv w σ w' σ') fr'.defers .returning w':=by
  intro a' s' fr' w' d g1 g2 h2 h3;obtain⟨_,bs,e,hnd,hbs⟩:=h2.df;rw [e];exact aJ4 hs.gok.sz g1 (fun w' u k1 k2 k3=>⟨u,d,s',rfl,g2,k1,k2,k3⟩) bs w' h2.fr h2.st h3 hnd hbs
 rintro e fr' w' ⟨a',s',h1,h2,h3⟩
 cases e with
 | ret=>obtain⟨d,g1,g2⟩:=h1;exact fin g1 g2 h2 h3
 | normal=>obtain⟨d,g1,g2⟩:=h1;exact fin g1 g2 h2 h3
 | exit _=>exact h1.elim
 | goto _=>exact h1.elim
 | panic _=>exact h1.elim
 | outgrown=>exact h1.elim
theorem ASome.of_call {f:FuncId} {args:List D} {R:D->Prop} (h:ACall P f args [] (fun d _=>R d)):ASome P f args R:=
 ⟨h.ent,fun w O vs hv ho=>(h.run w O vs ⟨hv.len,fun j d u g1 g2=>(hv.at_ j d u g1 g2).keep (zT _) (fun b _ hb=>by simpa [Own,aa6] using hb) (fun _ _ _=>rfl)⟩
  ⟨by simp [aa6],by simp,ho.lt,ho.mono (fun b hb=>by simpa [Own,aa6] using hb)⟩).mono fun e w' ⟨u,d,s',g1,g2,g3,g4,g5⟩=>⟨u,d,g1,g2,g3.keep (zT _) (fun b _ hb hO=>hb (.inl hO)) (fun _ _ _=>rfl),g5.keep.mono (fun b _ hb=>by simp [aa6] at hb)⟩⟩
theorem APure.of_call {f:FuncId} {args:List D} {d:D} (h:ACall P f args [] (fun d' _=>d'=d)):APure P f args d:=
 ⟨h.ent,fun w O vs hv ho=>((ASome.of_call h).run w O vs hv ho).mono fun e w' ⟨u,d',g1,g2,g3,g4⟩=>⟨u,g1,by rw [← g2];exact g3,g4⟩⟩
inductive Wk:List D->List D->Prop
 | nil:Wk [] []
 | same {d:D} {a b:List D} (h:Wk a b):Wk (d::a) (d::b)
 | any {d:D} {a b:List D} (h:Wk a b):Wk (d::a) (.any::b)
theorem Wk.get {a b:List D} (h:Wk a b):a.length=b.length/\∀ (i:Nat) d,b[i]?=some d->d = .any\/a[i]?=some d:=by
 induction h with
 | nil=>exact⟨rfl,fun i d h=>by simp at h⟩
 | same h ih=>exact⟨by simp [ih.1],fun i d hd=>by cases i with|zero=>simp at hd;simp [hd]|succ i=>simp at hd;simpa using ih.2 i d hd⟩
 | any h ih=>exact⟨by simp [ih.1],fun i d hd=>by cases i with|zero=>simp at hd;simp [hd]|succ i=>simp at hd;simpa using ih.2 i d hd⟩
end
end
section
open Go Go.RowKit Go.Shelf
section
variable {P:Program} {r:Option Nat} {n:Nat} {df:Nat} {ops:Array Oper} {Q:Pst} {a:List D} {σ:aa1} {w:World} {X:Nat->Prop} {ρ:Operand->D}
def zU:=@List.mem_cons
theorem StOK.new (h:StOK w X σ) (o:Obj) (k:Blk) (hk:k.ok w (Own σ X) o) :
  StOK (w.alloc o) X ((w.heap.size,k)::σ)/\Mv w σ (w.alloc o) ((w.heap.size,k)::σ)/\(∀ b,b<w.heap.size->¬ Own σ X b->¬ Own ((w.heap.size,k)::σ) X b):=by
 have hO:∀ b,b<w.heap.size->¬ Own σ X b->¬ Own ((w.heap.size,k)::σ) X b:=by
  intro b hb hn ho;rcases ho with h1|h1
  ·exact hn (.inl h1)
  ·simp only [aa6,List.map_cons,zU] at h1;rcases h1 with h1|h1
   ·omega
   ·exact hn (.inr h1)
 have hx:Ex w (w.alloc o):=(Ex.refl w).alloc;have hgk:GOK (w.alloc o) (Own ((w.heap.size,k)::σ) X):=h.gok.keep hx.size hO (fun b hb _=>hx.block b hb) (fun b hb=>by
  rcases hb with hb|hb
  ·exact yI (h.xlt b hb) hx.size
  ·simp only [aa6,List.map_cons,zU] at hb;rcases hb with rfl|hb
   ·simp
   ·exact yI (h.lt hb) hx.size)
 refine⟨⟨?_,?_,fun b hb=>yI (h.xlt b hb) hx.size,hgk⟩,⟨hx.keep,fun b hb=>?_⟩,hO⟩
 ·simp only [aa6,List.map_cons,wZ];exact⟨fun hm=>by have:=h.lt hm;omega,h.nodup⟩
 ·intro b k' hm;rcases zU.1 hm with e|hm
  ·cases e
   exact⟨fun hX=>by have:=h.xlt _ hX;omega,o,by unfold World.alloc;exact Array.getElem?_push_size,pA4 hx.size hO (fun b hb _=>hx.block b hb) hk⟩
  ·obtain⟨h1,o',h2,h3⟩:=h.at_ b k' hm;exact⟨h1,o',(hx.block b (zX.1 h2).1).trans h2,pA4 hx.size hO (fun b hb _=>hx.block b hb) h3⟩
 ·simp only [aa6,List.map_cons,zU] at hb;rcases hb with rfl|hb
  ·exact .inr (zT _)
  ·exact .inl hb
theorem aL5 {i b:Nat} {k k':Blk} (h:σ[i]?=some (b,k)):aa6 (σ.set i (b,k'))=aa6 σ:=by
 unfold aa6;apply xY;intro j;rw [zP,zP,xP];split
 ·rename_i e;subst e;split
  ·rw [h];rfl
  ·rename_i hl;have:=(zE.1 h).1;omega
 ·rfl
theorem StOK.upd (h:StOK w X σ) {i b:Nat} {k k':Blk} (hi:σ[i]?=some (b,k)) {w':World} {o':Obj} (hw:Keep (fun x=>x=b) w w') (ho:w'.heap[b]?=some o') (hk:k'.ok w (Own σ X) o') :
  StOK w' X (σ.set i (b,k'))/\Mv w σ w' (σ.set i (b,k'))/\(∀ x,x<w.heap.size->¬ Own σ X x->¬ Own (σ.set i (b,k')) X x)/\(∀ x,x<w.heap.size->¬ Own σ X x->w'.heap[x]?=w.heap[x]?):=by
 have hbm:b∈aa6 σ:=aA9 (zG hi);have hO:∀ x,x<w.heap.size->¬ Own σ X x->¬ Own (σ.set i (b,k')) X x:=by
  intro x _ hn ho;rcases ho with h1|h1
  ·exact hn (.inl h1)
  ·rw [aL5 hi] at h1;exact hn (.inr h1)
 have hS:∀ x,x<w.heap.size->¬ Own σ X x->w'.heap[x]?=w.heap[x]?:=fun x hx hn=>hw.block x hx (fun e=>hn (.inr (e ▸ hbm)));have hgk:GOK w' (Own (σ.set i (b,k')) X):=h.gok.keep hw.size hO hS (fun x hx=>yI (h.own_lt (by
  rcases hx with hx|hx
  ·exact .inl hx
  ·rw [aL5 hi] at hx;exact .inr hx)) hw.size)
 refine⟨⟨by rw [aL5 hi];exact h.nodup,?_,fun x hx=>yI (h.xlt x hx) hw.size,hgk⟩,⟨hw.mono (fun x _ e=>by subst e;exact hbm),fun x hx=>.inl (by rw [aL5 hi] at hx;exact hx)⟩,hO,hS⟩;intro x kx hm;obtain⟨j,hj⟩:=yO hm;rw [xP] at hj;split at hj
 ·split at hj
  ·cases hj
   exact⟨(h.at_ _ k (zG hi)).1,o',ho,pA4 hw.size hO hS hk⟩
  ·cases hj
 ·rename_i hne;obtain⟨h1,o,h2,h3⟩:=h.at_ x kx (zG hj);have hxb:x≠b:=by
   intro e;subst e;have hnd:=h.nodup;have g1:(aa6 σ)[i]?=some x:=by simp [aa6,zP,hi]
   have g2:(aa6 σ)[j]?=some x:=by simp [aa6,zP,hj]
   obtain⟨l1,e1⟩:=zE.1 g1;obtain⟨l2,e2⟩:=zE.1 g2;have hp:=wS.1 hnd;rcases Nat.lt_or_gt_of_ne hne with hlt|hlt
   ·exact hp i j l1 l2 hlt (e1.trans e2.symm)
   ·exact hp j i l2 l1 hlt (e2.trans e1.symm)
  exact⟨h1,o,(hw.block x (zX.1 h2).1 hxb).trans h2,pA4 hw.size hO hS h3⟩
def be2:D->Bool
 | .any=>false
 | _=>true
theorem be1 {d:D} (h:be2 d=true):d ≠ .any:=by rintro rfl;cases h
def oneD:D->Bool
 | .v x=>x.oneCell'
 | .sl _ _=>true
 | .ro _=>true
 | .clo _ _=>true
 | _=>false
theorem cd1 {O:Nat->Prop} {d:D} {u:Value} (h:Rd w O d u) (hd:oneD d=true):u.oneCell'=true:=by
 cases h<;>first|exact hd|rfl|cases hd
def yA:=@List.all_eq_true
theorem bj4 {O:Nat->Prop} {cs:List D} {vs:List Value} (h:RdL w O cs vs) (hc:cs.all oneD=true):∀ v∈vs,v.oneCell'=true:=by
 intro v hv;obtain⟨j,hj⟩:=yO hv;have hlt:j<cs.length:=by rw [← h.len];exact (zE.1 hj).1
 exact cd1 (h.at_ j cs[j] v (zD hlt) hj) (yA.1 hc _ (wE hlt))
theorem aw5 {t:TypeId} {i:TI} (h:tiOf P t=some i) (hz:i.zero.length=i.size) (hp:0<i.size) (w:World):∃ z,(zeroValue t).run P w = .ok z w/\z.cells.toList=i.zero.map zv:=by
 obtain⟨inf,u,h1,h2,_,h4,_,_,_,h5,_⟩:=as9 h
 cases hzz:inf.zero with
 | none=>rw [hzz] at h5;simp at h5;rw [h5] at hz;simp at hz;omega
 | some z=>
  refine⟨z,by simp [zeroValue,typeInfo,program,Sem.run,h1,hzz],?_⟩;rw [hzz] at h5
  cases hm:z.cells.toList.mapM zvOf with
  | none=>simp [hm] at h5;rw [h5] at hz;simp at hz;omega
  | some zs=>
   simp [hm] at h5;rw [h5];have:∀ (l:List Value) (r:List ZV),l.mapM zvOf=some r->l=r.map zv:=by
    intro l
    induction l with
    | nil=>intro r hr;simp at hr;subst hr;rfl
    | cons x l ih=>
     intro r hr;simp only [List.mapM_cons,Option.bind_eq_bind,Option.bind_eq_some_iff,Option.pure_def,xB] at hr;obtain⟨y,hy,ys,hys,rfl⟩:=hr;rw [List.map_cons,← bY6 hy,← ih ys hys]
   exact this _ _ hm
def vA:=@List.map_map
theorem by4 {T:TypeId->Option TI} (hT:∀ t i,T t=some i->tiOf P t=some i) {o:Oper} {rest:List Oper} {t:TypeId} {i:TI} (hw:ap1 ops a o=some true) (ho:o.op = .alloc t) (ht:T t=some i) (hz:i.zero.length=i.size) (hp:0<i.size)
  (k:∀ b,AOps P r n df ops Q rest (putD a o.dst (.v (.pointer (some ⟨b,0,none⟩)))) ((b,.cells t (i.zero.map fun z=>.v (zv z)))::σ)):AOps P r n df ops Q (o::rest) a σ:=by
 refine ah3 hw (by rw [ho];rfl) fun w X fr hs=>?_;obtain⟨z,h1,h2⟩:=aw5 (hT t i ht) hz hp w;have e:(execOp fr.eval o).run P w = .ok (.value (.pointer (some ⟨w.heap.size,0,none⟩))) (w.alloc (.cells z.cells t)):=by
  simp only [execOp,ho,Sem.run_bind,Instr.alloc,h1,Result.andThen,newVar,newRow,newObj]
  rfl
 rw [e];obtain⟨g1,g2,g3⟩:=hs.st.new (.cells z.cells t) (.cells t (i.zero.map fun z=>.v (zv z))) ⟨z.cells.toList,by simp,by rw [h2];have:=RdL.vals (w:=w) (O:=Own σ X) (i.zero.map zv);rw [vA] at this;exact this⟩;exact⟨_,_,g2,(⟨hs.fr.keep (by simp) g3 (fun b hb _=>((Ex.refl w).alloc).block b hb),g1,hs.df.keep (by simp) g3 (fun b hb _=>((Ex.refl w).alloc).block b hb)⟩:St (w.alloc (.cells z.cells t)) X df a _ fr).put (.v _) o.dst,k _⟩
def spl (cs:List D) (off:Nat) (new:List D):List D:=cs.take off++new++cs.drop (off+new.length)
theorem RdL.take {O:Nat->Prop} {cs:List D} {vs:List Value} (h:RdL w O cs vs) (m:Nat):RdL w O (cs.take m) (vs.take m):=
 ⟨by simp [h.len],fun j d u h1 h2=>by
  rw [yX] at h1 h2;split at h1
  ·rename_i hj;rw [if_pos hj] at h2;exact h.at_ j d u h1 h2
  ·cases h1⟩
theorem RdL.drop {O:Nat->Prop} {cs:List D} {vs:List Value} (h:RdL w O cs vs) (m:Nat):RdL w O (cs.drop m) (vs.drop m):=
 ⟨by simp [h.len],fun j d u h1 h2=>by
  rw [xR] at h1 h2;exact h.at_ _ d u h1 h2⟩
theorem aQ2 {b:Nat} {cur cur':Array Value} {t:TypeId} {f:Nat × Nat} (h:w.heap[b]?=some (.cells cur t f)):(w.setRow b cur').heap[b]?=some (.cells cur' t f)/\Keep (fun x=>x=b) w (w.setRow b cur'):=by
 refine⟨setRow_heap w b cur cur' t f h,rfl,rfl,rfl,by simp [World.setRow],fun x hx hn=>?_⟩;simp only [World.setRow,Array.getElem?_modify];rw [if_neg (fun e=>hn e.symm)]
theorem by3 {T:TypeId->Option TI} (hT:∀ t i,T t=some i->tiOf P t=some i) {o:Oper} {rest:List Oper} {t:TypeId} {p x:Operand} {i j b off:Nat} {tb:TypeId} {cs:List D} {d:D} {ti:TI} (hw:ap1 ops a o=some true) (ho:o.op = .store t p x) (ht:T t=some ti)
  (hp:evD a p = .v (.pointer (some ⟨b,off,none⟩))) (hx:evD a x=d) (hb:σ[j]?=some (b,.cells tb cs)) (hne:be2 d=true) (hi:(ag3 d).length=i) (hs:ti.size=i) (hf:off+i<=cs.length) (h1:(ag3 d).all oneD=true)
  (k:AOps P r n df ops Q rest (putD a o.dst (.v undef)) (σ.set j (b,.cells tb (spl cs off (ag3 d))))):AOps P r n df ops Q (o::rest) a σ:=by
 refine ah3 hw (by rw [ho];rfl) fun w X fr hst=>?_;have hv:=hst.fr.eval x;rw [hx] at hv;have hpv:=(hst.fr.eval p).val hp;have hc:=hv.cells (be1 hne);obtain⟨_,ob,hob,vs,rfl,hvs⟩:=hst.st.at_ b _ (zG hb);have hsz:=(aT1 (hT t ti ht) w).2;have hlen:(fr.eval x).cells.toList.length=i:=by rw [hc.len,hi]
 have hrun:=run_storeCells_at P b off tb (fr.eval x).cells.toList 0 vs.toArray w hob (by rw [hlen];simp [hvs.len];omega) (bj4 hc h1);have e:(execOp fr.eval o).run P w = .ok .skip (w.setRow b (vs.take off++(fr.eval x).cells.toList++vs.drop (off+(fr.eval x).cells.toList.length)).toArray):=by
  have hq:¬ (fr.eval x).cells.size≠ti.size:=by
   have:(fr.eval x).cells.size=i:=by simpa using hlen
   rw [this,hs];simp
  simp only [execOp,ho,Sem.run_bind,Instr.storeAt,hpv,Instr.sureAddr,Sem.run_pure,Result.andThen,storeVar,hsz,if_neg hq,hrun];simp
 rw [e];obtain⟨q1,q2⟩:=aQ2 (cur':=(vs.take off++(fr.eval x).cells.toList++vs.drop (off+(fr.eval x).cells.toList.length)).toArray) hob;have hnew:RdL w (Own σ X) (spl cs off (ag3 d)) (vs.take off++(fr.eval x).cells.toList++vs.drop (off+(fr.eval x).cells.toList.length)):=by
  unfold spl;rw [hc.len];exact ((hvs.take off).append hc).append (hvs.drop _)
 obtain⟨g1,g2,g3,g4⟩:=hst.st.upd hb (k':=.cells tb (spl cs off (ag3 d))) q2 q1 ⟨_,rfl,hnew⟩;exact⟨_,g2,(⟨hst.fr.keep q2.size g3 g4,g1,hst.df.keep q2.size g3 g4⟩:St _ X df a _ fr).put (.v _) o.dst,k⟩
theorem cj4 {T:TypeId->Option TI} (hT:∀ t i,T t=some i->tiOf P t=some i) {o:Oper} {t:TypeId} {p:Operand} {j b off:Nat} {tb:TypeId} {cs:List D} {ti:TI} (ho:o.op = .load t p) (ht:T t=some ti)
  (hp:ρ p = .v (.pointer (some ⟨b,off,none⟩))) (hb:σ[j]?=some (b,.cells tb cs)) (hf:off+ti.size<=cs.length) (h1:ti.agg=true\/ti.size=1):Yd P o ρ σ (mkD ti.agg ((cs.drop off).take ti.size)):=by
 intro w X η hη hst;obtain⟨dst,op,ty,pos,aft,g⟩:=o;simp only at ho;subst ho;have hpv:=(hη p (by simp [Op.operands])).val hp;obtain⟨_,ob,hob,vs,rfl,hvs⟩:=hst.at_ b _ (zG hb);obtain⟨g1,g2⟩:=aT1 (hT t ti ht) w;have hcell:∀ m,m<cs.length->w.cell? ⟨b,m,none⟩=some (vs.getD m undef):=by
  intro m hm;have:m<vs.length:=by rw [hvs.len];exact hm
  simp [World.cell?,hob,this]
 have hrd:=cb9 (w:=w) (O:=Own σ X) (cs:=cs.drop off) (f:=fun m=>vs.getD (off+m) undef) (n:=ti.size) ti.agg (by simp;omega) h1 (fun m d hd=>by
  rw [xR] at hd;obtain⟨u,k1,k2⟩:=hvs.get hd
  simpa [List.getD_eq_getElem?_getD,k1] using k2)
 cases hag:ti.agg with
 | true=>
  rw [hag] at g1 hrd;refine ag4 (s:=Instr.loadAt t (η p)) ?_ (Ex.refl w) hrd;rw [hpv];exact az0 g1 g2 (fun m hm=>hcell (off+m) (by omega))
 | false=>
  rw [hag] at g1 hrd;have hs1:ti.size=1:=by rcases h1 with h|h<;>simp_all
  refine ag4 (s:=Instr.loadAt t (η p)) (u:=vs.getD (off+0) undef) ?_ (Ex.refl w) hrd;rw [hpv];exact au1 g1 (hcell off (by omega))
end
end
section
open Go Go.RowKit Go.Shelf
section
variable {P:Program} {r:Option Nat} {n:Nat} {df:Nat} {ops:Array Oper} {Q:Pst} {a:List D} {σ:aa1} {w:World} {X:Nat->Prop} {ρ:Operand->D}
theorem aM2 {c:Code} {b:List D} {τ:aa1} (h:∀ w X fr,St w X df a σ fr->St w X df b τ fr) (hk:∀ x,x∈aa6 τ->x∈aa6 σ) (k:AWP P r n df c Q b τ):AWP P r n df c Q a σ:=
 ⟨fun w X fr hs=>wpIn_mono (k.run w X fr (h w X fr hs)) fun e fr' w' ⟨a',s',h1,h2,h3⟩=>⟨a',s',h1,h2,⟨h3.keep.mono (fun x _ hx=>hk x hx),fun x hx=>(h3.new x hx).imp (hk x) id⟩⟩⟩
theorem StOK.sub {τ:aa1} (h:StOK w X σ) (hs:τ.Sublist σ):StOK w X τ:=
 ⟨(hs.map Prod.fst).nodup h.nodup,fun b k hm=>by
  obtain⟨h1,o,h2,h3⟩:=h.at_ b k (hs.subset hm);exact⟨h1,o,h2,pA4 (zT _) (fun x _ hn ho=>hn (ho.imp id fun hx=>(hs.map Prod.fst).subset hx)) (fun _ _ _=>rfl) h3⟩,h.xlt,h.gok.mono (fun x ho=>ho.imp id fun hx=>(hs.map Prod.fst).subset hx)⟩
theorem an4 {τ:aa1} (hs:τ.Sublist σ) (x:Nat) (hn:¬ Own σ X x):¬ Own τ X x:=fun ho=>hn (ho.imp id fun hx=>(hs.map Prod.fst).subset hx)
theorem bS0 {c:Code} {τ:aa1} (hs:τ.Sublist σ) (k:AWP P r n df c Q a τ):AWP P r n df c Q a σ:=
 aM2 (fun w X fr h=>⟨h.fr.keep (zT _) (fun x _ hn=>an4 hs x hn) (fun _ _ _=>rfl),h.st.sub hs,h.df.keep (zT _) (fun x _ hn=>an4 hs x hn) (fun _ _ _=>rfl)⟩) (fun x hx=>(hs.map Prod.fst).subset hx) k
def vC:=@Nat.add_mul
theorem aL9 {α:Type} {k:Nat}:∀ {xs:List (List α)} {i:Nat} {x:List α} {j:Nat},(∀ x∈xs,x.length=k)->xs[i]?=some x->j<k->xs.flatten[i*k+j]?=x[j]?
 | [],i,x,j,_,h,_=>by simp at h
 | y::xs,0,x,j,hk,h,hj=>by
  simp at h;subst h;have:=hk y (by simp);rw [List.flatten_cons,Nat.zero_mul,xD,yP (by omega)]
 | y::xs,i+1,x,j,hk,h,hj=>by
  simp at h;have hy:=hk y (by simp);rw [List.flatten_cons,yK (by rw [hy,vC];omega),hy,show (i+1)*k+j-k=i*k+j by rw [vC];omega];exact aL9 (fun z hz=>hk z (by simp [hz])) h hj
def zI:=@List.length_append
theorem ax8 {α:Type} {k:Nat}:∀ {xs:List (List α)},(∀ x∈xs,x.length=k)->xs.flatten.length=xs.length*k
 | [],_=>by simp
 | y::xs,hk=>by
  rw [List.flatten_cons,zI,ax8 (fun z hz=>hk z (by simp [hz])),hk y (by simp),List.length_cons,vC];omega
structure RowIs (e:TypeId) (k:Nat) (xs:List (List D)) (v:Value) (s:aa1):Prop where
 len:∀ x∈xs,x.length=k
 is:((∃ a,v = .slice a 0 0)/\xs=[]/\s=[])\/∃ (b cap:Nat) (junk:List D),v = .slice (some ⟨b,0,none⟩) xs.length cap/\s=[(b,.cells e (xs.flatten++junk))]/\xs.length<=cap/\cap<=maxLen/\xs.length*k+junk.length=cap*k/\∀ d∈junk,d=D.any
theorem RowIs.nil (e:TypeId) (k:Nat):RowIs e k [] (.slice none 0 0) []:=⟨by simp,.inl ⟨⟨none,rfl⟩,rfl,rfl⟩⟩
theorem RowIs.e0 (e:TypeId) (k:Nat) (a:Option Addr):RowIs e k [] (.slice a 0 0) []:=⟨by simp,.inl ⟨⟨a,rfl⟩,rfl,rfl⟩⟩
theorem RowIs.slice {e:TypeId} {k:Nat} {xs:List (List D)} {v:Value} {s:aa1} (h:RowIs e k xs v s):∃ a c,v = .slice a xs.length c:=by
 rcases h.is with ⟨⟨a0,rfl⟩,rfl,_⟩|⟨b,cap,_,rfl,_⟩
 ·exact⟨a0,0,rfl⟩
 ·exact⟨_,_,rfl⟩
def yB:=@List.map_append
def wI:=@List.sublist_append_right
def xZ:=@Nat.mul_le_mul_right
theorem aJ1 {e:TypeId} {k:Nat} {xs:List (List D)} {v:Value} {s τ:aa1} (h:RowIs e k xs v s) (hs:StOK w X (s++τ)):Rd w (Own τ X) (.sl k xs) v:=by
 rcases h.is with ⟨⟨a0,rfl⟩,rfl,_⟩|⟨b,cap,junk,rfl,rfl,hle,_,hj,_⟩
 ·exact .sl k [] a0 0 (fun _ _=>undef) (zT _) (by simp) (fun i x hx=>by simp at hx) (fun i x hx=>by simp at hx)
 ·obtain⟨h1,o,h2,vs,rfl,h3⟩:=hs.at_ b (.cells e (xs.flatten++junk)) (xK _ (by simp));have hnd:=hs.nodup;simp only [aa6,yB,List.map_cons,List.map_nil,List.cons_append,List.nil_append,wZ] at hnd;have hO:¬ Own τ X b:=fun ho=>by
   rcases ho with ho|ho
   ·exact h1 ho
   ·exact hnd.1 ho
  have hfl:=ax8 h.len;have hsub:τ.Sublist ([(b,Blk.cells e (xs.flatten++junk))]++τ):=wI _ _;refine .sl k xs _ cap (fun i j=>vs.getD (i*k+j) undef) hle h.len (fun i x hx=>⟨b,0,rfl,hO,(zX.1 h2).1,fun j hj'=>?_⟩) (fun i x hx j d hd=>?_)
  ·have hi:i<xs.length:=(zE.1 hx).1;have:i*k+j<vs.length:=by
    rw [h3.len,zI,hfl,hj];have:(i+1)*k<=cap*k:=xZ _ (by omega);rw [vC] at this;omega
   simp [World.cell?,h2,this]
  ·have hjk:j<k:=by rw [← h.len x (zG hx)];exact (zE.1 hd).1
   have hg:=aL9 h.len hx hjk;rw [hd] at hg;have hlt:=(zE.1 hg).1;have hg2:(xs.flatten++junk)[i*k+j]?=some d:=by rw [yP hlt];exact hg
   obtain⟨u,k1,k2⟩:=h3.get hg2;simp only [List.getD_eq_getElem?_getD,k1];exact k2.keep (zT _) (fun x _ hn=>an4 hsub x hn) (fun _ _ _=>rfl)
def vM:=@Nat.mod_lt
def xS:=@List.length_pos_iff
theorem aX2 {O:Nat->Prop} {k:Nat} {ys:List (List D)} {u:Value} (h:Rd w O (.sl k ys) u) (hp:0<k):∃ a c news,u = .slice a ys.length c/\RdL w O ys.flatten news/\news.length=ys.length*k/\(ys≠[]->∃ ad:Addr,a=some ad/\∀ (j:Nat) v,news[j]?=some v->w.cell? (ad.add j)=some v):=by
 obtain⟨a,c,vs,rfl,hle,hk,hc,hr⟩:=h.sl_inv;have hfl:=ax8 hk;refine⟨a,c,(List.range (ys.length*k)).map (fun q=>vs (q/k) (q%k)),rfl,⟨by simp [hfl],fun j d v h1 h2=>?_⟩,by simp,fun hne=>?_⟩
 ·have hlt:j<ys.length*k:=by rw [← hfl];exact (zE.1 h1).1
  simp only [zP,xV hlt,Option.map_some,xB] at h2;subst h2;have hdiv:j/k<ys.length:=Nat.div_lt_of_lt_mul (by rw [Nat.mul_comm];exact hlt);have hm:j%k<k:=vM _ hp;have hx:ys[j/k]?=some ys[j/k]:=zD hdiv;have:=aL9 hk hx hm;rw [show j/k*k+j%k=j by rw [Nat.mul_comm];exact Nat.div_add_mod j k,h1] at this;exact hr _ _ hx _ d this.symm
 ·have h0:0<ys.length:=xS.2 hne;obtain⟨b,off,rfl,_⟩:=hc 0 ys[0] (zD h0);refine⟨⟨b,off,none⟩,rfl,fun j v hv=>?_⟩;have hlt:j<ys.length*k:=by simpa using (zE.1 hv).1
  simp only [zP,xV hlt,Option.map_some,xB] at hv;subst hv;have hdiv:j/k<ys.length:=Nat.div_lt_of_lt_mul (by rw [Nat.mul_comm];exact hlt);have hm:j%k<k:=vM _ hp;obtain⟨b',off',e1,_,_,h3⟩:=hc (j/k) _ (zD hdiv)
  cases e1
  have:=h3 (j%k) hm;rw [vQ,show j/k*k+j%k=j by rw [Nat.mul_comm];exact Nat.div_add_mod j k] at this;rw [as5];exact this
def zM:=@congrArg
theorem ca5 {t:TypeId} {i:TI} (h:tiOf P t=some i) (hz:i.zero.length=i.size) (hp:0<i.size):∃ inf z,P.info? t=some inf/\inf.zero=some z/\inf.size=i.size/\z.cells.size=i.size:=by
 obtain⟨inf,u,h1,_,_,h4,_,_,_,_,_⟩:=as9 h;obtain⟨z,g1,g2⟩:=aw5 h hz hp default;refine⟨inf,z,h1,?_,h4.symm,?_⟩
 ·cases hzz:inf.zero with
  | none=>simp [zeroValue,typeInfo,program,Sem.run,h1,hzz,unsupported] at g1
  | some z'=>simp [zeroValue,typeInfo,program,Sem.run,h1,hzz] at g1;rw [g1]
 ·have:=zM List.length g2
  simpa [hz] using this
theorem cb8 {O:Nat->Prop} (vs:List Value):RdL w O (List.replicate vs.length .any) vs:=
 ⟨by simp,fun j d u h1 _=>by
  rw [wF] at h1;split at h1
  ·cases h1;exact .any u
  ·cases h1⟩
theorem bG8 {t ty e:TypeId} {inf:TypeInfo} {z:Value} {a1 ad:Addr} {m c k by_ g cap n:Nat} {news:List Value} {w':World} (hut:P.underlying t=some (.slice e)) (k1:P.info? e=some inf) (k2:inf.zero=some z)
  (hnl:news.length=m*k) (hcell:∀ j u,news[j]?=some u->w.cell? (ad.add j)=some u) (h0:0<m) (hk:inf.size=k) (hby:inf.bytes=by_) (hb:(0+m)*by_<=140737488355328) (hmx:m<=maxLen)
  (g1:(Builtin.append_ #[t,t] ty #[.slice (some a1) 0 0,.slice (some ad) m c]).run P w = .ok (.slice (some ⟨g,0,none⟩) n cap) w'):g=w.heap.size:=by
 subst hk;subst hby;have hr:=run_append_grow (P:=P) w t ty e inf z hut k1 k2 a1 0 0 [] (by simp) (by simp) ad m c news hnl hcell (by omega) (by unfold maxLen at hmx;omega) (growslice_fits (by omega) hb);rw [hr] at g1
 cases g1
 rfl
def zZ:=@List.append_nil
def zR:=@List.length_take
def vH:=@Nat.min_eq_left
def wX:=@List.length_eq_zero_iff
def vW:=@List.flatten_append
def vF:=@List.take_append_drop
theorem by1 {s:aa1} {t ty e:TypeId} {i j:TI} {ag:Bool} {k by_:Nat} {xs ys:List (List D)} {v u:Value} (ht:tiOf P t=some i) (hi:i.sl=some (e,ag,k,by_)) (he:tiOf P e=some j) (hz:j.zero.length=j.size) (hp:0<k) (hk:j.size=k)
  (hr:RowIs e k xs v s) (hs:StOK w X s) (hu:Rd w (Own s X) (.sl k ys) u) (h1:∀ y∈ys,y.all oneD=true) (hb:(xs.length+ys.length)*by_<=140737488355328) (hm:xs.length+ys.length<=maxLen) :
  ∃ v' w' s',(Builtin.append_ #[t,t] ty #[v,u]).run P w = .ok v' w'/\RowIs e k (xs++ys) v' s'/\StOK w' X s'/\Mv w s w' s':=by
 obtain⟨hut,hsz,hby⟩:=al0 ht hi;obtain⟨ad0,c,news,rfl,hnews,hnl,hcells⟩:=aX2 hu hp;have hysk:∀ y∈ys,y.length=k:=(hu.sl_inv.choose_spec.choose_spec.choose_spec).2.2.1;have hone:∀ v∈news,v.oneCell'=true:=bj4 hnews (by
  rw [yA];intro d hd;obtain⟨y,hy,hdy⟩:=List.mem_flatten.1 hd;exact yA.1 (h1 y hy) d hdy)
 by_cases hne:ys=[]
 ·-- nothing comes
  subst hne;rw [zZ];have hrun:(Builtin.append_ #[t,t] ty #[v,.slice ad0 0 c]).run P w = .ok v w:=by
   have hsz':=(aq0 hsz w).2;rcases hr.is with ⟨⟨a0,rfl⟩,rfl,_⟩|⟨b,cap,junk,rfl,_,hle,_⟩
   ·cases a0<;>cases ad0 with
    | none=>simp [Builtin.append_,run_underlying hut,hsz',Builtin.lenOf,Builtin.firstCells,Result.andThen,storeCells]
    | some ad=>simp [Builtin.append_,run_underlying hut,hsz',Builtin.lenOf,Builtin.firstCells,Result.andThen,loadCells,loadCellsFrom,storeCells]
   ·cases ad0 with
    | none=>simp [Builtin.append_,run_underlying hut,hsz',Builtin.lenOf,Builtin.firstCells,Result.andThen,hle,storeCells]
    | some ad=>simp [Builtin.append_,run_underlying hut,hsz',Builtin.lenOf,Builtin.firstCells,Result.andThen,loadCells,loadCellsFrom,hle,storeCells]
  exact⟨v,w,s,hrun,hr,hs,Mv.refl _ _⟩
 ·obtain⟨ad,rfl,hcell⟩:=hcells hne;obtain⟨inf,z,k1,k2,k3,k4⟩:=ca5 he hz (by omega);have hbytes:inf.bytes=by_:=by rw [← hby];simp [Program.bytesOf,k1]
  obtain⟨xv,v',w',hxv,hrun,hown',hkeep,hblk⟩:∃ xv v' w',RdL w (Own s X) xs.flatten xv/\(Builtin.append_ #[t,t] ty #[v,.slice (some ad) ys.length c]).run P w = .ok v' w'/\w'.ownsRow 0 e k v' (xs.length+ys.length) (xv++news) /\
    Keep (fun b=>b∈aa6 s) w w'/\(∀ g,v'.ownBlock=some g->g∈aa6 s\/g=w.heap.size):=by
   by_cases hsome:∃ a1,v = .slice (some a1) 0 0/\xs=[]/\s=[]
   ·obtain⟨a1,rfl,rfl,rfl⟩:=hsome;have h0:0<ys.length:=xS.2 hne;obtain⟨v',w',g1,g2,g3⟩:=run_append_arg_grows (P:=P) w t ty e inf z k by_ hut k1 k2 (by rw [k3];exact hk) hbytes (by rw [k4];exact hk) hp a1 0 0 [] (by simp) (by simp) ad ys.length c news hnl hcell (by omega) (by simpa using hm) (by simpa using hb);refine⟨[],v',w',by simpa using RdL.nil,g1,?_,⟨g3.os,g3.tape,g3.output,g3.size,fun b hb' _=>g3.block b hb' (fun e=>by cases e)⟩,fun g hg=>?_⟩
    ·exact⟨by simpa using g2.1,by
      rcases g2.2 with h|⟨b',cap,cur,q1,q2,q3,q4,q5,q6,q7⟩
      ·exact .inl (by simpa using h)
      ·exact .inr ⟨b',cap,cur,by simpa using q1,zW _,q3,by simpa using q4,q5,q6,by simpa using q7⟩⟩
    ·right;rcases g2.2 with ⟨h,_⟩|⟨b',cap,cur,q1,q2,q3,q4,q5,q6,q7⟩
     ·rw [h] at hg;cases hg
     ·rw [q1] at hg
      cases hg
      rw [q1] at g1;exact bG8 hut k1 k2 hnl hcell h0 (by rw [k3];exact hk) hbytes (by simpa using hb) (by simpa using hm) g1
   ·obtain⟨xv,hxv,hown⟩:∃ xv:List Value,RdL w (Own s X) xs.flatten xv/\w.ownsRow 0 e k v xs.length xv:=by
     rcases hr.is with ⟨⟨a0,rfl⟩,rfl,rfl⟩|⟨b,cap,junk,rfl,rfl,hle,hcap,hj,_⟩
     ·cases a0 with
      | none=>exact⟨[],by simpa using RdL.nil,by simp,.inl ⟨rfl,rfl⟩⟩
      | some a1=>exact absurd ⟨a1,rfl,rfl,rfl⟩ hsome
     ·obtain⟨_,o,g2,vs,rfl,g3⟩:=hs.at_ b (.cells e (xs.flatten++junk)) (by simp);have hfl:=ax8 hr.len;have hl:vs.length=cap*k:=by rw [g3.len,zI,hfl,hj]
      have ht':=g3.take (xs.length*k);rw [← hfl,List.take_left] at ht';have hx:xs.length*k<=cap*k:=xZ _ hle;refine⟨vs.take xs.flatten.length,ht',by rw [zR,hfl,hl];exact vH hx,.inr ⟨b,cap,vs.toArray,rfl,zW _,g2,hle,hcap,by simpa using hl,by simp [hfl]⟩⟩
    obtain⟨v',w',hrun,hown',hgrow,_,hblk⟩:=run_append_own_at (P:=P) (w:=w) 0 t ty e inf z k by_ hut k1 k2 (by rw [k3];exact hk) hbytes (by rw [k4];exact hk) hp v xs.length xv hown ad ys.length c news hnl hcell hone hm hb (zW _);have hvb:∀ b,v.ownBlock=some b->b∈aa6 s:=by
     intro b hvb;rcases hr.is with ⟨⟨a0,rfl⟩,rfl,rfl⟩|⟨b',cap,junk,rfl,rfl,_⟩
     ·cases a0 with
      | none=>cases hvb
      | some a1=>exact absurd ⟨a1,rfl,rfl,rfl⟩ hsome
     ·cases hvb;simp [aa6]
    refine⟨xv,v',w',hxv,hrun,hown',⟨hgrow.os,hgrow.tape,hgrow.output,hgrow.size,fun b hb hn=>hgrow.block b hb (fun e=>hn (hvb b e.symm))⟩,fun g hg=>?_⟩;rcases hblk with h|h
    ·rw [hg] at h;exact .inl (hvb g h.symm)
    ·rw [hg] at h;cases h;exact .inr rfl
  rcases hown'.2 with ⟨_,h0⟩|⟨g,cap,cur,rfl,_,hg,hle,hcap,hcs,htk⟩
  ·have:ys.length=0:=by omega
   exact absurd (wX.1 this) hne
  ·have hg':g∈aa6 s\/g=w.heap.size:=hblk g rfl;have hlk:∀ y∈xs++ys,y.length=k:=fun y hy=>by
    rcases zO.1 hy with h|h
    ·exact hr.len y h
    ·exact hysk y h
   have hfl:=ax8 hlk;rw [zI] at hfl;have hle':(xs.length+ys.length)*k<=cap*k:=xZ _ hle;refine⟨_,w',[(g,.cells e ((xs++ys).flatten++List.replicate (cur.toList.drop ((xs.length+ys.length)*k)).length .any))],hrun,⟨hlk,.inr ⟨g,cap,_,by rw [zI],rfl,by simpa using hle,hcap,?_,fun d hd=>(List.mem_replicate.1 hd).2⟩⟩,⟨by simp [aa6],?_,fun b hb=>yI (hs.xlt b hb) hkeep.size,?_⟩,⟨hkeep,?_⟩⟩
   ·simp [hcs];omega
   ·intro b kk hbk;simp only [zN,vY] at hbk;obtain⟨rfl,rfl⟩:=hbk;have hXb:¬ X b:=by
     rcases hg' with h|h
     ·obtain⟨⟨b',k'⟩,q1,rfl⟩:=xM.1 h;exact (hs.at_ b' k' q1).1
     ·intro hx;have:=hs.xlt b hx;omega
    have hO:∀ x,x<w.heap.size->¬ Own s X x->¬ Own [(b,Blk.cells e ((xs++ys).flatten++List.replicate (cur.toList.drop ((xs.length+ys.length)*k)).length .any))] X x:=by
     intro x hx hn ho;rcases ho with ho|ho
     ·exact hn (.inl ho)
     ·simp only [aa6,List.map_cons,List.map_nil,zN] at ho;subst ho;rcases hg' with h|h
      ·exact hn (.inr h)
      ·omega
    have hS:∀ x,x<w.heap.size->¬ Own s X x->w'.heap[x]?=w.heap[x]?:=fun x hx hn=>hkeep.block x hx (fun hm=>hn (.inr hm));refine⟨hXb,_,hg,cur.toList,by simp,?_⟩;have hall:=((hxv.append hnews).keep hkeep.size hO hS).append (cb8 (w:=w') (cur.toList.drop ((xs.length+ys.length)*k)));rw [← vW,← htk,vF] at hall;exact hall
   ·have hgs:g<w'.heap.size:=(zX.1 hg).1;refine hs.gok.keep hkeep.size ?_ (fun x hx hn=>hkeep.block x hx (fun hm=>hn (.inr hm))) ?_
    ·intro x hx hn ho;rcases ho with ho|ho
     ·exact hn (.inl ho)
     ·simp only [aa6,List.map_cons,List.map_nil,zN] at ho;subst ho;rcases hg' with h|h
      ·exact hn (.inr h)
      ·omega
    ·intro x ho;rcases ho with ho|ho
     ·exact yI (hs.xlt x ho) hkeep.size
     ·simp only [aa6,List.map_cons,List.map_nil,zN] at ho;subst ho;exact hgs
   ·intro b hb;simp only [aa6,List.map_cons,List.map_nil,zN] at hb;subst hb;rcases hg' with h|h
    ·exact .inl h
    ·exact .inr (by omega)
end
end
section
open Go
def ap9 (c:UInt8):Bool:=decide (97<=(c.toNat:Int))&&decide ((c.toNat:Int)<=122)
def bb2 (c:UInt8):Bool:=decide (48<=(c.toNat:Int))&&decide ((c.toNat:Int)<=57)
def alnum (c:UInt8):Bool:=ap9 c||bb2 c
def aa3 (n a b:Int):Bool:=decide (a<=n)&&decide (n<=b)
def ap2 (lo hi a b:Int):Bool:=decide (a<=lo)&&(decide (lo<=hi)&&decide (hi<=b))
def bytes (s:ByteArray):List UInt8:=s.data.toList
def isNm (s:ByteArray):Bool:=aa3 s.size 1 12&&(match bytes s with|c::_=>ap9 c | []=>false)&&(bytes s).all alnum
def isE (s:ByteArray):Bool:=s.toList.isEmpty
def seq (a b:ByteArray):Bool:=a.toList==b.toList
def ag1 (ws:List ByteArray) (gs:List Int):Bool:=
 gs.all (fun n=>aa3 n 0 1048576)&&aa3 ws.length 1 12&&decide (ws.length=gs.length)&&decide (0<gs.sum)&&ws.all isNm
def an5 (r:Rul):Bool:=isNm r.name&&isNm r.kind&&(isE r.a||isNm r.a)&&(isE r.b||isNm r.b) && !(isE r.a&&isE r.b)&&aa3 r.n (-1048576) 1048576
def aP6 (n:Nat) (m:Int × Int):Bool:=aa3 m.1 0 (n-1)&&aa3 m.2 0 (n-1)
def ag2 (x:Lif):Bool:=isNm x.name&&aa3 x.tz.length 1 12&&x.tz.all isNm&&decide (x.mz.length<=32)&&x.mz.all (aP6 x.tz.length)
def ae1 (k:Int):Bool:=k==1||k==4||k==5||k==6||k==7||k==8
def ae0 (k:Int):Bool:=k==7||k==8
def ae2 (k:Int):Bool:=k==1||k==2||k==4||k==5||k==7
def ae3 (k:Int):Bool:=ae2 k||k==0
def ac5 (k:Int):Bool:=k==3
def ap3 (f:Fld):Bool:=(ae1 f.kind||isE f.of)&&(ae0 f.kind||isE f.up)&&(ae3 f.kind||f.lo==0)&&(ae2 f.kind||f.hi==0)&&(ac5 f.kind||(f.words.isEmpty&&f.wz.isEmpty))
def am4 (f:Fld):Bool:=
 if f.kind=0 then aa3 f.lo (-1048576) 1048576
 else if f.kind=1 then isNm f.of&&ap2 f.lo f.hi 0 65536
 else if f.kind=2 then ap2 f.lo f.hi (-1048576) 1048576
 else if f.kind=3 then ag1 f.words f.wz
 else if f.kind=4 then (isE f.of||isNm f.of)&&ap2 f.lo f.hi (-1048576) 1048576
 else if f.kind=5 then isNm f.of&&ap2 f.lo f.hi 0 32
 else if f.kind=6 then isNm f.of
 else if f.kind=7 then isNm f.of&&isNm f.up&&ap2 f.lo f.hi 0 1048576
 else if f.kind=8 then isNm f.of&&isNm f.up
 else false
def ab2 (f:Fld):Bool:=isNm f.name&&ap3 f&&am4 f
def ag5 (k:Knd):Bool:=isNm k.name&&ap2 k.lo k.hi 0 65536&&decide (k.fields.length<=10)&&k.fields.all ab2
def ag8 (x:Sch):Bool:=aa3 x.vz 0 1048576&&decide (x.kz.length<=6)&&decide (x.lz.length<=6)&&decide (x.rules.length<=16)&&x.kz.all ag5&&x.lz.all ag2&&x.rules.all an5
theorem aC5 (a b:ByteArray):seq a b=true↔a=b:=by
 unfold seq;rw [beq_iff_eq,ByteArray.toList_eq,ByteArray.toList_eq];constructor
 ·intro h;cases a;cases b;simp at h;simp [h]
 ·intro h;rw [h]
theorem as3 (a:ByteArray):seq a a=true:=(aC5 a a).2 rfl
theorem bx7 (a b:ByteArray):isE (a++b)=(isE a&&isE b):=by
 unfold isE;rw [ByteArray.toList_eq,ByteArray.toList_eq,ByteArray.toList_eq,ByteArray.data_append,Array.toList_append]
 cases a.data.toList<;>simp
def SmS (s:ByteArray):Prop:=s.size<=1000000
structure SmF (f:Fld):Prop where
 name:SmS f.name
 of:SmS f.of
 up:SmS f.up
 words:∀ s,s∈f.words->SmS s
 nwords:f.words.length<=1000000
 nweights:f.wz.length<=1000000
structure SmK (k:Knd):Prop where
 name:SmS k.name
 fields:∀ f,f∈k.fields->SmF f
 nfields:k.fields.length<=1000000
structure SmL (x:Lif):Prop where
 name:SmS x.name
 tz:∀ s,s∈x.tz->SmS s
 nstates:x.tz.length<=1000000
 nmoves:x.mz.length<=1000000
structure SmR (r:Rul):Prop where
 name:SmS r.name
 kind:SmS r.kind
 a:SmS r.a
 b:SmS r.b
structure ci9 (x:Sch):Prop where
 kz:∀ k,k∈x.kz->SmK k
 lz:∀ l,l∈x.lz->SmL l
 rules:∀ r,r∈x.rules->SmR r
 nkinds:x.kz.length<=1000000
 nlives:x.lz.length<=1000000
 nrules:x.rules.length<=1000000
theorem SmS.le {s:ByteArray} (h:SmS s):s.size<=9223372036854775807:=by unfold SmS at h;omega
end
section
open Go Go.RowKit Go.Shelf
section
variable {P:Program} {r:Option Nat} {n:Nat} {df:Nat} {ops:Array Oper} {Q:Pst} {a:List D} {σ:aa1} {w:World} {X:Nat->Prop} {ρ:Operand->D}
def aS3 (place:Nat->Option (Nat × Nat)) (cs:List D):List (Nat × D)->Option (List D)
 | []=>some cs
 | (i,d)::rest=>match place i with
  | none=>none
  | some (off,size)=>bif be2 d&&((ag3 d).length==size)&&Nat.ble (off+size) cs.length then aS3 place (spl cs off (ag3 d)) rest else none
theorem cb3 (l:List Value):∀ (off s:Nat) (cs:Array Value),off+s+l.length<=cs.size ->
  ((l.zipIdx s).foldl (fun cs p=>cs.setIfInBounds (off+p.2) p.1) cs).toList=cs.toList.take (off+s)++l++cs.toList.drop (off+s+l.length):=by
 induction l with
 | nil=>intro off s cs _;simp
 | cons v l ih=>
  intro off s cs h;simp only [List.length_cons] at h;rw [List.zipIdx_cons,List.foldl_cons,ih off (s+1) _ (by simp;omega)];simp only [Array.toList_setIfInBounds];have e:=list_seg_step cs.toList (off+s) v l (by simp;omega)
  simpa [vQ] using e
theorem ba9 {O:Nat->Prop} {place:Nat->Option (Nat × Nat)}:∀ (ps:List (Nat × Operand)) (η:Operand->Value) (cs:List D) (vs:Array Value) (out:List D),(∀ p∈ps,Rd w O (ρ p.2) (η p.2))->RdL w O cs vs.toList ->
  aS3 place cs (ps.map fun p=>(p.1,ρ p.2))=some out->∃ arr,Instr.fill place vs (ps.map fun p=>(p.1,η p.2))=some arr/\RdL w O out arr.toList
 | [],η,cs,vs,out,_,hr,h=>by cases h;exact⟨vs,rfl,hr⟩
 | (i,x)::ps,η,cs,vs,out,hp,hr,h=>by
  simp only [List.map_cons,aS3] at h
  cases hpl:place i with
  | none=>rw [hpl] at h;cases h
  | some q=>
   obtain⟨off,size⟩:=q;rw [hpl] at h;simp only at h
   cases hc:(be2 (ρ x)&&((ag3 (ρ x)).length==size)&&Nat.ble (off+size) cs.length) with
   | false=>rw [hc] at h;cases h
   | true=>
    rw [hc] at h;simp only [zJ,beq_iff_eq,vL] at hc;obtain⟨⟨c1,c2⟩,c3⟩:=hc;have hx:=(hp (i,x) (by simp)).cells (be1 c1);have hxl:(η x).cells.size=size:=by have:=hx.len;simpa [c2] using this
    have hle:off+size<=vs.size:=by have:=hr.len;simp at this;omega
    have hq:¬ ((η x).cells.size≠size||off+(η x).cells.size > vs.size)=true:=by simp [hxl];omega
    have hsp:((η x).cells.zipIdx.foldl (fun cs (p:Value × Nat)=>cs.setIfInBounds (off+p.2) p.1) vs).toList=vs.toList.take off++(η x).cells.toList++vs.toList.drop (off+(η x).cells.toList.length):=by
     have:=cb3 (η x).cells.toList off 0 vs (by simp [hxl];omega);rw [Nat.add_zero] at this;rw [← this,← Array.foldl_toList];simp
    obtain⟨arr,g1,g2⟩:=ba9 ps η (spl cs off (ag3 (ρ x))) ((η x).cells.zipIdx.foldl (fun cs (p:Value × Nat)=>cs.setIfInBounds (off+p.2) p.1) vs) out (fun p hm=>hp p (by simp [hm])) (by
     rw [hsp];unfold spl;rw [hx.len];exact ((hr.take off).append hx).append (hr.drop _)) h
    refine⟨arr,?_,g2⟩;simp only [List.map_cons,Instr.fill,hpl];rw [if_neg hq];exact g1
def plD (i:TI) (f:Nat):Option (Nat × Nat):=match i.arr with
 | some (_,_,k)=>some (f*k,k)
 | none=>match i.fs[f]? with|some (o,_,m)=>some (o,m)|none=>none
theorem bA8 {t:TypeId} {i:TI} (h:tiOf P t=some i) (hz:i.zero.length=i.size) (hp:0<i.size):∃ inf z,P.info? t=some inf/\inf.zero=some z/\inf.size=i.size/\z.cells.toList=i.zero.map zv:=by
 obtain⟨inf,u,h1,_,_,h4,_,_,_,_,_⟩:=as9 h;obtain⟨z,g1,g2⟩:=aw5 h hz hp default;refine⟨inf,z,h1,?_,h4.symm,g2⟩
 cases hzz:inf.zero with
 | none=>simp [zeroValue,typeInfo,program,Sem.run,h1,hzz,unsupported] at g1
 | some z'=>simp [zeroValue,typeInfo,program,Sem.run,h1,hzz] at g1;rw [g1]
theorem bd9:∀ (fs:List Field) (rr:List (Nat × Bool × Nat)),(fs.mapM fun f=>(szOf P f.type).map fun s=>(f.offset,s.1,s.2))=some rr ->
  fs.mapM (fun f=>(P.info? f.type).map fun i=>(f.offset,i.size))=some (rr.map fun q=>(q.1,q.2.2))
 | [],rr,h=>by simp at h;subst h;rfl
 | f::fs,rr,h=>by
  simp only [List.mapM_cons,Option.bind_eq_bind,Option.bind_eq_some_iff,Option.pure_def,xB,xN] at h;obtain⟨y,⟨s,hs,rfl⟩,ys,hys,rfl⟩:=h;have ih:=bd9 fs ys hys;unfold szOf at hs;split at hs
  ·rename_i inf u h1 h2
   cases hs
   simp [List.mapM_cons,h1,ih]
  ·cases hs
theorem bR6 {t:TypeId} {i:TI} (h:tiOf P t=some i) (hz:i.zero.length=i.size) (hp:0<i.size) (hf:i.arr.isSome=true\/i.fs≠[]) :
  ∃ z:Array Value,z.toList=i.zero.map zv/\∀ parts,P.built t parts=Instr.fill (plD i) z parts:=by
 obtain⟨inf,z,k1,k2,k3,k4⟩:=bA8 h hz hp;obtain⟨inf',u,h1,h2,_,_,h5,_,h6,_,_⟩:=as9 h;rw [k1] at h1
 cases h1
 refine⟨z.cells,k4,fun parts=>?_⟩;unfold Program.built
 cases u with
 | array m e=>
  simp only at h6
  cases hs:szOf P e with
  | none=>rw [hs] at h6;rw [h6,h5] at hf;simp at hf
  | some q=>
   rw [hs] at h6;unfold szOf at hs;split at hs
   ·rename_i ie u' g1 g2
    cases hs
    simp only [k1,h2,k2,g1];have e1:(plD i)=(fun f=>some (f*ie.size,ie.size)):=by funext f;simp [plD,h6]
    rw [e1]
   ·cases hs
 | struct fields=>
  simp only at h5 h6
  cases hm:fields.toList.mapM (fun f=>(szOf P f.type).map fun s=>(f.offset,s.1,s.2)) with
  | none=>rw [hm] at h5;rw [h5,h6] at hf;simp at hf
  | some rr=>
   rw [hm] at h5;simp only [k1,h2,k2,bd9 _ _ hm];have e1:(plD i)=(fun f=>(rr.map fun q=>(q.1,q.2.2)).toArray[f]?):=by
    funext f
    simp only [plD,h6,h5,Option.getD_some]
    cases hr:rr[f]? with
    | none=>simp [hr]
    | some q=>simp [hr]
   rw [e1]
 | _=>rw [h5,h6] at hf;simp at hf
theorem bE9 {t:TypeId} {ps:Array (Nat × Operand)} {p:Nat × Operand} (h:p∈ps.toList):p.2∈(Op.build t ps).operands:=List.mem_toArray.2 (xM.2 ⟨p,h,rfl⟩)
theorem cd8 {t:TypeId} {m:Nat} {ps:Array (Nat × Operand)} {p:Nat × Operand} (h:p∈ps.toList):p.2∈(Op.buildSlice t m ps).operands:=List.mem_toArray.2 (xM.2 ⟨p,h,rfl⟩)
theorem bK6 {T:TypeId->Option TI} (hT:∀ t i,T t=some i->tiOf P t=some i) {o:Oper} {t:TypeId} {ps:Array (Nat × Operand)} {i:TI} {out:List D} (ho:o.op = .build t ps) (ht:T t=some i) (hz:i.zero.length=i.size) (hp:Nat.blt 0 i.size=true) (hf:(i.arr.isSome || !i.fs.isEmpty)=true)
  (h:aS3 (plD i) (i.zero.map fun z=>.v (zv z)) (ps.toList.map fun p=>(p.1,ρ p.2))=some out):Yd P o ρ σ (.agg out):=by
 intro w X η hη hst;obtain⟨dst,op,ty,pos,aft,g⟩:=o;simp only at ho;subst ho;have hp':0<i.size:=by simpa [wT] using hp
 obtain⟨z,g1,g2⟩:=bR6 (hT t i ht) hz hp' (by simpa using hf);have hzr:RdL w (Own σ X) (i.zero.map fun z=>.v (zv z)) z.toList:=by rw [g1];have:=RdL.vals (w:=w) (O:=Own σ X) (i.zero.map zv);rw [vA] at this;exact this
 obtain⟨arr,k1,k2⟩:=ba9 ps.toList η _ z out (fun p hm=>hη p.2 (bE9 hm)) hzr h;have hrd:=Rd.agg (w:=w) (O:=Own σ X) out arr.toList k2.len k2.at_;rw [Array.toArray_toList] at hrd;have hrun:=run_build w t (ps.map fun p=>(p.1,η p.2)) arr (by rw [g2,Array.toList_map];exact k1);clear k1 k2 h hzr g1 g2;have e:(execOp η ⟨dst,.build t ps,ty,pos,aft,g⟩)=(do pure (Next.value (← Instr.build t (ps.map fun p=>(p.1,η p.2)))):Sem Next):=by
  unfold execOp
  rfl
 rw [e];exact ag4 hrun (Ex.refl w) hrd
def aG3 (z:List ZV) (k m:Nat):List D:=(List.range (m*k)).map fun q=>.v (zv (z.getD (q%k) .bool))
def aQ9 (k m:Nat) (cs:List D):List (List D):=(List.range m).map fun i=>(cs.drop (i*k)).take k
def xT:=@List.mem_range
theorem cj8 {T:TypeId->Option TI} (hT:∀ t i,T t=some i->tiOf P t=some i) {o:Oper} {t e:TypeId} {ps:Array (Nat × Operand)} {i j:TI} {ag:Bool} {k by_ m:Nat} {out:List D} (ho:o.op = .buildSlice t m ps) (ht:T t=some i) (hs:i.sl=some (e,ag,k,by_)) (he:T e=some j) (hz:j.zero.length=j.size) (hk:j.size=k) (hp:Nat.blt 0 k=true)
  (hm:Nat.ble (m*k) 1000=true) (h:aS3 (fun q=>some (q*k,k)) (aG3 j.zero k m) (ps.toList.map fun p=>(p.1,ρ p.2))=some out) (hl:(out.length==m*k)=true):Yd P o ρ σ (.sl k (aQ9 k m out)):=by
 intro w X η hη hst;obtain⟨dst,op,ty,pos,aft,g⟩:=o;simp only at ho;subst ho;have hp':0<k:=by simpa [wT] using hp
 have hm':m*k<=1000:=by simpa [vL] using hm
 have hl':out.length=m*k:=by simpa using hl
 obtain⟨hu,hsz,_⟩:=al0 (hT t i ht) hs;have hsz':=(aq0 hsz w).2;obtain⟨z,g1,g2⟩:=aw5 (hT e j he) hz (by omega) w;have hzl:z.cells.size=k:=by have:=zM List.length g2;simpa [hz,hk] using this
 have hzr:RdL w (Own σ X) (aG3 j.zero k m) ((Array.range (m*k)).map (z.cells[· % z.cells.size]!)).toList:=by
  refine⟨by simp [aG3],fun q d u h1 h2=>?_⟩;have hq:q<m*k:=by simpa [aG3] using (zE.1 h1).1
  simp only [aG3,zP,xV hq,Option.map_some,xB] at h1;simp [hq,hzl] at h2;subst h1 h2;have hmod:q%k<k:=vM _ hp';have:z.cells[q%k]! = zv (j.zero.getD (q%k) .bool):=by
   have h3:z.cells.toList[q%k]?=(j.zero.map zv)[q%k]?:=by rw [g2]
   have h4:q%k<j.zero.length:=by omega
   simp [h4,hzl,hmod] at h3;simp [hzl,hmod,h4];exact h3
  rw [this];exact .v _
 obtain⟨arr,k1,k2⟩:=ba9 ps.toList η _ _ out (fun p hm=>hη p.2 (cd8 hm)) hzr h;have hal:arr.size=m*k:=by have:=k2.len;simpa [hl'] using this
 have hrun:(Instr.buildSlice t m (ps.map fun p=>(p.1,η p.2))).run P w = .ok (.slice (some ⟨w.heap.size,0,none⟩) m m) (w.alloc (.cells arr e)):=by
  have h24:¬ m*k > 2 ^ 24:=by omega
  have hr0:(Array.range 0:Array Nat) = #[]:=rfl;by_cases h0:m*k=0
  ·have hm0:m=0:=by rcases Nat.mul_eq_zero.1 h0 with h|h<;>omega
   subst hm0;have k1':Instr.fill (fun q=>some (q*k,k)) #[] (ps.toList.map fun p=>(p.1,η p.2))=some arr:=by simpa [hr0] using k1
   simp [Instr.buildSlice,run_underlying hu,hsz',Result.andThen,newRow,newObj,Sem.run,hr0,k1']
  ·have h0':¬ (m=0\/k=0):=fun h=>h0 (Nat.mul_eq_zero.2 h);simp only [Instr.buildSlice,Sem.run_bind,run_underlying hu,hsz',Result.andThen,if_neg h24,if_neg h0,g1,Sem.run_pure,Array.toList_map,k1,newRow,newObj,Sem.run]
   rfl
 refine ag4 hrun ((Ex.refl w).alloc) ?_;have k3:=k2.ex ((Ex.refl w).alloc (o:=.cells arr e));have hch:(aQ9 k m out).length=m:=by simp [aQ9]
 have:=Rd.sl (w:=w.alloc (.cells arr e)) (O:=Own σ X) k (aQ9 k m out) (some ⟨w.heap.size,0,none⟩) m (fun q c=>arr.toList.getD (q*k+c) undef) (by omega) (fun x hx=>by
  simp only [aQ9,xM,xT] at hx;obtain⟨q,hq,rfl⟩:=hx;have:(q+1)*k<=m*k:=xZ _ hq;rw [vC] at this;simp;omega) (fun q x hx=>⟨w.heap.size,0,rfl,aP2 hst (zT _),by simp,fun c hc=>by
   have hq:q<m:=by simpa [aQ9] using (zE.1 hx).1
   have:(q+1)*k<=m*k:=xZ _ hq;rw [vC] at this;have hlt:q*k+c<arr.size:=by omega
   rw [xD,World.cell?_alloc_new];simp [hlt]⟩) (fun q x hx c d hd=>by
   have hq:q<m:=by simpa [aQ9] using (zE.1 hx).1
   simp only [aQ9,zP,xV hq,Option.map_some,xB] at hx;subst hx;rw [yX] at hd;split at hd
   ·rw [xR] at hd;obtain⟨u,q1,q2⟩:=k3.get hd;simp only [List.getD_eq_getElem?_getD,q1];exact q2
   ·cases hd)
 rw [hch] at this;exact this
end
end
section
open Go Go.RowKit Go.Shelf
section
variable {P:Program} {r:Option Nat} {n:Nat} {df:Nat} {ops:Array Oper} {Q:Pst} {a:List D} {σ:aa1} {w:World} {X:Nat->Prop} {ρ:Operand->D}
theorem bget (s:ByteArray) (j:Nat):s[j]?=(bytes s)[j]?:=by
 unfold bytes;by_cases h:j<s.size
 ·have h2:j<s.data.toList.length:=by simpa using h
  rw [zD h2,getElem?_pos s j h]
  rfl
 ·have h2:¬ j<s.data.toList.length:=by simpa using h
  rw [List.getElem?_eq_none (by omega),getElem?_neg s j h]
theorem aG5 {T:TypeId->Option TI} (hT:∀ t i,T t=some i->tiOf P t=some i) {o:Oper} {t:TypeId} {x ix:Operand} {s:ByteArray} {kk:IntKind} {j:Int} {c:UInt8} {i:TI} (ho:o.op = .index t x ix) (hx:ρ x = .v (.string s)) (hi:ρ ix = .v (.int kk j)) (ht:T t=some i) (hs:i.str=true)
  (hc:(bytes s)[j.toNat]?=some c) (h0:0<=j):Yd P o ρ σ (.v (.int .u8 c.toNat)):=by
 intro w X η hη hst;obtain⟨dst,op,ty,pos,aft,g⟩:=o;simp only at ho;subst ho;have h1:=(hη x (by simp [Op.operands])).val hx;have h2:=(hη ix (by simp [Op.operands])).val hi;have hu:=bA9 (hT t i ht) hs;refine ag4 (s:=Instr.index t (η x) (η ix)) (u:=.int .u8 c.toNat) ?_ (Ex.refl w) (.v _);rw [h1,h2];have hb:s[j.toNat]?=some c:=by rw [bget];exact hc
 simp only [Instr.index,asIntOf,Sem.run_bind,Sem.run_pure,Result.andThen,run_underlying hu,if_pos h0,hb]
theorem aA2 {T:TypeId->Option TI} (hT:∀ t i,T t=some i->tiOf P t=some i) {o:Oper} {t:TypeId} {x y:Operand} {s:ByteArray} {kk:IntKind} {j:Int} {i:TI} (ho:o.op = .slice t x none (some y) none) (hx:ρ x = .v (.string s)) (hi:ρ y = .v (.int kk j)) (ht:T t=some i) (hs:i.str=true)
  (h0:0<=j/\j<=s.size):Yd P o ρ σ (.v (.string (s.extract 0 j.toNat))):=by
 intro w X η hη hst;obtain⟨dst,op,ty,pos,aft,g⟩:=o;simp only at ho;subst ho;have h1:=(hη x (by simp [Op.operands])).val hx;have h2:=(hη y (by simp [Op.operands])).val hi;have hu:=bA9 (hT t i ht) hs;refine ag4 (s:=Instr.sliceAt t (η x) ((none:Option Operand).map η) ((some y).map η) ((none:Option Operand).map η)) (u:=.string (s.extract 0 j.toNat)) ?_ (Ex.refl w) (.v _);rw [h1];simp [Instr.sliceAt,run_underlying hu,Result.andThen,Instr.slice,Instr.sliceBounds,Instr.sliceBound,h2,asIntOf,h0]
def xG:=@List.mem_of_mem_take
theorem aG4 {T:TypeId->Option TI} (hT:∀ t i,T t=some i->tiOf P t=some i) {o:Oper} {t:TypeId} {x y:Operand} {k:Nat} {xs:List (List D)} {kk:IntKind} {j:Int} {i:TI} {p:Nat × Bool × Nat × Nat} (ho:o.op = .slice t x none (some y) none) (hx:ρ x = .sl k xs) (hi:ρ y = .v (.int kk j)) (ht:T t=some i) (hs:i.sl=some p)
  (h0:0<=j/\j<=xs.length):Yd P o ρ σ (.sl k (xs.take j.toNat)):=by
 intro w X η hη hst;obtain⟨dst,op,ty,pos,aft,g⟩:=o;simp only at ho;subst ho;obtain⟨e,ag,k',by_⟩:=p;have h1:=hη x (by simp [Op.operands]);rw [hx] at h1;have h2:=(hη y (by simp [Op.operands])).val hi;obtain⟨hu,hsz,_⟩:=al0 (hT t i ht) hs;have hz:=(aq0 hsz w).2;obtain⟨ad,cap,vs,hv,hcap,hk,hc,hr⟩:=h1.sl_inv;have hjc:j<=cap:=by omega
 refine ag4 (s:=Instr.sliceAt t (η x) ((none:Option Operand).map η) ((some y).map η) ((none:Option Operand).map η)) (u:=.slice ad j.toNat cap) ?_ (Ex.refl w) ?_
 ·rw [hv];have e0:(if cap=0 then ad else ad.map (·.add (0*k')))=ad:=by
   split
   ·rfl
   ·cases ad<;>simp [Addr.add]
  simp [Instr.sliceAt,run_underlying hu,Result.andThen,Instr.slice,Instr.sliceBounds,Instr.sliceBound,h2,asIntOf,h0.1,hjc,hz] at e0 ⊢;exact e0
 ·have hl:(xs.take j.toNat).length=j.toNat:=by simp;omega
  have:=Rd.sl (w:=w) (O:=Own σ X) k (xs.take j.toNat) ad cap vs (by omega) (fun y hy=>hk y (xG hy)) (fun q y hq=>hc q y (by
   rw [yX] at hq;split at hq
   ·exact hq
   ·cases hq)) (fun q y hq=>hr q y (by
   rw [yX] at hq;split at hq
   ·exact hq
   ·cases hq))
  rw [hl] at this;exact this
theorem cj5 {o:Oper} {f:FuncId} {cap:Array Operand} (ho:o.op = .makeFunc (.func f) #[] cap):Yd P o ρ σ (.clo f (cap.toList.map ρ)):=by
 intro w X η hη hst;obtain⟨dst,op,ty,pos,aft,g⟩:=o;simp only at ho;subst ho;have:=aY0 (w:=w) (O:=Own σ X) (ρ:=ρ) (η:=η) cap.toList (fun x hx=>hη x (by simp [Op.operands];simpa using hx));have hr:=Rd.clo (w:=w) (O:=Own σ X) f _ _ this.len this.at_;refine ag4 (s:=Instr.makeFunc (.func f) ((#[]:Array Operand).map η) (cap.map η)) (w':=w) ?_ (Ex.refl w) hr;rw [show (List.map η cap.toList).toArray=Array.map η cap by apply wJ;simp];simp [Instr.makeFunc]
theorem aS7 {o:Oper} {x y:Operand} {ts:Array TypeId} {k:IntKind} {p q:Int} (ho:o.op = .call { callee:=.builtin .min,args:=#[x,y],argTypes:=ts }) (hx:ρ x = .v (.int k p)) (hy:ρ y = .v (.int k q)):Yd P o ρ σ (.v (.int k (if q<p then q else p))):=by
 intro w X η hη hst;obtain⟨dst,op,ty,pos,aft,g⟩:=o;simp only at ho;subst ho;have h1:=(hη x (by simp [Op.operands,Call.operands])).val hx;have h2:=(hη y (by simp [Op.operands,Call.operands])).val hy;simp only [execOp,resolve,invoke,builtin,Sem.run_bind,Sem.run_pure,Result.andThen,vD,List.map_cons,List.map_nil,h1,h2];exact⟨Ex.refl w,.v _⟩
theorem aS8 {o:Oper} {x y:Operand} {ts:Array TypeId} {k:IntKind} {p q:Int} (ho:o.op = .call { callee:=.builtin .max,args:=#[x,y],argTypes:=ts }) (hx:ρ x = .v (.int k p)) (hy:ρ y = .v (.int k q)):Yd P o ρ σ (.v (.int k (if p<q then q else p))):=by
 intro w X η hη hst;obtain⟨dst,op,ty,pos,aft,g⟩:=o;simp only at ho;subst ho;have h1:=(hη x (by simp [Op.operands,Call.operands])).val hx;have h2:=(hη y (by simp [Op.operands,Call.operands])).val hy;simp only [execOp,resolve,invoke,builtin,Sem.run_bind,Sem.run_pure,Result.andThen,vD,List.map_cons,List.map_nil,h1,h2];exact⟨Ex.refl w,.v _⟩
theorem bJ5 {T:TypeId->Option TI} (hT:∀ t i,T t=some i->tiOf P t=some i) {o:Oper} {rest:List Oper} {x y:Operand} {t e:TypeId} {i j:TI} {ag:Bool} {by_ m:Nat} {z:ZV} (hw:ap1 ops a o=some true) (ho:o.op = .makeSlice t x y) (hx:evD a x = .v (.int .i64 m)) (hy:evD a y = .v (.int .i64 m))
  (ht:T t=some i) (hi:i.sl=some (e,ag,1,by_)) (he:T e=some j) (hz:j.zero=[z]) (hs:j.size=1) (hb:by_*m<=281474976710656) (hm:m<=1000000000)
  (k:∀ b,AOps P r n df ops Q rest (putD a o.dst (.v (.slice (some ⟨b,0,none⟩) m m))) ((b,.cells e (List.replicate m (.v (zv z))))::σ)):AOps P r n df ops Q (o::rest) a σ:=by
 refine ah3 hw (by rw [ho];rfl) fun w X fr hst=>?_;have h1:=(hst.fr.eval x).val hx;have h2:=(hst.fr.eval y).val hy;obtain⟨hu,hsz,hby⟩:=al0 (hT t i ht) hi;obtain⟨inf,zz,k1,k2,k3,k4⟩:=bA8 (hT e j he) (by rw [hz,hs];rfl) (by omega);have hzz:zz.cells = #[zv z]:=by apply wJ;rw [k4,hz];rfl
 have hbt:inf.bytes=by_:=by rw [← hby];simp [Program.bytesOf,k1]
 have hrun:=run_make (P:=P) w t e inf zz hu k1 k2 .i64 .i64 m m (by omega) (Int.le_refl _) (by rw [hbt];have h:((by_*m:Nat):Int)<=281474976710656:=(by omega);rwa [Int.natCast_mul] at h) (by omega);have hcells:(madeCells zz.cells ((m:Int).toNat*inf.size)).toList=List.replicate m (zv z):=by
  rw [hzz,k3,hs,Nat.mul_one,Int.toNat_natCast];apply xY;intro q;by_cases hq:q<m
  ·simp [madeCells,hq,Nat.mod_one]
  ·simp [madeCells,hq]
 have ee:(execOp fr.eval o).run P w = .ok (.value (.slice (some ⟨w.heap.size,0,none⟩) m m)) (w.alloc (.cells (madeCells zz.cells ((m:Int).toNat*inf.size)) e)):=by
  simp only [execOp,ho,Sem.run_bind,h1,h2,hrun,Result.andThen,Sem.run_pure,Int.toNat_natCast]
 rw [ee];obtain⟨g1,g2,g3⟩:=hst.st.new (.cells (madeCells zz.cells ((m:Int).toNat*inf.size)) e) (.cells e (List.replicate m (.v (zv z)))) ⟨_,by rw [Array.toArray_toList],by rw [hcells];have:=RdL.vals (w:=w) (O:=Own σ X) (List.replicate m (zv z));rw [List.map_replicate] at this;exact this⟩;exact⟨_,_,g2,(⟨hst.fr.keep (by simp) g3 (fun b hb _=>((Ex.refl w).alloc).block b hb),g1,hst.df.keep (by simp) g3 (fun b hb _=>((Ex.refl w).alloc).block b hb)⟩:St _ X df a _ fr).put (.v _) o.dst,k _⟩
def effO:Op->Bool
 | .store _ _ _=>true
 | .alloc _=>true
 | .makeSlice _ _ _=>true
 | .makeMap _ _=>true
 | .mapUpdate _ _ _ _=>true
 | .mapEntry _ _ _=>true
 | .entryStore _ _ _ _=>true
 | .call { callee:=.builtin .append,.. }=>true
 | .call { callee:=.builtin .copy,.. }=>true
 | _=>false
def ch0:List Oper->Option Nat
 | []=>none
 | o::l=>bif effO o.op then some 0 else (match ch0 l with|some m=>some (m+1)|none=>none)
end
end
section
open Go Go.RowKit Go.Shelf
section
variable {P:Program} {r:Option Nat} {n:Nat} {df:Nat} {ops:Array Oper} {Q:Pst} {a:List D} {σ:aa1} {w:World} {X:Nat->Prop} {ρ:Operand->D}
theorem aL2 {τ:aa1} (h:σ.Perm τ) (b:Nat):Own σ X b↔Own τ X b:=by
 have:b∈aa6 σ↔b∈aa6 τ:=(h.map Prod.fst).mem_iff;simp only [Own,this]
theorem StOK.perm {τ:aa1} (h:σ.Perm τ) (hs:StOK w X σ):StOK w X τ:=
 ⟨(h.map Prod.fst).nodup_iff.1 hs.nodup,fun b k hm=>by
  obtain⟨h1,o,h2,h3⟩:=hs.at_ b k (h.mem_iff.2 hm);exact⟨h1,o,h2,pA4 (zT _) (fun x _ hn=>by rw [← aL2 h];exact hn) (fun _ _ _=>rfl) h3⟩,hs.xlt,hs.gok.mono (fun x ho=>(aL2 h x).2 ho)⟩
theorem St.perm {τ:aa1} {fr:Act} (h:σ.Perm τ) (hs:St w X df a σ fr):St w X df a τ fr:=
 ⟨hs.fr.keep (zT _) (fun x _ hn=>by rw [← aL2 h];exact hn) (fun _ _ _=>rfl),hs.st.perm h,hs.df.keep (zT _) (fun x _ hn=>by rw [← aL2 h];exact hn) (fun _ _ _=>rfl)⟩
theorem Pw.perm {τ:aa1} (h:σ.Perm τ) {e:Exit} {fr:Act} {w':World} (hp:Pw w X df τ Q e fr w'):Pw w X df σ Q e fr w':=by
 obtain⟨a',s',h1,h2,h3⟩:=hp;have hk:∀ x,x∈aa6 τ->x∈aa6 σ:=fun x hx=>(h.map Prod.fst).mem_iff.2 hx;exact⟨a',s',h1,h2,⟨h3.keep.mono (fun x _ hx=>hk x hx),fun x hx=>(h3.new x hx).imp (hk x) id⟩⟩
theorem aA0 {l:List Oper} {τ:aa1} (h:σ.Perm τ) (k:AOps P r n df ops Q l a τ):AOps P r n df ops Q l a σ:=
 ⟨fun w X fr hs=>ah9 (fun _ _ _ hp=>Pw.perm h hp) _ _ _ (k.run w X fr (hs.perm h))⟩
end
end
end Go.Proofs.YtlcfiilejnnlnaaGreatDoor
