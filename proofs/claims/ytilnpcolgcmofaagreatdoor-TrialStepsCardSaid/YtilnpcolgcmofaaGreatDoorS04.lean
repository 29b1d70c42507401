/- A part of the proof: Rw Bs Mo Pm Pn Ex. -/
import Derived.Test.YtilnpcolgcmofaaGreatDoorS03
import Derived.ArgAppend
import Derived.Laws.Tables
import Derived.Deep.OwnRows
set_option maxRecDepth 100000
set_option maxHeartbeats 20000000
set_option linter.all false
namespace Go.Proofs.YtilnpcolgcmofaaGreatDoor
open Tryz
section
open Go Go.RowKit Go.Shelf
section
variable {P:Program} {r:Option Nat} {n:Nat} {df:Nat} {ops:Array Oper} {Q:eY} {a:List D} {σ:af} {w:World} {X:Nat->Prop} {ρ:Operand->D}
theorem aL9{c:Code}{b:List D}{τ:af}(h:∀w X fr,St w X df a σ fr->St w X df b τ fr)(d:∀x,x∈aQ τ->x∈aQ σ)(k:dQ P r n df c Q b τ):dQ P r n df c Q a σ:=
 ⟨λw X fr g=>wpIn_mono (k.run w X fr (h w X fr g)) λe l o⟨m,s,j,i,f⟩=>⟨m,s,j,i,⟨f.keep.mono (λx _ hx=>d x hx),λx hx=>(f.new x hx).imp (d x) id⟩⟩⟩
theorem aU.sub{τ:af}(h:aU w X σ)(s:τ.Sublist σ):aU w X τ:=
 ⟨(s.map Prod.fst).nodup h.nodup,λb k m=>by
  obtain⟨e,o,d,c⟩:=h.at_ b k (s.subset m);exact⟨e,o,d,r9 (zT _) (λx _ n a=>n (a.imp id λhx=>(s.map Prod.fst).subset hx)) (λ_ _ _=>rfl) c⟩,h.xlt,h.gok.mono (λx a=>a.imp id λhx=>(s.map Prod.fst).subset hx)⟩
theorem qO{τ:af}(h:τ.Sublist σ)(x:Nat)(n:¬ay σ X x):¬ay τ X x:=λo=>n (o.imp id λhx=>(h.map Prod.fst).subset hx)
theorem Ef{c:Code}{τ:af}(s:τ.Sublist σ)(k:dQ P r n df c Q a τ):dQ P r n df c Q a σ:=
 aL9 (λw X f h=>⟨h.fr.keep (zT _) (λx _ b=>qO s x b) (λ_ _ _=>rfl),h.st.sub s,h.df.keep (zT _) (λx _ b=>qO s x b) (λ_ _ _=>rfl)⟩) (λx hx=>(s.map Prod.fst).subset hx) k
theorem aL6{α:Type}{k:Nat}:∀{s:List (List α)}{i:Nat}{x:List α}{j:Nat},(∀x∈s,x.length=k)->s[i]?=some x->j<k->s.flatten[i*k+j]?=x[j]?
 |[],i,x,j,_,h,_=>by simp at h
 |y::s,0,x,j,a,h,c=>by
  simp at h;subst h;have:=a y (by simp);rw[List.flatten_cons,Nat.zero_mul,xD,yP (by omega)]
 |y::s,i+1,x,j,a,h,c=>by
  simp at h;have b:=a y (by simp);rw[List.flatten_cons,yK (by rw[b,vC];omega),b,show(i+1)*k+j-k=i*k+j by rw[vC];omega];exact aL6 (λz d=>a z (by simp[d])) h c
theorem E4{α:Type}{k:Nat}:∀{s:List (List α)},(∀x∈s,x.length=k)->s.flatten.length=s.length*k
 |[],_=>by simp
 |y::s,h=>by
  rw[List.flatten_cons,zI,E4 (λz a=>h z (by simp[a])),h y (by simp),List.length_cons,vC];omega
structure ae(e:TypeId)(k:Nat)(xs:List (List D))(v:Value)(s:af):Prop where
 len:∀x∈xs,x.length=k
 is:((∃a,v= .slice a 0 0)/\xs=[]/\s=[])\/∃(b cap:Nat)(junk:List D),v= .slice (some ⟨b,0,none⟩) xs.length cap/\s=[(b,.cells e (xs.flatten++junk))]/\xs.length<=cap/\cap<=maxLen/\xs.length*k+junk.length=cap*k/\∀d∈junk,d=D.any
theorem ae.nil(e:TypeId)(k:Nat):ae e k [] (.slice none 0 0) []:=⟨by simp,.inl ⟨⟨none,rfl⟩,rfl,rfl⟩⟩
theorem ae.e0(e:TypeId)(k:Nat)(a:Option Addr):ae e k [] (.slice a 0 0) []:=⟨by simp,.inl ⟨⟨a,rfl⟩,rfl,rfl⟩⟩
theorem ae.slice{e:TypeId}{k:Nat}{xs:List (List D)}{v:Value}{s:af}(h:ae e k xs v s):∃a c,v= .slice a xs.length c:=by
 rcases h.is with⟨⟨d,rfl⟩,rfl,_⟩|⟨b,p,_,rfl,_⟩
 .exact⟨d,0,rfl⟩
 .exact⟨_,_,rfl⟩
def wI:=@List.sublist_append_right
def xZ:=@Nat.mul_le_mul_right
theorem Mn{e:TypeId}{k:Nat}{xs:List (List D)}{v:Value}{s τ:af}(h:ae e k xs v s)(y:aU w X (s++τ)):Rd w (ay τ X) (.sl k xs) v:=by
 rcases h.is with⟨⟨J,rfl⟩,rfl,_⟩|⟨b,p,a,rfl,rfl,l,_,H,_⟩
 .exact .sl k [] J 0 (λ_ _=>undef) (zT _) (by simp) (λi x hx=>by simp at hx) (λi x hx=>by simp at hx)
 .obtain⟨I,o,B,vs,rfl,A⟩:=y.at_ b (.cells e (xs.flatten++a)) (xK _ (by simp));have g:=y.nodup;simp only[aQ,yB,List.map_cons,List.map_nil,List.cons_append,List.nil_append,wZ]at g;have O:¬ay τ X b:=λf=>by
   rcases f with f|f
   .exact I f
   .exact g.1 f
  have r:=E4 h.len;have c:τ.Sublist ([(b,aE.cells e (xs.flatten++a))]++τ):=wI _ _;refine .sl k xs _ p (λi j=>vs.getD (i*k+j) undef) l h.len (λi x hx=>⟨b,0,rfl,O,(zX.1 B).1,λj G=>?_⟩) (λi x hx j d z=>?_)
  .have K:i<xs.length:=(zE.1 hx).1;have:i*k+j<vs.length:=by
    rw[A.len,zI,r,H];have:(i+1)*k<=p*k:=xZ _ (by omega);rw[vC]at this;omega
   simp[World.cell?,B,this]
  .have m:j<k:=by rw[←h.len x (zG hx)];exact(zE.1 z).1
   have q:=aL6 h.len hx m;rw[z]at q;have t:=(zE.1 q).1;have n:(xs.flatten++a)[i*k+j]?=some d:=by rw[yP t];exact q
   obtain⟨u,E,C⟩:=A.get n;simp only[List.getD_eq_getElem?_getD,E];exact C.keep (zT _) (λx _ F=>qO c x F) (λ_ _ _=>rfl)
def vM:=@Nat.mod_lt
def xS:=@List.length_pos_iff
theorem mb{O:Nat->Prop}{k:Nat}{ys:List (List D)}{u:Value}(h:Rd w O (.sl k ys) u)(p:0<k):∃a c n,u= .slice a ys.length c/\bb w O ys.flatten n/\n.length=ys.length*k/\(ys≠[]->∃z:Addr,a=some z/\∀(j:Nat)v,n[j]?=some v->w.cell? (z.add j)=some v):=by
 obtain⟨a,c,vs,rfl,B,r,s,A⟩:=h.sl_inv;have l:=E4 r;refine⟨a,c,(List.range (ys.length*k)).map (λq=>vs (q/k) (q%k)),rfl,⟨by simp[l],λj d v y x=>?_⟩,by simp,λg=>?_⟩
 .have t:j<ys.length*k:=by rw[←l];exact(zE.1 y).1
  simp only[qA,xV t,Option.map_some,xB]at x;subst x;have e:j/k<ys.length:=Nat.div_lt_of_lt_mul (by rw[Nat.mul_comm];exact t);have m:j%k<k:=vM _ p;have hx:ys[j/k]?=some ys[j/k]:=zD e;have:=aL6 r hx m;rw[show j/k*k+j%k=j by rw[Nat.mul_comm];exact Nat.div_add_mod j k,y]at this;exact A _ _ hx _ d this.symm
 .have E:0<ys.length:=xS.2 g;obtain⟨b,o,rfl,_⟩:=s 0 ys[0] (zD E);refine⟨⟨b,o,none⟩,rfl,λj v f=>?_⟩;have t:j<ys.length*k:=by simpa using(zE.1 f).1
  simp only[qA,xV t,Option.map_some,xB]at f;subst f;have e:j/k<ys.length:=Nat.div_lt_of_lt_mul (by rw[Nat.mul_comm];exact t);have m:j%k<k:=vM _ p;obtain⟨G,i,F,_,_,C⟩:=s (j/k) _ (zD e)
  cases F
  have:=C (j%k) m;rw[vQ,show j/k*k+j%k=j by rw[Nat.mul_comm];exact Nat.div_add_mod j k]at this;rw[x4];exact this
def zM:=@congrArg
theorem Gd{t:TypeId}{i:TI}(h:aD P t=some i)(c:i.zero.length=i.size)(p:0<i.size):∃f z,P.info? t=some f/\f.zero=some z/\f.size=i.size/\z.cells.size=i.size:=by
 obtain⟨f,u,b,_,_,d,_,_,_,_,_⟩:=E2 h;obtain⟨z,g,e⟩:=Pg h c p default;refine⟨f,z,b,?_,d.symm,?_⟩
 .cases a:f.zero with
  |none=>simp[zeroValue,typeInfo,program,Sem.run,b,a,unsupported]at g
  |some j=>simp[zeroValue,typeInfo,program,Sem.run,b,a]at g;rw[g]
 .have:=zM List.length e
  simpa [c]using this
theorem kC{O:Nat->Prop}(vs:List Value):bb w O (List.replicate vs.length .any) vs:=
 ⟨by simp,λj d u h _=>by
  rw[wF]at h;split at h
  .cases h;exact .any u
  .cases h⟩
theorem vi{t ty e:TypeId}{i:TypeInfo}{z:Value}{o d:Addr}{m c k b g p n:Nat}{s:List Value}{w':World}(a:P.underlying t=some (.slice e))(r:P.info? e=some i)(q:i.zero=some z)
  (l:s.length=m*k) (h:∀j u,s[j]?=some u->w.cell? (d.add j)=some u) (C:0<m) (A:i.size=k) (y:i.bytes=b) (B:(0+m)*b<=140737488355328) (x:m<=maxLen)
  (f:(Builtin.append_ #[t,t] ty #[.slice (some o) 0 0,.slice (some d) m c]).run P w= .ok (.slice (some ⟨g,0,none⟩) n p) w'):g=w.heap.size:=by
 subst A;subst y;have v:=run_append_grow (P:=P) w t ty e i z a r q o 0 0 [] (by simp) (by simp) d m c s l h (by omega) (by unfold maxLen at x;omega) (growslice_fits (by omega) B);rw[v]at f
 cases f
 rfl
theorem XI{p:Prop}(h:p:=by
 intro x hx hn ho;rcases ho with ho|ho
 .exact hn (.inl ho)
 .simp only[aQ,List.map_cons,List.map_nil,zN]at ho;subst ho;rcases hg' with h|h
  .exact hn (.inr h)
  .omega):p:=h
def zZ:=@List.append_nil
def zR:=@List.length_take
def vH:=@Nat.min_eq_left
def wX:=@List.length_eq_zero_iff
def vW:=@List.flatten_append
def vF:=@List.take_append_drop
theorem qH{s:af}{t ty e:TypeId}{i j:TI}{ag:Bool}{k O:Nat}{xs ys:List (List D)}{v u:Value}(ht:aD P t=some i)(hi:i.sl=some (e,ag,k,O))(he:aD P e=some j)(hz:j.zero.length=j.size)(hp:0<k)(hk:j.size=k)
  (hr:ae e k xs v s) (hs:aU w X s) (hu:Rd w (ay s X) (.sl k ys) u) (h1:∀y∈ys,y.all dH=true) (R:(xs.length+ys.length)*O<=140737488355328) (hm:xs.length+ys.length<=maxLen) :
  ∃I r s',(Builtin.append_ #[t,t] ty #[v,u]).run P w= .ok I r/\ae e k (xs++ys) I s'/\aU r X s'/\Mv w s r s':=by
 obtain⟨A,hsz,hby⟩:=x7 ht hi;obtain⟨ad0,c,F,rfl,L,hnl,U⟩:=mb hu hp;have hysk:∀y∈ys,y.length=k:=(hu.sl_inv.choose_spec.choose_spec.choose_spec).2.2.1;have hone:∀v∈F,v.oneCell'=true:=kA L (by
  rw[yA];intro d hd;obtain⟨y,hy,hdy⟩:=List.mem_flatten.1 hd;exact yA.1 (h1 y hy) d hdy)
 by_cases T:ys=[]
 ·-- nothing comes
  subst T;rw[zZ];have n:(Builtin.append_ #[t,t] ty #[v,.slice ad0 0 c]).run P w= .ok v w:=by
   have G:=(qP hsz w).2;rcases hr.is with⟨⟨a0,rfl⟩,rfl,_⟩|⟨b,l,J,rfl,_,q,_⟩
   .cases a0<;>cases ad0 with
    |none=>simp[Builtin.append_,run_underlying A,G,Builtin.lenOf,Builtin.firstCells,Result.andThen,storeCells]
    |some ad=>simp[Builtin.append_,run_underlying A,G,Builtin.lenOf,Builtin.firstCells,Result.andThen,loadCells,loadCellsFrom,storeCells]
   .cases ad0 with
    |none=>simp[Builtin.append_,run_underlying A,G,Builtin.lenOf,Builtin.firstCells,Result.andThen,q,storeCells]
    |some ad=>simp[Builtin.append_,run_underlying A,G,Builtin.lenOf,Builtin.firstCells,Result.andThen,loadCells,loadCellsFrom,q,storeCells]
  exact⟨v,w,s,n,hr,hs,Mv.refl _ _⟩
 .obtain⟨ad,rfl,C⟩:=U T;obtain⟨Y,z,k1,k2,k3,k4⟩:=Gd he hz (by omega);have m:Y.bytes=O:=by rw[←hby];simp[Program.bytesOf,k1]
  obtain⟨S,I,r,Z,n,B,a,N⟩:∃S I r,bb w (ay s X) xs.flatten S/\(Builtin.append_ #[t,t] ty #[v,.slice (some ad) ys.length c]).run P w= .ok I r/\r.ownsRow 0 e k I (xs.length+ys.length) (S++F) /\
    aW (λb=>b∈aQ s) w r/\(∀g,I.ownBlock=some g->g∈aQ s\/g=w.heap.size):=by
   by_cases hsome:∃a1,v= .slice (some a1) 0 0/\xs=[]/\s=[]
   .obtain⟨a1,rfl,rfl,rfl⟩:=hsome;have h0:0<ys.length:=xS.2 T;obtain⟨I,r,g1,g2,W⟩:=run_append_arg_grows (P:=P) w t ty e Y z k O A k1 k2 (by rw[k3];exact hk) m (by rw[k4];exact hk) hp a1 0 0 [] (by simp) (by simp) ad ys.length c F hnl C (by omega) (by simpa using hm) (by simpa using R);refine⟨[],I,r,by simpa using bb.nil,g1,?_,⟨W.os,W.tape,W.output,W.size,λb hb' _=>W.block b hb' (λe=>by cases e)⟩,λg Q=>?_⟩
    .exact⟨by simpa using g2.1,by
      rcases g2.2 with h|⟨b',l,E,q1,q2,q3,q4,q5,q6,q7⟩
      .exact .inl (by simpa using h)
      .exact .inr ⟨b',l,E,by simpa using q1,zW _,q3,by simpa using q4,q5,q6,by simpa using q7⟩⟩
    .right;rcases g2.2 with⟨h,_⟩|⟨b',l,E,q1,q2,q3,q4,q5,q6,q7⟩
     .rw[h]at Q;cases Q
     .rw[q1]at Q
      cases Q
      rw[q1]at g1;exact vi A k1 k2 hnl C h0 (by rw[k3];exact hk) m (by simpa using R) (by simpa using hm) g1
   .obtain⟨S,Z,hown⟩:∃S:List Value,bb w (ay s X) xs.flatten S/\w.ownsRow 0 e k v xs.length S:=by
     rcases hr.is with⟨⟨a0,rfl⟩,rfl,rfl⟩|⟨b,l,J,rfl,rfl,q,M,hj,_⟩
     .cases a0 with
      |none=>exact⟨[],by simpa using bb.nil,by simp,.inl ⟨rfl,rfl⟩⟩
      |some a1=>exact absurd ⟨a1,rfl,rfl,rfl⟩ hsome
     .obtain⟨_,o,g2,vs,rfl,W⟩:=hs.at_ b (.cells e (xs.flatten++J)) (by simp);have H:=E4 hr.len;have hl:vs.length=l*k:=by rw[W.len,zI,H,hj]
      have ht':=W.take (xs.length*k);rw[←H,List.take_left]at ht';have hx:xs.length*k<=l*k:=xZ _ q;refine⟨vs.take xs.flatten.length,ht',by rw[zR,H,hl];exact vH hx,.inr ⟨b,l,vs.toArray,rfl,zW _,g2,q,M,by simpa using hl,by simp[H]⟩⟩
    obtain⟨I,r,n,B,f,_,N⟩:=run_append_own_at (P:=P) (w:=w) 0 t ty e Y z k O A k1 k2 (by rw[k3];exact hk) m (by rw[k4];exact hk) hp v xs.length S hown ad ys.length c F hnl C hone hm R (zW _);have K:∀b,v.ownBlock=some b->b∈aQ s:=by
     intro b K;rcases hr.is with⟨⟨a0,rfl⟩,rfl,rfl⟩|⟨b',l,J,rfl,rfl,_⟩
     .cases a0 with
      |none=>cases K
      |some a1=>exact absurd ⟨a1,rfl,rfl,rfl⟩ hsome
     .cases K;simp[aQ]
    refine⟨S,I,r,Z,n,B,⟨f.os,f.tape,f.output,f.size,λb R hn=>f.block b R (λe=>hn (K b e.symm))⟩,λg Q=>?_⟩;rcases N with h|h
    .rw[Q]at h;exact .inl (K g h.symm)
    .rw[Q]at h;cases h;exact .inr rfl
  rcases B.2 with⟨_,h0⟩|⟨g,l,E,rfl,_,Q,q,M,hcs,htk⟩
  .have:ys.length=0:=by omega
   exact absurd (wX.1 this) T
  .have hg':g∈aQ s\/g=w.heap.size:=N g rfl;have hlk:∀y∈xs++ys,y.length=k:=λy hy=>by
    rcases zO.1 hy with h|h
    .exact hr.len y h
    .exact hysk y h
   have H:=E4 hlk;rw[zI]at H;have hle':(xs.length+ys.length)*k<=l*k:=xZ _ q;refine⟨_,r,[(g,.cells e ((xs++ys).flatten++List.replicate (E.toList.drop ((xs.length+ys.length)*k)).length .any))],n,⟨hlk,.inr ⟨g,l,_,by rw[zI],rfl,by simpa using q,M,?_,λd hd=>(List.mem_replicate.1 hd).2⟩⟩,⟨by simp[aQ],?_,λb R=>yI (hs.xlt b R) a.size,?_⟩,⟨a,?_⟩⟩
   .simp[hcs];omega
   .intro b kk hbk;simp only[zN,vY]at hbk;obtain⟨rfl,rfl⟩:=hbk;have hXb:¬X b:=by
     rcases hg' with h|h
     .obtain⟨⟨b',k'⟩,q1,rfl⟩:=xM.1 h;exact(hs.at_ b' k' q1).1
     .intro hx;have:=hs.xlt b hx;omega
    have hO:∀x,x<w.heap.size->¬ay s X x->¬ay [(b,aE.cells e ((xs++ys).flatten++List.replicate (E.toList.drop ((xs.length+ys.length)*k)).length .any))] X x:=XI;have hS:∀x,x<w.heap.size->¬ay s X x->r.heap[x]?=w.heap[x]?:=λx hx hn=>a.block x hx (λhm=>hn (.inr hm));refine⟨hXb,_,Q,E.toList,by simp,?_⟩;have V:=((Z.append L).keep a.size hO hS).append (kC (w:=r) (E.toList.drop ((xs.length+ys.length)*k)));rw[←vW,←htk,vF]at V;exact V
   .have hgs:g<r.heap.size:=(zX.1 Q).1;refine hs.gok.keep a.size ?_ (λx hx hn=>a.block x hx (λhm=>hn (.inr hm))) ?_
    .exact XI
    .intro x ho;rcases ho with ho|ho
     .exact yI (hs.xlt x ho) a.size
     .simp only[aQ,List.map_cons,List.map_nil,zN]at ho;subst ho;exact hgs
   .intro b R;simp only[aQ,List.map_cons,List.map_nil,zN]at R;subst R;rcases hg' with h|h
    .exact .inl h
    .exact .inr (by omega)
end
end
section
open Go Go.RowKit Go.Shelf
section
variable {P:Program} {r:Option Nat} {n:Nat} {df:Nat} {ops:Array Oper} {Q:eY} {a:List D} {σ:af} {w:World} {X:Nat->Prop} {ρ:Operand->D}
def LK(p:Nat->Option (Nat×Nat))(cs:List D):List (Nat×D)->Option (List D)
 |[]=>some cs
 |(i,d)::r=>match p i with
  |none=>none
  |some (o,size)=>bif PK d&&((gF d).length==size)&&Nat.ble (o+size) cs.length then LK p (ft cs o (gF d)) r else none
theorem GN(l:List Value):∀(o s:Nat)(c:Array Value),o+s+l.length<=c.size ->
  ((l.zipIdx s).foldl (λc p=>c.setIfInBounds (o+p.2) p.1) c).toList=c.toList.take (o+s)++l++c.toList.drop (o+s+l.length):=by
 induction l with
 |nil=>intro o s c _;simp
 |cons v l i=>
  intro o s c h;simp only[List.length_cons]at h;rw[List.zipIdx_cons,List.foldl_cons,i o (s+1) _ (by simp;omega)];simp only[Array.toList_setIfInBounds];have e:=list_seg_step c.toList (o+s) v l (by simp;omega)
  simpa [vQ]using e
theorem Z1{O:Nat->Prop}{e:Nat->Option (Nat×Nat)}:∀(s:List (Nat×Operand))(η:Operand->Value)(c:List D)(vs:Array Value)(t:List D),(∀p∈s,Rd w O (ρ p.2) (η p.2))->bb w O c vs.toList ->
  LK e c (s.map λp=>(p.1,ρ p.2))=some t->∃a,Instr.fill e vs (s.map λp=>(p.1,η p.2))=some a/\bb w O t a.toList
 |[],η,c,vs,t,_,r,h=>by cases h;exact⟨vs,rfl,r⟩
 |(i,x)::s,η,c,vs,t,g,r,h=>by
  simp only[List.map_cons,LK]at h
  cases l:e i with
  |none=>rw[l]at h;cases h
  |some q=>
   obtain⟨o,size⟩:=q;rw[l]at h;simp only at h
   cases d:(PK (ρ x)&&((gF (ρ x)).length==size)&&Nat.ble (o+size) c.length)with
   |false=>rw[d]at h;cases h
   |true=>
    rw[d]at h;simp only[zJ,beq_iff_eq,vL]at d;obtain⟨⟨c1,v⟩,y⟩:=d;have hx:=(g (i,x) (by simp)).cells (bf4 c1);have b:(η x).cells.size=size:=by have:=hx.len;simpa [v]using this
    have k:o+size<=vs.size:=by have:=r.len;simp at this;omega
    have j:¬((η x).cells.size≠size||o+(η x).cells.size > vs.size)=true:=by simp[b];omega
    have f:((η x).cells.zipIdx.foldl (λc(p:Value×Nat)=>c.setIfInBounds (o+p.2) p.1) vs).toList=vs.toList.take o++(η x).cells.toList++vs.toList.drop (o+(η x).cells.toList.length):=by
     have:=GN (η x).cells.toList o 0 vs (by simp[b];omega);rw[Nat.add_zero]at this;rw[←this,←Array.foldl_toList];simp
    obtain⟨a,u,n⟩:=Z1 s η (ft c o (gF (ρ x))) ((η x).cells.zipIdx.foldl (λc(p:Value×Nat)=>c.setIfInBounds (o+p.2) p.1) vs) t (λp m=>g p (by simp[m])) (by
     rw[f];unfold ft;rw[hx.len];exact((r.take o).append hx).append (r.drop _)) h
    refine⟨a,?_,n⟩;simp only[List.map_cons,Instr.fill,l];rw[if_neg j];exact u
def KH(i:TI)(f:Nat):Option (Nat×Nat):=match i.arr with
 |some (_,_,k)=>some (f*k,k)
 |none=>match i.fs[f]? with|some (o,_,m)=>some (o,m)|none=>none
theorem ru{t:TypeId}{i:TI}(h:aD P t=some i)(c:i.zero.length=i.size)(p:0<i.size):∃f z,P.info? t=some f/\f.zero=some z/\f.size=i.size/\z.cells.toList=i.zero.map zv:=by
 obtain⟨f,u,b,_,_,d,_,_,_,_,_⟩:=E2 h;obtain⟨z,g,e⟩:=Pg h c p default;refine⟨f,z,b,?_,d.symm,e⟩
 cases a:f.zero with
 |none=>simp[zeroValue,typeInfo,program,Sem.run,b,a,unsupported]at g
 |some j=>simp[zeroValue,typeInfo,program,Sem.run,b,a]at g;rw[g]
theorem bf0:∀(b:List Field)(r:List (Nat×Bool×Nat)),(b.mapM λf=>(er P f.type).map λs=>(f.offset,s.1,s.2))=some r ->
  b.mapM (λf=>(P.info? f.type).map λi=>(f.offset,i.size))=some (r.map λq=>(q.1,q.2.2))
 |[],r,h=>by simp at h;subst h;rfl
 |f::b,r,h=>by
  simp only[List.mapM_cons,Option.bind_eq_bind,Option.bind_eq_some_iff,Option.pure_def,xB,xN]at h;obtain⟨y,⟨s,a,rfl⟩,d,c,rfl⟩:=h;have g:=bf0 b d c;unfold er at a;split at a
  .rename_i e u j k
   cases a
   simp[List.mapM_cons,j,g]
  .cases a
theorem D5{t:TypeId}{i:TI}(h:aD P t=some i)(B:i.zero.length=i.size)(C:0<i.size)(g:i.arr.isSome=true\/i.fs≠[]) :
  ∃z:Array Value,z.toList=i.zero.map zv/\∀parts,P.built t parts=Instr.fill (KH i) z parts:=by
 obtain⟨A,z,k,n,F,y⟩:=ru h B C;obtain⟨o,u,x,w,_,_,c,_,a,_,_⟩:=E2 h;rw[k]at x
 cases x
 refine⟨z.cells,y,λparts=>?_⟩;unfold Program.built
 cases u with
 |array m e=>
  simp only at a
  cases d:er P e with
  |none=>rw[d]at a;rw[a,c]at g;simp at g
  |some q=>
   rw[d]at a;unfold er at d;split at d
   .rename_i p E D G
    cases d
    simp only[k,w,n,D];have l:(KH i)=(λf=>some (f*p.size,p.size)):=by funext f;simp[KH,a]
    rw[l]
   .cases d
 |struct b=>
  simp only at c a
  cases j:b.toList.mapM (λf=>(er P f.type).map λs=>(f.offset,s.1,s.2))with
  |none=>rw[j]at c;rw[c,a]at g;simp at g
  |some r=>
   rw[j]at c;simp only[k,w,n,bf0 _ _ j];have l:(KH i)=(λf=>(r.map λq=>(q.1,q.2.2)).toArray[f]?):=by
    funext f
    simp only[KH,a,c,Option.getD_some]
    cases v:r[f]? with
    |none=>simp[v]
    |some q=>simp[v]
   rw[l]
 |_=>rw[c,a]at g;simp at g
theorem uW{t:TypeId}{s:Array (Nat×Operand)}{p:Nat×Operand}(h:p∈s.toList):p.2∈(Op.build t s).operands:=List.mem_toArray.2 (xM.2 ⟨p,h,rfl⟩)
theorem HQ{t:TypeId}{m:Nat}{s:Array (Nat×Operand)}{p:Nat×Operand}(h:p∈s.toList):p.2∈(Op.buildSlice t m s).operands:=List.mem_toArray.2 (xM.2 ⟨p,h,rfl⟩)
theorem yo{T:TypeId->Option TI}(F:∀t i,T t=some i->aD P t=some i){o:Oper}{t:TypeId}{s:Array (Nat×Operand)}{i:TI}{out:List D}(l:o.op= .build t s)(x:T t=some i)(u:i.zero.length=i.size)(B:Nat.blt 0 i.size=true)(E:(i.arr.isSome || !i.fs.isEmpty)=true)
  (h:LK (KH i) (i.zero.map λz=>.v (zv z)) (s.toList.map λp=>(p.1,ρ p.2))=some out):Yd P o ρ σ (.agg out):=by
 intro w X η b A;obtain⟨dst,G,y,pos,f,g⟩:=o;simp only at l;subst l;have c:0<i.size:=by simpa [wT]using B
 obtain⟨z,q,m⟩:=D5 (F t i x) u c (by simpa using E);have r:bb w (ay σ X) (i.zero.map λz=>.v (zv z)) z.toList:=by rw[q];have:=KO (w:=w) (O:=ay σ X) (i.zero.map zv);rw[vA]at this;exact this
 obtain⟨a,j,k⟩:=Z1 s.toList η _ z out (λp C=>b p.2 (uW C)) r h;have d:=Rd.agg (w:=w) (O:=ay σ X) out a.toList k.len k.at_;rw[Array.toArray_toList]at d;have n:=run_build w t (s.map λp=>(p.1,η p.2)) a (by rw[m,Array.toList_map];exact j);clear j k h r q m;have e:(execOp η ⟨dst,.build t s,y,pos,f,g⟩)=(do pure (Next.value (←Instr.build t (s.map λp=>(p.1,η p.2)))):Sem Next):=by
  unfold execOp
  rfl
 rw[e];exact dC n (Ex.refl w) d
def Mi(z:List ZV)(k m:Nat):List D:=(List.range (m*k)).map λq=>.v (zv (z.getD (q%k) .bool))
def Fa(k m:Nat)(cs:List D):List (List D):=(List.range m).map λi=>(cs.drop (i*k)).take k
theorem X6{p:Prop}(h:p:=by
 refine⟨by simp[Mi],λq d u h1 h2=>?_⟩;have hq:q<m*k:=by simpa [Mi]using(zE.1 h1).1
 simp only[Mi,qA,xV hq,Option.map_some,xB]at h1;simp[hq,hzl]at h2;subst h1 h2;have hmod:q%k<k:=vM _ hp';have:z.cells[q%k]! =zv (j.zero.getD (q%k) .bool):=by
  have h3:z.cells.toList[q%k]?=(j.zero.map zv)[q%k]?:=by rw[g2]
  have h4:q%k<j.zero.length:=by omega
  simp[h4,hzl,hmod]at h3;simp[hzl,hmod,h4];exact h3
 rw[this];exact .v _):p:=h
theorem MG{T:TypeId->Option TI}(S:∀t i,T t=some i->aD P t=some i){o:Oper}{t e:TypeId}{s:Array (Nat×Operand)}{i j:TI}{ag:Bool}{k K m:Nat}{out:List D}(R:o.op= .buildSlice t m s)(Y:T t=some i)(Z:i.sl=some (e,ag,k,K))(he:T e=some j)(N:j.zero.length=j.size)(hk:j.size=k)(hp:Nat.blt 0 k=true)
  (F:Nat.ble (m*k) 1000=true) (h:LK (λq=>some (q*k,k)) (Mi j.zero k m) (s.toList.map λp=>(p.1,ρ p.2))=some out) (hl:(out.length==m*k)=true):Yd P o ρ σ (.sl k (Fa k m out)):=by
 intro w X η y C;obtain⟨dst,op,ty,pos,aft,g⟩:=o;simp only at R;subst R;have hp':0<k:=by simpa [wT]using hp
 have hm':m*k<=1000:=by simpa [vL]using F
 have H:out.length=m*k:=by simpa using hl
 obtain⟨Q,B,_⟩:=x7 (S t i Y) Z;have b:=(qP B w).2;obtain⟨z,g1,g2⟩:=Pg (S e j he) N (by omega) w;have hzl:z.cells.size=k:=by have:=zM List.length g2;simpa [N,hk]using this
 have A:bb w (ay σ X) (Mi j.zero k m) ((Array.range (m*k)).map (z.cells[· % z.cells.size]!)).toList:=X6;obtain⟨a,M,L⟩:=Z1 s.toList η _ _ out (λp F=>y p.2 (HQ F)) A h;have hal:a.size=m*k:=by have:=L.len;simpa [H]using this
 have n:(Instr.buildSlice t m (s.map λp=>(p.1,η p.2))).run P w= .ok (.slice (some ⟨w.heap.size,0,none⟩) m m) (w.alloc (.cells a e)):=by
  have J:¬m*k > 2 ^ 24:=by omega
  have f:(Array.range 0:Array Nat)= #[]:=rfl;by_cases h0:m*k=0
  .have E:m=0:=by rcases Nat.mul_eq_zero.1 h0 with h|h<;>omega
   subst E;have r:Instr.fill (λq=>some (q*k,k)) #[] (s.toList.map λp=>(p.1,η p.2))=some a:=by simpa [f]using M
   simp[Instr.buildSlice,run_underlying Q,b,Result.andThen,newRow,newObj,Sem.run,f,r]
  .have h0':¬(m=0\/k=0):=λh=>h0 (Nat.mul_eq_zero.2 h);simp only[Instr.buildSlice,Sem.run_bind,run_underlying Q,b,Result.andThen,if_neg J,if_neg h0,g1,Sem.run_pure,Array.toList_map,M,newRow,newObj,Sem.run]
   rfl
 refine dC n ((Ex.refl w).alloc) ?_;have W:=L.ex ((Ex.refl w).alloc (o:=.cells a e));have I:(Fa k m out).length=m:=by simp[Fa]
 have:=Rd.sl (w:=w.alloc (.cells a e)) (O:=ay σ X) k (Fa k m out) (some ⟨w.heap.size,0,none⟩) m (λq c=>a.toList.getD (q*k+c) undef) (by omega) (λx hx=>by
  simp only[Fa,xM,xT]at hx;obtain⟨q,hq,rfl⟩:=hx;have:(q+1)*k<=m*k:=xZ _ hq;rw[vC]at this;simp;omega) (λq x hx=>⟨w.heap.size,0,rfl,QN C (zT _),by simp,λc hc=>by
   have hq:q<m:=by simpa [Fa]using(zE.1 hx).1
   have:(q+1)*k<=m*k:=xZ _ hq;rw[vC]at this;have G:q*k+c<a.size:=by omega
   rw[xD,World.cell?_alloc_new];simp[G]⟩) (λq x hx c d l=>by
   have hq:q<m:=by simpa [Fa]using(zE.1 hx).1
   simp only[Fa,qA,xV hq,Option.map_some,xB]at hx;subst hx;rw[yX]at l;split at l
   .rw[xR]at l;obtain⟨u,V,U⟩:=W.get l;simp only[List.getD_eq_getElem?_getD,V];exact U
   .cases l)
 rw[I]at this;exact this
end
end
section
open Go Go.RowKit Go.Shelf
section
variable {P:Program} {r:Option Nat} {n:Nat} {df:Nat} {ops:Array Oper} {Q:eY} {a:List D} {σ:af} {w:World} {X:Nat->Prop} {ρ:Operand->D}
theorem bC2(s:ByteArray)(j:Nat):s[j]?=(bytes s)[j]?:=by
 unfold bytes;by_cases h:j<s.size
 .have a:j<s.data.toList.length:=by simpa using h
  rw[zD a,getElem?_pos s j h]
  rfl
 .have a:¬j<s.data.toList.length:=by simpa using h
  rw[List.getElem?_eq_none (by omega),getElem?_neg s j h]
theorem ai0{T:TypeId->Option TI}(p:∀t i,T t=some i->aD P t=some i){o:Oper}{t:TypeId}{x a:Operand}{s:ByteArray}{kk:IntKind}{j:Int}{c:UInt8}{i:TI}(b:o.op= .index t x a)(hx:ρ x= .v (.string s))(l:ρ a= .v (.int kk j))(e:T t=some i)(k:i.str=true)
  (m:(bytes s)[j.toNat]?=some c) (y:0<=j):Yd P o ρ σ (.v (.int .u8 c.toNat)):=by
 intro w X η h f;obtain⟨dst,B,A,pos,z,g⟩:=o;simp only at b;subst b;have r:=(h x (by simp[Op.operands])).val hx;have q:=(h a (by simp[Op.operands])).val l;have d:=oX (p t i e) k;refine dC (s:=Instr.index t (η x) (η a)) (u:=.int .u8 c.toNat) ?_ (Ex.refl w) (.v _);rw[r,q];have n:s[j.toNat]?=some c:=by rw[bC2];exact m
 simp only[Instr.index,asIntOf,Sem.run_bind,Sem.run_pure,Result.andThen,run_underlying d,if_pos y,n]
theorem ai4{T:TypeId->Option TI}(k:∀t i,T t=some i->aD P t=some i){o:Oper}{t:TypeId}{x y:Operand}{s:ByteArray}{kk:IntKind}{j:Int}{i:TI}(a:o.op= .slice t x none (some y) none)(hx:ρ x= .v (.string s))(f:ρ y= .v (.int kk j))(c:T t=some i)(e:i.str=true)
  (n:0<=j/\j<=s.size):Yd P o ρ σ (.v (.string (s.extract 0 j.toNat))):=by
 intro w X η h d;obtain⟨dst,r,q,pos,p,g⟩:=o;simp only at a;subst a;have m:=(h x (by simp[Op.operands])).val hx;have l:=(h y (by simp[Op.operands])).val f;have b:=oX (k t i c) e;refine dC (s:=Instr.sliceAt t (η x) ((none:Option Operand).map η) ((some y).map η) ((none:Option Operand).map η)) (u:=.string (s.extract 0 j.toNat)) ?_ (Ex.refl w) (.v _);rw[m];simp[Instr.sliceAt,run_underlying b,Result.andThen,Instr.slice,Instr.sliceBounds,Instr.sliceBound,l,asIntOf,n]
def xG:=@List.mem_of_mem_take
theorem ah9{T:TypeId->Option TI}(M:∀t i,T t=some i->aD P t=some i){o:Oper}{t:TypeId}{x y:Operand}{k:Nat}{xs:List (List D)}{kk:IntKind}{j:Int}{i:TI}{p:Nat×Bool×Nat×Nat}(f:o.op= .slice t x none (some y) none)(hx:ρ x= .sl k xs)(K:ρ y= .v (.int kk j))(E:T t=some i)(G:i.sl=some p)
  (Q:0<=j/\j<=xs.length):Yd P o ρ σ (.sl k (xs.take j.toNat)):=by
 intro w X η b F;obtain⟨dst,V,U,pos,S,g⟩:=o;simp only at f;subst f;obtain⟨e,W,n,R⟩:=p;have m:=b x (by simp[Op.operands]);rw[hx]at m;have N:=(b y (by simp[Op.operands])).val K;obtain⟨C,z,_⟩:=x7 (M t i E) G;have r:=(qP z w).2;obtain⟨a,c,vs,B,l,J,L,H⟩:=m.sl_inv;have d:j<=c:=by omega
 refine dC (s:=Instr.sliceAt t (η x) ((none:Option Operand).map η) ((some y).map η) ((none:Option Operand).map η)) (u:=.slice a j.toNat c) ?_ (Ex.refl w) ?_
 .rw[B];have e0:(if c=0 then a else a.map (·.add (0*n)))=a:=by
   split
   .rfl
   .cases a<;>simp[Addr.add]
  simp[Instr.sliceAt,run_underlying C,Result.andThen,Instr.slice,Instr.sliceBounds,Instr.sliceBound,N,asIntOf,Q.1,d,r]at e0⊢;exact e0
 .have I:(xs.take j.toNat).length=j.toNat:=by simp;omega
  have:=Rd.sl (w:=w) (O:=ay σ X) k (xs.take j.toNat) a c vs (by omega) (λy A=>J y (xG A)) (λq y h=>L q y (by
   rw[yX]at h;split at h
   .exact h
   .cases h)) (λq y h=>H q y (by
   rw[yX]at h;split at h
   .exact h
   .cases h))
  rw[I]at this;exact this
theorem MD{o:Oper}{f:FuncId}{c:Array Operand}(a:o.op= .makeFunc (.func f) #[] c):Yd P o ρ σ (.clo f (c.toList.map ρ)):=by
 intro w X η h t;obtain⟨dst,p,y,pos,b,g⟩:=o;simp only at a;subst a;have:=aW7 (w:=w) (O:=ay σ X) (ρ:=ρ) (η:=η) c.toList (λx hx=>h x (by simp[Op.operands];simpa using hx));have r:=Rd.clo (w:=w) (O:=ay σ X) f _ _ this.len this.at_;refine dC (s:=Instr.makeFunc (.func f) ((#[]:Array Operand).map η) (c.map η)) (w':=w) ?_ (Ex.refl w) r;rw[show(List.map η c.toList).toArray=Array.map η c by apply wJ;simp];simp[Instr.makeFunc]
theorem XY{p:Prop}(h:p:=by
 intro w X η hη hst;obtain⟨dst,op,ty,pos,aft,g⟩:=o;simp only at ho;subst ho;have h1:=(hη x (by simp[Op.operands,Call.operands])).val hx;have h2:=(hη y (by simp[Op.operands,Call.operands])).val hy;simp only[execOp,resolve,invoke,builtin,Sem.run_bind,Sem.run_pure,Result.andThen,vD,List.map_cons,List.map_nil,h1,h2];exact⟨Ex.refl w,.v _⟩):p:=h
theorem al7{o:Oper}{x y:Operand}{t:Array TypeId}{k:IntKind}{p q:Int}(ho:o.op= .call { callee:=.builtin .min,args:=#[x,y],argTypes:=t })(hx:ρ x= .v (.int k p))(hy:ρ y= .v (.int k q)):Yd P o ρ σ (.v (.int k (if q<p then q else p))):=XY
theorem al8{o:Oper}{x y:Operand}{t:Array TypeId}{k:IntKind}{p q:Int}(ho:o.op= .call { callee:=.builtin .max,args:=#[x,y],argTypes:=t })(hx:ρ x= .v (.int k p))(hy:ρ y= .v (.int k q)):Yd P o ρ σ (.v (.int k (if p<q then q else p))):=XY
theorem wp{T:TypeId->Option TI}(H:∀t i,T t=some i->aD P t=some i){o:Oper}{g:List Oper}{x y:Operand}{t e:TypeId}{i j:TI}{ag:Bool}{d m:Nat}{z:ZV}(R:gb ops a o=some true)(G:o.op= .makeSlice t x y)(hx:gV a x= .v (.int .i64 m))(N:gV a y= .v (.int .i64 m))
  (U:T t=some i) (W:i.sl=some (e,ag,1,d)) (Y:T e=some j) (E:j.zero=[z]) (F:j.size=1) (u:d*m<=281474976710656) (hm:m<=1000000000)
  (k:∀b,bP P r n df ops Q g (aF a o.dst (.v (.slice (some ⟨b,0,none⟩) m m))) ((b,.cells e (List.replicate m (.v (zv z))))::σ)):bP P r n df ops Q (o::g) a σ:=by
 refine oM R (by rw[G];rfl) λw X J c=>?_;have h1:=(c.fr.eval x).val hx;have Z:=(c.fr.eval y).val N;obtain⟨S,V,B⟩:=x7 (H t i U) W;obtain⟨f,l,D,M,L,K⟩:=ru (H e j Y) (by rw[E,F];rfl) (by omega);have A:l.cells= #[zv z]:=by apply wJ;rw[K,E];rfl
 have C:f.bytes=d:=by rw[←B];simp[Program.bytesOf,D]
 have p:=run_make (P:=P) w t e f l S D M .i64 .i64 m m (by omega) (Int.le_refl _) (by rw[C];have h:((d*m:Nat):Int)<=281474976710656:=(by omega);rwa [Int.natCast_mul]at h) (by omega);have s:(madeCells l.cells ((m:Int).toNat*f.size)).toList=List.replicate m (zv z):=by
  rw[A,L,F,Nat.mul_one,Int.toNat_natCast];apply xY;intro q;by_cases hq:q<m
  .simp[madeCells,hq,Nat.mod_one]
  .simp[madeCells,hq]
 have ee:(execOp J.eval o).run P w= .ok (.value (.slice (some ⟨w.heap.size,0,none⟩) m m)) (w.alloc (.cells (madeCells l.cells ((m:Int).toNat*f.size)) e)):=by
  simp only[execOp,G,Sem.run_bind,h1,Z,p,Result.andThen,Sem.run_pure,Int.toNat_natCast]
 rw[ee];obtain⟨g1,g2,I⟩:=c.st.new (.cells (madeCells l.cells ((m:Int).toNat*f.size)) e) (.cells e (List.replicate m (.v (zv z)))) ⟨_,by rw[Array.toArray_toList],by rw[s];have:=KO (w:=w) (O:=ay σ X) (List.replicate m (zv z));rw[List.map_replicate]at this;exact this⟩;exact⟨_,_,g2,(⟨c.fr.keep (by simp) I (λb u _=>((Ex.refl w).alloc).block b u),g1,c.df.keep (by simp) I (λb u _=>((Ex.refl w).alloc).block b u)⟩:St _ X df a _ J).put (.v _) o.dst,k _⟩
def Xj:Op->Bool
 |.store _ _ _=>true
 |.alloc _=>true
 |.makeSlice _ _ _=>true
 |.makeMap _ _=>true
 |.mapUpdate _ _ _ _=>true
 |.mapEntry _ _ _=>true
 |.entryStore _ _ _ _=>true
 |.call { callee:=.builtin .append,.. }=>true
 |.call { callee:=.builtin .copy,.. }=>true
 |_=>false
def DE:List Oper->Option Nat
 |[]=>none
 |o::l=>bif Xj o.op then some 0 else(match DE l with|some m=>some (m+1)|none=>none)
end
end
section
open Go Go.RowKit Go.Shelf
section
variable {P:Program} {r:Option Nat} {n:Nat} {df:Nat} {ops:Array Oper} {Q:eY} {a:List D} {σ:af} {w:World} {X:Nat->Prop} {ρ:Operand->D}
theorem aL0{τ:af}(h:σ.Perm τ)(b:Nat):ay σ X b↔ay τ X b:=by
 have:b∈aQ σ↔b∈aQ τ:=(h.map Prod.fst).mem_iff;simp only[ay,this]
theorem aU.perm{τ:af}(h:σ.Perm τ)(s:aU w X σ):aU w X τ:=
 ⟨(h.map Prod.fst).nodup_iff.1 s.nodup,λb k m=>by
  obtain⟨e,o,d,c⟩:=s.at_ b k (h.mem_iff.2 m);exact⟨e,o,d,r9 (zT _) (λx _ n=>by rw[←aL0 h];exact n) (λ_ _ _=>rfl) c⟩,s.xlt,s.gok.mono (λx a=>(aL0 h x).2 a)⟩
theorem St.perm{τ:af}{fr:Act}(h:σ.Perm τ)(s:St w X df a σ fr):St w X df a τ fr:=
 ⟨s.fr.keep (zT _) (λx _ n=>by rw[←aL0 h];exact n) (λ_ _ _=>rfl),s.st.perm h,s.df.keep (zT _) (λx _ n=>by rw[←aL0 h];exact n) (λ_ _ _=>rfl)⟩
theorem Pw.perm{τ:af}(h:σ.Perm τ){e:Exit}{fr:Act}{w':World}(p:Pw w X df τ Q e fr w'):Pw w X df σ Q e fr w':=by
 obtain⟨d,s,c,b,a⟩:=p;have k:∀x,x∈aQ τ->x∈aQ σ:=λx hx=>(h.map Prod.fst).mem_iff.2 hx;exact⟨d,s,c,b,⟨a.keep.mono (λx _ hx=>k x hx),λx hx=>(a.new x hx).imp (k x) id⟩⟩
theorem Ji{l:List Oper}{τ:af}(h:σ.Perm τ)(k:bP P r n df ops Q l a τ):bP P r n df ops Q l a σ:=
 ⟨λw X f s=>JM (λ_ _ _ p=>Pw.perm h p) _ _ _ (k.run w X f (s.perm h))⟩
end
end
section
open Go Go.RowKit Go.Shelf
section
variable {P:Program} {r:Option Nat} {n:Nat} {df:Nat} {ops:Array Oper} {Q:eY} {a:List D} {σ:af} {w:World} {X:Nat->Prop} {ρ:Operand->D}
def Le(d d':D):Prop:=∀(w:World)(O:Nat->Prop)(v:Value),Rd w O d v->Rd w O d' v
inductive fN:List D->List D->Prop
 |nil:fN [] []
 |cons {d d':D} {ds ds':List D} (h:Le d d') (t:fN ds ds'):fN (d::ds) (d'::ds')
theorem Le.refl(d:D):Le d d:=λ_ _ _ h=>h
theorem gp(k:Nat):Le (.v (.slice none 0 0)) (.sl k []):=λw O v h=>by
 have:=h.val rfl;subst this;exact .sl k [] none 0 (λ_ _=>undef) (zT _) (by simp) (λi x hx=>by simp at hx) (λi x hx=>by simp at hx)
theorem fN.rd{s a:List D}(h:fN s a){O:Nat->Prop}:∀{vs:List Value},bb w O s vs->bb w O a vs:=by
 induction h with
 |nil=>exact λh=>h
 |cons h t i=>
  intro vs b
  cases vs with
  |nil=>have:=b.len;simp at this
  |cons v vs=>
   exact .cons (h _ _ _ (b.at_ 0 _ _ rfl rfl)) (i ⟨by have:=b.len;simpa using this,λj d u e c=>b.at_ (j+1) d u (by simpa using e) (by simpa using c)⟩)
theorem qg{s d:List D}(h:fN s d):Le (.agg s) (.agg d):=λw O v a=>by
 obtain⟨vs,rfl,b⟩:=a.agg_inv;have:=h.rd b;exact .agg _ _ this.len this.at_
theorem YP{s d:List D}(h:fN s d):Le (.tup s) (.tup d):=λw O v a=>by
 obtain⟨vs,rfl,b⟩:=a.tup_inv;have:=h.rd b;exact .tup _ _ this.len this.at_
theorem AW{n:Func}{i1 i2 i3 i4 i5:Tmp}(h:n.results= #[.tmp i1,.tmp i2,.tmp i3,.tmp i4,.tmp i5]) :
  dD P n a σ (.tup [a.getD i1 (.v undef),a.getD i2 (.v undef),a.getD i3 (.v undef),a.getD i4 (.v undef),a.getD i5 (.v undef)]):=λw X t f _=>by
 refine⟨.tuple #[t.getD i1 undef,t.getD i2 undef,t.getD i3 undef,t.getD i4 undef,t.getD i5 undef],by simp[results,h],?_⟩;have:=bb.cons (jR f i1) (bb.cons (jR f i2) (bb.cons (jR f i3) (bb.cons (jR f i4) (bb.cons (jR f i5) bb.nil))));exact .tup _ _ this.len this.at_
end
end
section
open Go Go.RowKit Go.Shelf
abbrev aM:=List (Nat×D)
def gn:aM->Nat->Option D
 |[],_=>none
 |(i,d)::f,t=>bif Nat.beq i t then some d else gn f t
def aK(f:aM):Operand->D
 |.tmp t=>match gn f t with|some d=>d|none=>.any
 |.const v=>.v v
 |.global g=>.v (.pointer (some ⟨g,0,none⟩))
 |.func f=>.v (.func (.func f) #[] #[])
structure Sp(N:Nat)(a:List D)(f:aM):Prop where
 len:a.length=N
 at_:∀i d,gn f i=some d->d= .any\/a[i]?=some d
section
variable {N:Nat} {a:List D} {f:aM}
theorem Sp.le(h:Sp N a f)(x:Operand):Le (gV a x) (aK f x):=by
 cases x with
 |tmp t=>
  simp only[aK]
  cases l:gn f t with
  |none=>exact λ_ _ v _=>.any v
  |some d=>
   rcases h.at_ t d l with rfl|b
   .exact λ_ _ v _=>.any v
   .simp only[gV,List.getD_eq_getElem?_getD,b];exact Le.refl _
 |_=>exact Le.refl _
theorem Sp.eq(h:Sp N a f){x:Operand}{d:D}(e:aK f x=d)(b:d ≠ .any):gV a x=d:=by
 cases x with
 |tmp t=>
  simp only[aK]at e
  cases l:gn f t with
  |none=>rw[l]at e;exact absurd e.symm b
  |some i=>
   rw[l]at e;simp only at e;subst e;rcases h.at_ t i l with g|c
   .exact absurd g b
   .simp[gV,List.getD_eq_getElem?_getD,c]
 |_=>exact e
theorem Yd.le{P:Program}{o:Oper}{ρ ρ':Operand->D}{σ:af}{d:D}(h:∀x,Le (ρ x) (ρ' x))(y:Yd P o ρ' σ d):Yd P o ρ σ d:=
 λw X η a s=>y w X η (λx hx=>h x _ _ _ (a x hx)) s
def aR(N:Nat)(dst:Option Tmp)(d:D)(f:aM)(K:aM->Prop):Prop:=
 match dst with
 |none=>K f
 |some i=>bif Nat.blt i N then K ((i,d)::f)else False
def yH:=@Nat.eq_of_beq_eq_true
theorem fE{dst:Option Tmp}{d:D}{K:aM->Prop}(h:aR N dst d f K)(s:Sp N a f):∃m,Sp N (aF a dst d) m/\K m:=by
 cases dst with
 |none=>exact⟨f,s,h⟩
 |some i=>
  simp only[aR]at h
  cases g:Nat.blt i N with
  |false=>rw[g]at h;exact h.elim
  |true=>
   rw[g]at h;rw[wT]at g;refine⟨_,⟨by simp[aF,s.len],λj n b=>?_⟩,h⟩;simp only[gn]at b
   cases c:Nat.beq i j with
   |true=>
    rw[c]at b;simp only[cond_true,xB]at b;have:=yH c;subst this b;exact .inr (by simp[aF,s.len,g])
   |false=>
    rw[c]at b;have k:i≠j:=λe=>by subst e;simp at c
    rcases s.at_ j n b with l|l
    .exact .inl l
    .exact .inr (by simp[aF,xP,k,l])
end
def bS(d:D)(K:D->Prop):Prop:=match d with
 |.v x=>K (.v x)
 |.any=>K .any
 |.sl k s=>K (.sl k s)
 |.ro c=>K (.ro c)
 |.agg c=>K (.agg c)
 |.tup a=>K (.tup a)
 |.clo f c=>K (.clo f c)
 |.gl g=>K (.gl g)
 |.ifc t d=>K (.ifc t d)
 |.mth n d=>K (.mth n d)
theorem lx{d:D}{K:D->Prop}(h:bS d K):K d:=by cases d<;>exact h
def oI:List D->(List D->Prop)->Prop
 |[],K=>K []
 |d::s,K=>bS d λd=>oI s λs=>K (d::s)
theorem th:∀{l:List D}{K:List D->Prop},oI l K->K l
 |[],_,h=>h
 |d::s,K,h=>th (K:=λs=>K (d::s)) (lx (K:=λd=>oI s λs=>K (d::s)) h)
def Zp:List (List D)->(List (List D)->Prop)->Prop
 |[],K=>K []
 |x::s,K=>oI x λx=>Zp s λs=>K (x::s)
theorem aU4:∀{l:List (List D)}{K:List (List D)->Prop},Zp l K->K l
 |[],_,h=>h
 |x::s,K,h=>aU4 (K:=λs=>K (x::s)) (th (K:=λx=>Zp s λs=>K (x::s)) h)
def nJ:Nat->List D->(List D->Prop)->Prop
 |0,l,K=>K l
 |_+1,[],K=>K []
 |n+1,_::l,K=>nJ n l K
theorem aL8:∀{n:Nat}{l:List D}{K:List D->Prop},nJ n l K->K (l.drop n)
 |0,_,_,h=>h
 |_+1,[],_,h=>h
 |n+1,_::l,K,h=>aL8 (n:=n) (l:=l) (K:=K) h
def LL(p:Nat->Option (Nat×Nat)):List (Nat×D)->List D->(List D->Prop)->Prop->Prop
 |[],c,K,_=>K c
 |(i,d)::r,c,K,E=>match p i with
  |none=>E
  |some (o,size)=>bif PK d&&((gF d).length==size)&&Nat.ble (o+size) c.length then oI (ft c o (gF d)) λa=>LL p r a K E else E
theorem ba7{p:Nat->Option (Nat×Nat)}{K:List D->Prop}{E:Prop}:∀{s:List (Nat×D)}{c:List D},LL p s c K E->(∃o,LK p c s=some o/\K o)\/E
 |[],c,h=>.inl ⟨c,rfl,h⟩
 |(i,d)::s,c,h=>by
  simp only[LL]at h;simp only[LK];split at h
  .exact .inr h
  .rename_i f size e
   cases a:(PK d&&((gF d).length==size)&&Nat.ble (f+size) c.length)with
   |false=>rw[a]at h;exact .inr h
   |true=>
    rw[a]at h;simp only[cond_true]at h;simp only[e,a,cond_true];exact ba7 (th (K:=λb=>LL p s b K E) h)
def S6(a:Bool)(n:Nat)(cs:List D)(K:D->Prop):Prop:=
 match a with
 |true=>bif Nat.beq n cs.length then K (.agg cs)else oI (cs.take n) λl=>K (.agg l)
 |false=>match cs with|c::_=>bif Nat.beq n 1 then bS c K else False|[]=>False
def yM:=@List.take_length
theorem B4{a:Bool}{n:Nat}{cs:List D}{K:D->Prop}(h:S6 a n cs K):K (m4 a (cs.take n)):=by
 unfold S6 at h
 cases a with
 |true=>
  simp only at h
  cases b:Nat.beq n cs.length with
  |true=>
   rw[b]at h;have:=yH b;rw[this,yM];exact h
  |false=>rw[b]at h;exact th (K:=λl=>K (.agg l)) h
 |false=>
  cases cs with
  |nil=>exact h.elim
  |cons c cs=>
   simp only at h
   cases b:Nat.beq n 1 with
   |false=>rw[b]at h;exact h.elim
   |true=>rw[b]at h;have:=yH b;subst this;exact lx h
structure Br(t:Bool)(A B:Prop):Prop where
 yes:t=true->A
 no:t=false->B
structure Bc(t:Bool)(A B C:Prop):Prop where
 run:Br t A B\/C
structure Bx(A B:Prop):Prop where
 run:A\/B
structure Sd(s A:Prop):Prop where
 s:s
 k:A
structure Ck(b:Bool)(A:Prop):Prop where
 s:b=true
 k:A
structure Ix(xs:List (List D))(j:Int)(K:List D->Prop):Prop where
 run:0<=j/\∃cs,xs[j.toNat]?=some cs/\K cs
structure Ld(P:Program)(o:Oper)(ρ:Operand->D)(σ:af)(b off:Nat)(ag:Bool)(sz:Nat)(K:D->Prop):Prop where
 run:(∃(j:Nat)(tb:TypeId)(cs:List D),σ[j]?=some (b,.cells tb cs)/\off+sz<=cs.length/\K (m4 ag ((cs.drop off).take sz)))\/∃d,Yd P o ρ σ d/\K d
structure Ot(P:Program)(o:Oper)(ρ:Operand->D)(σ:af)(K:D->Prop):Prop where
 run:∃d,Yd P o ρ σ d/\K d
structure gK(P:Program)(f:FuncId)(args:List D)(σ:af)(d:D):Prop where
 ent:Enters P f
 run:∀(w:World)(X:Nat->Prop)(vs:List Value),bb w (ay σ X) args vs->aU w X σ ->
  Calls P f vs.toArray w λe w'=>∃u,e= .returned u/\Rd w' (ay σ X) d u/\Ex w w'
theorem APure.pk{P:Program}{f:FuncId}{args:List D}{σ:af}{d:D}(h:APure P f args d):gK P f args σ d:=
 ⟨h.ent,λw X vs v s=>h.run w _ vs v s.gok⟩
theorem Q0{P:Program}{σ:af}{o:Oper}{ρ:Operand->D}{f:FuncId}{s:List D}{d:D}(h:jL o.op ρ=some (f,s))(p:gK P f s σ d):Yd P o ρ σ d:=by
 intro w X η a t;obtain⟨vs,c,b⟩:=nU (P:=P) (w:=w) h p.ent a;rw[b];exact⟨rfl,(p.run w X vs c t).mono λe k⟨u,j,i,g⟩=>⟨u,j,g,i⟩⟩
structure Cp(P:Program)(f:FuncId)(args:List D)(σ:af)(K:D->Prop):Prop where
 run:∃d,gK P f args σ d/\K d
def AD:BinOp->Value->Bool
 |.add,_=>true|.sub,_=>true|.mul,_=>true|.rem,_=>true|.quo,_=>true
 |_,_=>false
theorem AC{b:BinOp}{x y u:Value}{s:Prop}(h:tM b x y=some (s,u))(a:AD b x=false):s:=by
 unfold tM at h;split at h<;>cases h<;>first|trivial|cases a
def iE(P:Program)(T:TypeId->Option TI)(o:Oper)(f:aM)(σ:af)(K:D->Prop):Prop:=
 match o.op with
 |.move x=>bS (aK f x) K
 |.assign x=>bS (aK f x) K
 |.pick c x y=>match aK f c with
  |.v (.bool t)=>Br t (bS (aK f x) K) (bS (aK f y) K)
  |_=>Ot P o (aK f) σ (λd=>bS d K)
 |.box _ x=>match aK f x with
  |.any=>Ot P o (aK f) σ (λd=>bS d K)
  |.agg h=>K (.ro h)
  |.v (.agg vs)=>oI (vs.toList.map .v) λl=>K (.ro l)
  |d=>K (.ro [d])
 |.nilCheck x=>match aK f x with
  |.ro h=>K (.ro h)
  |.clo g h=>K (.clo g h)
  |.v (.pointer (some p))=>K (.v (.pointer (some p)))
  |.v (.func (.func g) u v)=>K (.v (.func (.func g) u v))
  |_=>Ot P o (aK f) σ (λd=>bS d K)
 |.binOp b _ x y _=>match aK f x with
  |.v u=>match aK f y with
   |.v v=>match tM b u v with
    |some (s,r)=>bif AD b u then Bx (Sd s (K (.v r))) (Ot P o (aK f) σ (λd=>bS d K))else K (.v r)
    |none=>Ot P o (aK f) σ (λd=>bS d K)
   |_=>Ot P o (aK f) σ (λd=>bS d K)
  |_=>Ot P o (aK f) σ (λd=>bS d K)
 |.unOp b _ x=>match aK f x with
  |.v u=>match ZM b u with
   |some (s,r)=>(match b with|.not=>Sd s (K (.v r))|_=>Sd s (K (.v r)))
   |none=>Ot P o (aK f) σ (λd=>bS d K)
  |_=>Ot P o (aK f) σ (λd=>bS d K)
 |.load t x=>match T t with
  |none=>Ot P o (aK f) σ (λd=>bS d K)
  |some i=>match aK f x with
   |.ro h=>bif Nat.ble i.size h.length&&(i.agg||i.size==1)then S6 i.agg i.size h K else False
   |.v (.pointer (some ⟨b,a,none⟩))=>bif i.agg||i.size==1 then Ld P o (aK f) σ b a i.agg i.size (λd=>bS d K)else False
   |_=>Ot P o (aK f) σ (λd=>bS d K)
 |.fieldAddr s x F=>match T s with
  |none=>Ot P o (aK f) σ (λd=>bS d K)
  |some i=>match i.fs[F]? with
   |none=>Ot P o (aK f) σ (λd=>bS d K)
   |some (a,_,n)=>match aK f x with
    |.ro h=>bif Nat.ble a h.length && !(n==0)then nJ a h λl=>K (.ro l)else False
    |.v (.pointer (some ⟨b,o,none⟩))=>bif !(n==0)then K (.v (.pointer (some ⟨b,o+a,none⟩)))else False
    |_=>Ot P o (aK f) σ (λd=>bS d K)
 |.field s x F=>match T s with
  |none=>Ot P o (aK f) σ (λd=>bS d K)
  |some i=>match i.fs[F]? with
   |none=>Ot P o (aK f) σ (λd=>bS d K)
   |some (a,H,n)=>match aK f x with
    |.agg h=>bif Nat.ble (a+n) h.length&&(H||n==1)then nJ a h λl=>S6 H n l K else False
    |_=>Ot P o (aK f) σ (λd=>bS d K)
 |.extract x i=>match aK f x with
  |.tup B=>match B[i]? with|some d=>bS d K|none=>Ot P o (aK f) σ (λd=>bS d K)
  |.v (.tuple vs)=>match vs[i]? with|some d=>K (.v d)|none=>Ot P o (aK f) σ (λd=>bS d K)
  |_=>Ot P o (aK f) σ (λd=>bS d K)
 |.indexAddr t x J=>match T t with
  |none=>Ot P o (aK f) σ (λd=>bS d K)
  |some i=>match aK f J with
   |.v (.int L j)=>match aK f x with
    |.sl k C=>match i.sl with
     |some (_,_,I,_)=>bif Nat.beq I k then Ix C j (λh=>K (.ro h))else False
     |none=>Ot P o (aK f) σ (λd=>bS d K)
    |.v (.slice (some ⟨b,a,none⟩) n _)=>match i.sl with
     |some (_,_,k,_)=>Sd (0<=j/\j<n) (K (.v (.pointer (some ⟨b,a+j.toNat*k,none⟩))))
     |none=>Ot P o (aK f) σ (λd=>bS d K)
    |.ro h=>match j with
     |.ofNat m=>match i.arr with
      |some (n,_,k)=>bif Nat.blt m n&&Nat.ble (m*k) h.length then nJ (m*k) h λl=>K (.ro l)else False
      |none=>Ot P o (aK f) σ (λd=>bS d K)
     |_=>Ot P o (aK f) σ (λd=>bS d K)
    |_=>Ot P o (aK f) σ (λd=>bS d K)
   |_=>Ot P o (aK f) σ (λd=>bS d K)
 |.build t E=>match T t with
  |none=>Ot P o (aK f) σ (λd=>bS d K)
  |some i=>bif Nat.beq i.zero.length i.size&&Nat.blt 0 i.size&&(i.arr.isSome || !i.fs.isEmpty)then
    (oI (i.zero.map λz=>.v (zv z)) λz=>LL (KH i) (E.toList.map λp=>(p.1,aK f p.2)) z (λl=>K (.agg l)) (Ot P o (aK f) σ (λd=>bS d K)))else False
 |.buildSlice t m E=>match T t with
  |none=>Ot P o (aK f) σ (λd=>bS d K)
  |some i=>match i.sl with
   |none=>Ot P o (aK f) σ (λd=>bS d K)
   |some (e,_,k,_)=>match T e with
    |none=>Ot P o (aK f) σ (λd=>bS d K)
    |some j=>bif Nat.beq j.zero.length j.size&&Nat.beq j.size k&&Nat.blt 0 k&&Nat.ble (m*k) 1000 then
      (oI (Mi j.zero k m) λz=>LL (λq=>some (q*k,k)) (E.toList.map λp=>(p.1,aK f p.2)) z (λA=>bif A.length==m*k then Zp (Fa k m A) λl=>K (.sl k l)else False) (Ot P o (aK f) σ (λd=>bS d K)))else False
 |.makeFunc (.func g) w G=>bif w.toList.isEmpty then oI (G.toList.map (aK f)) λl=>K (.clo g l)else False
 |.call c=>match c.callee with
  |.builtin .len=>match c.args.toList,c.argTypes.toList with
   |[x],[t]=>match T t with
    |none=>Ot P o (aK f) σ (λd=>bS d K)
    |some i=>match aK f x with
     |.sl _ C=>bif i.sl.isSome then K (.v (.int .i64 C.length))else False
     |.v (.slice _ n _)=>bif i.sl.isSome then K (.v (.int .i64 n))else False
     |.v (.string s)=>bif i.str then K (.v (.int .i64 s.size))else False
     |_=>Ot P o (aK f) σ (λd=>bS d K)
   |_,_=>Ot P o (aK f) σ (λd=>bS d K)
  |.value _=>match jL o.op (aK f)with
   |some (g,B)=>oI B λB=>Cp P g B σ λd=>bS d K
   |none=>Ot P o (aK f) σ (λd=>bS d K)
  |_=>Ot P o (aK f) σ (λd=>bS d K)
 |_=>Ot P o (aK f) σ (λd=>bS d K)
section
variable {P:Program} {N:Nat} {σ:af} {a:List D} {f:aM} {T:TypeId->Option TI}
theorem g7{c:Bool}{A:Prop}(h:bif c then A else False):c=true/\A:=by cases c;exact h.elim;exact⟨rfl,h⟩
theorem cl0{p:Prop}(h:p:=by simp only[ho,hJ,EI,hc,e2,e3,hi,hx,EH,h1,cond_true];try rfl):p:=h
theorem sT{p:Prop}(h:p:=by
 rename_i hx;exact go (by simp only[ho,hJ,hx,PN];try rfl) trivial h):p:=h
theorem Mj(O:∀t i,T t=some i->aD P t=some i){o:Oper}{K:D->Prop}(h:iE P T o f σ K):∃d,Yd P o (aK f) σ d/\K d:=by
 have go:∀{s d},hJ T o.op (aK f)=some (s,d)->s->K d->∃d,Yd P o (aK f) σ d/\K d:=λh1 w C=>⟨_,MI O h1 w,C⟩
 have a:Ot P o (aK f) σ (λd=>bS d K)->∃d,Yd P o (aK f) σ d/\K d:=λh=>let ⟨d,h1,w⟩:=h.run;⟨d,h1,lx w⟩;unfold iE at h;split at h
 .rename_i x ho;exact go (by simp only[ho,hJ];try rfl) trivial (lx h)
 .rename_i x ho;exact go (by simp only[ho,hJ];try rfl) trivial (lx h)
 .rename_i c x y ho;split at h
  .rename_i t Y
   cases t with
   |true=>exact go (by simp only[ho,hJ,Y,tk];try rfl) trivial (lx (h.yes rfl))
   |false=>exact go (by simp only[ho,hJ,Y,tk];try rfl) trivial (lx (h.no rfl))
  .exact a h
 .rename_i t x ho;split at h
  .exact a h
  .rename_i F hx;exact go (by simp only[ho,hJ,hx,xc];try rfl) trivial h
  .rename_i vs hx;have:=th (K:=λl=>K (.ro l)) h;exact go (by simp only[ho,hJ,hx,xc];try rfl) trivial this
  .rename_i d h1 w C;have hc:gF (aK f x)=[aK f x]:=by
    unfold gF;split
    .rename_i F e;exact absurd e (w F)
    .rename_i vs e;exact absurd e (C vs)
    .rfl
   have L:xc (aK f x)=some (True,.ro (gF (aK f x))):=by
    unfold xc;split
    .rename_i e;exact absurd e h1
    .rfl
   exact go (by simp only[ho,hJ];exact L) trivial (by rw[hc];exact h)
 .rename_i x ho;split at h
  .exact sT
  .exact sT
  .exact sT
  .exact sT
  .exact a h
 .rename_i b t x y t' ho;split at h
  .rename_i u U;split at h
   .rename_i v hv;split at h
    .rename_i s r R;have L:hJ T o.op (aK f)=some (s,.v r):=by simp only[ho,hJ,U,hv,PS,R,Option.map_some]
     cases A:AD b u with
     |true=>
      rw[A]at h;rcases h.run with h|h
      .exact go L h.s h.k
      .exact a h
     |false=>rw[A]at h;exact go L (AC R A) h
    .exact a h
   .exact a h
  .exact a h
 .rename_i b t x ho;split at h
  .rename_i u U;split at h
   .rename_i s r R;have L:hJ T o.op (aK f)=some (s,.v r):=by simp only[ho,hJ,U,aUn,R,Option.map_some]
    split at h<;>exact go L h.s h.k
   .exact a h
  .exact a h
 .rename_i t x ho;split at h
  .exact a h
  .rename_i i hi;split at h
   .rename_i F hx;obtain⟨h1,w⟩:=g7 h;exact go (by simp only[ho,hJ,hx,hi,tl,h1,cond_true];try rfl) trivial (B4 w)
   .rename_i b G hx;obtain⟨h1,w⟩:=g7 h;rcases w.run with⟨j,tb,F,I,H,W⟩|⟨d,I,H⟩
    .exact⟨_,MB O ho hi hx I H (by simpa using h1),lx W⟩
    .exact⟨d,I,lx H⟩
   .exact a h
 .rename_i s x fl ho;split at h
  .exact a h
  .rename_i i hi;split at h
   .exact a h
   .rename_i G M n E;split at h
    .rename_i F hx;obtain⟨h1,w⟩:=g7 h;exact go (by simp only[ho,hJ,hx,hi,J2,E,h1,cond_true];try rfl) trivial (aL8 (K:=λl=>K (.ro l)) w)
    .rename_i b oo hx;obtain⟨h1,w⟩:=g7 h;exact go (by simp only[ho,hJ,hx,hi,J2,E,h1,cond_true];try rfl) trivial w
    .exact a h
 .rename_i s x fl ho;split at h
  .exact a h
  .rename_i i hi;split at h
   .exact a h
   .rename_i G M n E;split at h
    .rename_i F hx;obtain⟨h1,w⟩:=g7 h;exact go (by simp only[ho,hJ,hx,hi,iK,E,h1,cond_true];try rfl) trivial (B4 (aL8 (K:=λl=>S6 M n l K) w))
    .exact a h
 .rename_i x i ho;split at h
  .rename_i X hx;split at h
   .rename_i d V;exact go (by simp only[ho,hJ,hx,J5,V];try rfl) trivial (lx h)
   .exact a h
  .rename_i vs hx;split at h
   .rename_i d V;exact go (by simp only[ho,hJ,hx,J5,V];try rfl) trivial h
   .exact a h
  .exact a h
 .rename_i t x ix ho;split at h
  .exact a h
  .rename_i i hi;split at h
   .rename_i kk j N;split at h
    .rename_i k Z hx;split at h
     .rename_i e M k' Q A;obtain⟨h1,w⟩:=g7 h;obtain⟨I,F,H,W⟩:=w.run;exact⟨_,yn O ho hx N hi A (yH h1) H I,W⟩
     .exact a h
    .rename_i b G n c hx;split at h
     .rename_i e M k Q A;exact go (by simp only[ho,hJ,hx,hi,N,w3,A];try rfl) h.s h.k
     .exact a h
    .rename_i F hx;split at h
     .rename_i m;split at h
      .rename_i n M k A;obtain⟨h1,w⟩:=g7 h;exact go (by simp only[ho,hJ,hx,hi,N,w3,A,h1,cond_true];try rfl) trivial (aL8 (K:=λl=>K (.ro l)) w)
      .exact a h
     .exact a h
    .exact a h
   .exact a h
 .rename_i t S ho;split at h
  .exact a h
  .rename_i i hi;obtain⟨h1,w⟩:=g7 h;simp only[zJ]at h1;rcases ba7 (th (K:=λz=>LL (KH i) (S.toList.map λp=>(p.1,aK f p.2)) z (λl=>K (.agg l)) (Ot P o (aK f) σ (λd=>bS d K))) w)with⟨B,E,C⟩|C
   .exact⟨_,yo O ho hi (yH h1.1.1) h1.1.2 h1.2 E,C⟩
   .exact a C
 .rename_i t m S ho;split at h
  .exact a h
  .rename_i i hi;split at h
   .exact a h
   .rename_i e M k Q A;split at h
    .exact a h
    .rename_i j N;obtain⟨h1,w⟩:=g7 h;simp only[zJ]at h1;rcases ba7 (th (K:=λz=>LL (λq=>some (q*k,k)) (S.toList.map λp=>(p.1,aK f p.2)) z (λB=>bif B.length==m*k then Zp (Fa k m B) λl=>K (.sl k l)else False) (Ot P o (aK f) σ (λd=>bS d K))) w)with⟨B,E,w⟩|w
     .obtain⟨C,h4⟩:=g7 w;exact⟨_,MG O ho hi A N (yH h1.1.1.1) (yH h1.1.1.2) h1.1.2 h1.2 E C,aU4 (K:=λl=>K (.sl k l)) h4⟩
     .exact a w
 .rename_i g J cap ho
  obtain⟨h1,w⟩:=g7 h;have h0:J= #[]:=by simpa using h1
  subst h0;exact⟨_,MD ho,th (K:=λl=>K (.clo g l)) w⟩
 .rename_i c ho;split at h
  .rename_i hc;split at h
   .rename_i x t e2 e3;split at h
    .exact a h
    .rename_i i hi;split at h
     .rename_i k Z hx;obtain⟨h1,w⟩:=g7 h;exact go cl0 trivial w
     .rename_i ad n cc hx;obtain⟨h1,w⟩:=g7 h;exact go cl0 trivial w
     .rename_i s hx;obtain⟨h1,w⟩:=g7 h;exact go cl0 trivial w
     .exact a h
   .exact a h
  .split at h
   .rename_i g X hc;obtain⟨d,I,H⟩:=(th (K:=λX=>Cp P g X σ λd=>bS d K) h).run;exact⟨d,Q0 hc I,lx H⟩
   .exact a h
  .exact a h
 .exact a h
end
end
end Go.Proofs.YtilnpcolgcmofaaGreatDoor
