/- A part of the proof. -/
import Derived.Test.YtilnpcolgcmofaaGreatDoorC06
set_option maxRecDepth 100000
set_option maxHeartbeats 20000000
set_option linter.all false
namespace Go.Proofs.YtilnpcolgcmofaaGreatDoor
open Tryz
section
open Go Go.RowKit Go.Shelf
section
variable {P:Program} {σ τ:ae} {T:TypeId->Option TI} {w:World}
variable{O:Nat->Prop}{d:D}{u:Value}
def Rd.stable(h:Rd w O d u):Rd w (λ_=>False) d u:=
 h.keep (zT _) (λ_ _ _ h=>h) (λ_ _ _=>rfl)
def bj.stable{d:List D}{u:List Value}(h:bj w O d u):bj w (λ_=>False) d u:=
 h.keep (zT _) (λ_ _ _ h=>h) (λ_ _ _=>rfl)
structure Pk(σ:ae)(d d':D):Prop where
 run:∀(w:World)(X:Nat->Prop)(u:Value),aW w X σ->Rd w (ay σ X) d u->Rd w (λ_=>False) d' u
inductive kf(σ:ae):List D->List D->Prop
 |nil:kf σ [] []
 |cons {d d':D} {ds ds':List D} (h:Pk σ d d') (t:kf σ ds ds'):kf σ (d::ds) (d'::ds')
def Pk.same(d:D):Pk σ d d:=⟨λ_ _ _ _ h=>h.stable⟩
def Pk.le{d':D}(h:Le d d'):Pk σ d d':=⟨λ_ _ _ _ k=>h _ _ _ k.stable⟩
variable{e:TypeId}{k:Nat}{xs:List (List D)}{v:Value}
def Pk.row{s:ae}(h:ab e k xs v s)(p:σ.Perm (s++τ)):Pk σ (.v v) (.sl k xs):=
 ⟨λw X u a r=>by have:=r.val rfl;subst this;exact(LB h (a.perm p)).stable⟩
def kf.rd{e a:List D}(h:kf σ e a){X:Nat->Prop}(f:aW w X σ):∀{s:List Value},bj w (ay σ X) e s->bj w (λ_=>False) a s:=by
 induction h with
 |nil=>exact λh=>⟨h.len,λj d u c=>by simp at c⟩
 |cons h t i=>
  intro vs b
  cases vs with
  |nil=>have:=b.len;simp at this
  |cons v vs=>
   exact .cons (h.run _ _ _ f (b.at_ 0 _ _ rfl rfl)) (i ⟨by have:=b.len;simpa using this,λj d u c g=>b.at_ (j+1) d u (by simpa using c) (by simpa using g)⟩)
variable{s:List D}
def Pk.agg{d:List D}(h:kf σ s d):Pk σ (.agg s) (.agg d):=⟨λw X u a r=>by
 obtain⟨vs,rfl,b⟩:=r.agg_inv;have:=h.rd a b;exact .agg _ _ this.len this.at_⟩
def Pk.clo{f:FuncId}{d:List D}(h:kf σ s d):Pk σ (.clo f s) (.clo f d):=⟨λw X u a r=>by
 obtain⟨vs,rfl,b⟩:=r.clo_inv;have:=h.rd a b;exact .clo _ _ _ this.len this.at_⟩
def kf.refl:∀s:List D,kf σ s s
 |[]=>.nil
 |d::s=>.cons (Pk.same d) (kf.refl s)
variable{j b:Nat}{tb:TypeId}{cs:List D}
def Pk.ptr{cs':List D}(i:σ[j]?=some (b,.cells tb cs))(h:kf σ cs cs'):Pk σ (.v (.pointer (some ⟨b,0,none⟩))) (.ro cs'):=⟨λw X u c r=>by
 have:=r.val rfl;subst this;obtain⟨_,o,a,vs,rfl,s⟩:=c.at_ b _ (zG i);have r:=h.rd c s;refine .ro _ _ _ (λm=>vs.getD m undef) (λh=>h) (zX.1 a).1 (λm f=>?_) (λm d g=>?_)
 .have:m<vs.length:=by rw[r.len];exact f
  simp[World.cell?,a,this]
 .obtain⟨u,e,k⟩:=r.get g
  simpa [List.getD_eq_getElem?_getD,e]using k⟩
def isV:D->Bool
 |.v _=>true
 |_=>false
def uk:D->Bool
 |.v _=>true
 |.tup d=>d.all isV
 |.agg d=>d.all isV
 |_=>false
def rF{b:Nat->Prop}{w':World}(h:Rd w O d u)(a:isV d=true):Rd w' b d u:=by
 cases d<;>first|(have:=h.val rfl;subst this;exact .v _)|cases a
def l8{e:Nat->Prop}(h:Rd w O d u)(b:uk d=true):Rd w e d u:=by
 cases d with
 |v x=>exact rF h rfl
 |tup s=>
  obtain⟨vs,rfl,a⟩:=h.tup_inv;exact .tup _ _ a.len λj d u g c=>rF (a.at_ j d u g c) (yA.1 b _ (zG g))
 |agg s=>
  obtain⟨vs,rfl,a⟩:=h.agg_inv;exact .agg _ _ a.len λj d u g c=>rF (a.at_ j d u g c) (yA.1 b _ (zG g))
 |_=>cases b
variable{g:FuncId}{args:List D}
def iK.peek{a:List D}(p:kf σ args a)(h:APure P g a d)(f:uk d=true):iK P g args σ d:=
 ⟨h.ent,λw X vs v s=>(h.run w (λ_=>False) vs (p.rd s v) (s.gok.mono (λb c=>c.elim))).mono λe w'⟨u,k,j,i⟩=>⟨u,k,l8 j f,i⟩⟩
def iK.le{a:List D}(l:gH args a)(h:APure P g a d):iK P g args σ d:=
 ⟨h.ent,λw X vs v s=>h.run w _ vs (l.rd v) s.gok⟩
structure fF(σ:ae)(ds:List D)(σ':ae)(ds':List D):Prop where
 run:∀(w:World)(X:Nat->Prop)(us:List Value),aW w X σ->bj w (ay σ X) ds us->aW w X σ'/\bj w (ay σ' X) ds' us
 sub:∀b,b∈aT σ'->b∈aT σ
def bb2{σ':ae}{X:Nat->Prop}(h:∀b,b∈aT σ'->b∈aT σ)(b:Nat)(n:¬ay σ X b):¬ay σ' X b:=λo=>n (o.imp id (h b))
def fF.nil(σ:ae):fF σ [] σ []:=⟨λ_ _ _ b a=>⟨b,a⟩,λ_ h=>h⟩
def fF.cons{σ' σ'':ae}{d d':D}{s a:List D}(h:Vs σ d σ' d')(t:fF σ' s σ'' a):fF σ (d::s) σ'' (d'::a):=
 ⟨λw X c f r=>by
  cases c with
  |nil=>have:=r.len;simp at this
  |cons v vs=>
   obtain⟨p,o⟩:=h.run w X v f (r.at_ 0 _ _ rfl rfl);have l:bj w (ay σ X) s vs:=⟨by have:=r.len;simpa using this,λj d u m i=>r.at_ (j+1) d u (by simpa using m) (by simpa using i)⟩
   obtain⟨e,k⟩:=t.run w X vs p (l.keep (zT _) (λb _ n=>bb2 h.sub b n) (λ_ _ _=>rfl));exact⟨e,.cons (o.keep (zT _) (λb _ n=>bb2 t.sub b n) (λ_ _ _=>rfl)) k⟩,λb g=>h.sub b (t.sub b g)⟩
def Vs.tup{σ':ae}{d:List D}(h:fF σ s σ' d):Vs σ (.tup s) σ' (.tup d):=⟨λw X u a r=>by
 obtain⟨vs,rfl,b⟩:=r.tup_inv;obtain⟨c,g⟩:=h.run w X vs a b;exact⟨c,.tup _ _ g.len g.at_⟩,h.sub⟩
def Vs.agg{σ':ae}{d:List D}(h:fF σ s σ' d):Vs σ (.agg s) σ' (.agg d):=⟨λw X u a r=>by
 obtain⟨vs,rfl,b⟩:=r.agg_inv;obtain⟨c,g⟩:=h.run w X vs a b;exact⟨c,.agg _ _ g.len g.at_⟩,h.sub⟩
def y5{σ':ae}(h:σ.Perm σ')(b:Nat)(a:b∈aT σ'):b∈aT σ:=(h.map Prod.fst).mem_iff.2 a
variable{s:ae}
def Vs.row(h:ab e k xs v s)(p:σ.Perm (s++τ)):Vs σ (.v v) τ (.sl k xs):=
 ⟨λw X u a r=>by
  have:=r.val rfl;subst this;exact⟨(a.perm p).sub (wI _ _),LB h (a.perm p)⟩,λb c=>y5 p b (by rw[en];exact yW _ c)⟩
def Vs.drop(h:τ.Sublist σ):Vs σ d τ d:=
 ⟨λw X u e c=>⟨e.sub h,c.keep (zT _) (λb _ n=>sg h b n) (λ_ _ _=>rfl)⟩,λb a=>(h.map Prod.fst).subset a⟩
def Vs.perm(h:σ.Perm τ):Vs σ d τ d:=
 ⟨λw X u c a=>⟨c.perm h,a.keep (zT _) (λb _ n=>bb2 (y5 h) b n) (λ_ _ _=>rfl)⟩,y5 h⟩
def yG:=@List.sublist_cons_self
def Vs.ptr(p:σ.Perm ((b,.cells tb cs)::τ)):Vs σ (.v (.pointer (some ⟨b,0,none⟩))) τ (.ro cs):=
 ⟨λw X u i r=>by
  have:=r.val rfl;subst this;have c:=i.perm p;have a:τ.Sublist ((b,ax.cells tb cs)::τ):=yG _ _;obtain⟨q,t,e,vs,rfl,s⟩:=c.at_ b _ yN;have O:¬ay τ X b:=by
   rintro(h|h)
   .exact q h
   .have f:=c.nodup;simp only[aT,List.map_cons,wZ]at f;exact f.1 h
  refine⟨c.sub a,.ro _ _ _ (λm=>vs.getD m undef) O (zX.1 e).1 (λm j=>?_) (λm d l=>?_)⟩
  .have:m<vs.length:=by rw[s.len];exact j
   simp[World.cell?,e,this]
  .obtain⟨u,g,k⟩:=s.get l;have:Rd w (ay τ X) d u:=k.keep (zT _) (λb _ n=>sg a b n) (λ_ _ _=>rfl)
   simpa [List.getD_eq_getElem?_getD,g]using this,λb o=>y5 p b (yQ _ o)⟩
inductive qa(f':aP):aP->Prop
 |nil:qa f' []
 |cons {i:Nat} {d:D} {F:aP} (h:gV f' i=some d) (t:qa f' F):qa f' ((i,d)::F)
def ah{f F:aP}(h:qa f F):ei f F:=by
 induction h with
 |nil=>rfl
 |cons h t i=>unfold ei at *;simp only[List.map_cons,h,i]
variable{o:Oper}
def ce.yd{P:Program}{r:Option Nat}{n df N:Nat}{L:List Oper}{f:aP}{K:aP->ae->Prop}(e:jM o.op=true)(h:Yd P o (aN f) σ d)(k:W (aX N o.dst d f (λc=>K c σ))):ce P r n df L N o f σ K:=
 ⟨λt Q a s w g=>by obtain⟨c,b,i⟩:=fT k.h s;exact uL w e (h.le s.le) (g _ _ _ i b)⟩
def jN(w:P.follows .mixedOrders=true)(x:∀t i,T t=some i->aH P t=some i){r:Option Nat}{n:Nat}{df:Nat}{N:Nat}{f:aP}{Q:ik}{c:Code}{γ:Type}(ps:γ->aP)(S:γ->ae)(I:γ->Prop)(μ:γ->Nat)(b:γ)
  (D:ei f (ie c f (ps b))) (C:(S b).Sublist σ) (B:I b)
  (A:∀g,I g->W (GT (ie c f (ps g)) λF=>m5 P T r n df N c (nA (λl σ'=>∃d,ei l (ie c f (ps d))/\(S d).Sublist σ'/\I d/\μ d < μ g) Q) F (S g))) :
  Lp P r n df N (.loop c) Q f σ:=by
 refine⟨λa v=>?_⟩;refine bd8 (λm a σ=>∃g,μ g=m/\I g/\Sp N a (ie c f (ps g))/\(S g).Sublist σ) (μ b) ⟨b,rfl,B,v.sub D,C⟩ ?_;rintro m a σ ⟨g,rfl,z,y,j⟩;refine Fx j (NO (NP w x (QS (A g z).h) y) ?_);rintro e E σ' ⟨l,k,o⟩
 cases e with
 |normal=>obtain⟨d,u,s,q,p⟩:=o;exact⟨μ d,p,d,rfl,q,k.sub u,s⟩
 |_=>exact⟨l,k,o⟩
variable{K:D->ae->Prop}{t:TypeId}
def Ap.go{i j:TI}{o:Bool}{d:Nat}{ys zs:List (List D)}(C:T t=some i)(B:i.sl=some (e,o,k,d))(A:T e=some j)(g:(Nat.beq j.zero.length j.size&&Nat.blt 0 k&&Nat.beq j.size k)=true)
  (r:ab e k xs v s) (w:σ.Perm (s++τ)) (x:(ys.all λy=>y.all cY)=true) (z:xs++ys=zs) (l:zs.length*d<=140737488355328) (m:zs.length<=1000000000) (n:ae->ae) (u:∀b,(b++τ).Perm (n b))
  (p:∀a c b,ab e k zs (.slice a zs.length c) b->W (K (.v (.slice a zs.length c)) (n b))):Ap P T σ (.v v) (.sl k ys) t K:=by
 subst z;simp only[zJ]at g;rw[zI]at l m;refine⟨e,i,j,o,k,d,xs,ys,v,s,[],τ,C,B,A,yH g.1.1,by simpa [wT]using g.1.2,yH g.2,rfl,.inl ⟨rfl,rfl⟩,r,w,λy q=>yA.1 x y q,l,m,.inl λE b f=>?_⟩;obtain⟨a,c,rfl⟩:=f.slice;exact⟨_,u b,(p a c b f).h⟩
def bR(s:ae):s.Perm (s++[]):=by simp
def dF(s:ae):(s++[]).Perm s:=by simp
def GN(x:Nat×ax)(s:ae):(x::s).Perm (s++[x]):=(List.perm_append_singleton x s).symm
def N5(x:Nat×ax)(s:ae):(s++[x]).Perm (x::s):=List.perm_append_singleton x s
def tJ(x y:Nat×ax)(s:ae):(x::y::s).Perm (s++[x,y]):=yT (l₁:=[x,y]) (l₂:=s)
def bi1(x y:Nat×ax)(s:ae):(s++[x,y]).Perm (x::y::s):=(tJ x y s).symm
def Ap.frz{i j:TI}{g:Bool}{ys zs:List (List D)}(n:T t=some i)(l:i.sl=some (e,g,k,b))(f:T e=some j)(h:(Nat.beq j.zero.length j.size&&Nat.blt 0 k&&Nat.beq j.size k)=true)
  (r:ab e k xs v s) (p:σ.Perm (s++τ)) (o:(ys.all λy=>y.all cY)=true) (z:xs++ys=zs) (a:zs.length*b<=140737488355328) (m:zs.length<=1000000000)
  (c:W (K (.sl k zs) τ)):Ap P T σ (.v v) (.sl k ys) t K:=by
 subst z;simp only[zJ]at h;rw[zI]at a m;exact⟨e,i,j,g,k,b,xs,ys,v,s,[],τ,n,l,f,yH h.1.1,by simpa [wT]using h.1.2,yH h.2,rfl,.inl ⟨rfl,rfl⟩,r,p,λy d=>yA.1 o y d,a,m,.inr c.h⟩
def vG:=@List.drop_eq_getElem_cons
variable{K:D->Prop}
def Ld.cell{ρ:Operand->D}{f:Nat}(j:Nat)(c:σ[j]?=some (b,.cells tb cs))(a:cs[f]?=some d)(h:W (K d)):Ld P o ρ σ b f false 1 K:=by
 have t:=(zE.1 a).1;refine⟨.inl ⟨j,tb,cs,c,by omega,?_⟩⟩;have:(cs.drop f).take 1=[d]:=by
  rw[vG t];simp[(zE.1 a).2]
 rw[this];exact h.h
def Sv.cell{o:Nat}{K:ae->Prop}(j:Nat){cs':List D}(f:σ[j]?=some (b,.cells tb cs))(a:o<cs.length)(e:cY d=true)(c:cs.set o d=cs')(h:W (K (σ.set j (b,.cells tb cs')))):Sv σ b o [d] 1 K:=by
 subst c;refine⟨j,tb,cs,_,f,rfl,a,by simp[e],xA ?_,h.h⟩
 congr 3
 unfold dQ;rw[xW,if_pos a];simp
variable{m:Nat}
def ax2{a:TI}{X:Nat->Prop}(r:∀t i,T t=some i->aH P t=some i)(d:aW w X σ)(o:σ[m]?=some (b,.cells tb cs))(n:T t=some a)(g:a.agg=true)(v:a.size=cs.length) :
  ∃vs:List Value,(loadVar t ⟨b,0,none⟩).run P w= .ok (.agg vs.toArray) w/\bj w (ay σ X) cs vs:=by
 obtain⟨_,u,e,vs,rfl,h⟩:=d.at_ b _ (zG o);obtain⟨k,s⟩:=N6 (r t a n) w;rw[g]at k;have l:∀q,q<cs.length->w.cell? ⟨b,0+q,none⟩=some (vs.getD q undef):=by
  intro q c;have:q<vs.length:=by rw[h.len];exact c
  simp[World.cell?,e,this]
 have j:=az1 (P:=P) (w:=w) (f:=λq=>vs.getD q undef) k s (λq c=>l q (by omega));have p:(List.range a.size).map (λq=>vs.getD q undef)=vs:=by
  apply xY;intro q;by_cases c:q<a.size
  .have:q<vs.length:=by rw[h.len];omega
   simp[c,this]
  .have:vs.length<=q:=by rw[h.len];omega
   simp[c,this]
 rw[p]at j;refine⟨vs,?_,h⟩;have:=j;simp only[Instr.loadAt,Instr.sureAddr,Sem.run_bind,Sem.run_pure,Result.andThen]at this;exact this
variable {N:Nat} {f:aP} {fn:Func}
def Rs.c(u:∀t i,T t=some i->aH P t=some i){c:TI}(h:fn.results= #[.cell j t])(n:aN f (.tmp j)= .v (.pointer (some ⟨b,0,none⟩)))(q:σ[m]?=some (b,.cells tb cs))(l:T t=some c)(g:c.agg=true)(s:c.size=cs.length)
  (k:W (K (.agg cs))):Rs P N fn f σ K:=by
 refine⟨_,λa r=>?_,k.h⟩;intro w X y o d;obtain⟨vs,x,e⟩:=ax2 u d q l g s;have p:=(lp o j).val (r.eq n (λh=>by cases h));exact⟨.agg vs.toArray,by simp[results,h,p,asAddr,x,Result.andThen,-Array.getD_eq_getD_getElem?],.agg _ _ e.len e.at_⟩
def Rs.tc(z:∀t i,T t=some i->aH P t=some i){i:Nat}{c:TI}(h:fn.results= #[.tmp i,.cell j t])(x:aN f (.tmp i)=d)(u:aN f (.tmp j)= .v (.pointer (some ⟨b,0,none⟩)))(y:σ[m]?=some (b,.cells tb cs))(q:T t=some c)(g:c.agg=true)(s:c.size=cs.length)
  (k:W (K (.tup [d,.agg cs]))):Rs P N fn f σ K:=by
 subst x;refine⟨_,λa n=>?_,k.h⟩;intro w X p l e;obtain⟨vs,A,o⟩:=ax2 z e y q g s;have r:=(lp l j).val (n.eq u (λh=>by cases h));refine⟨.tuple #[p.getD i undef,.agg vs.toArray],by simp[results,h,r,asAddr,A,Result.andThen,-Array.getD_eq_getD_getElem?],?_⟩;have:=bj.cons (sb n i _ _ _ (lp l i)) (bj.cons (Rd.agg (w:=w) (O:=ay σ X) cs vs o.len o.at_) bj.nil);exact .tup _ _ this.len this.at_
def zy(z:∀t i,T t=some i->aH P t=some i){i:Nat}{c:TI}(h:fn.results= #[.cell j t,.tmp i])(x:aN f (.tmp i)=d)(u:aN f (.tmp j)= .v (.pointer (some ⟨b,0,none⟩)))(y:σ[m]?=some (b,.cells tb cs))(q:T t=some c)(g:c.agg=true)(s:c.size=cs.length)
  (k:W (K (.tup [.agg cs,d]))):Rs P N fn f σ K:=by
 subst x;refine⟨_,λa n=>?_,k.h⟩;intro w X p l e;obtain⟨vs,A,o⟩:=ax2 z e y q g s;have r:=(lp l j).val (n.eq u (λh=>by cases h));refine⟨.tuple #[.agg vs.toArray,p.getD i undef],by simp[results,h,r,asAddr,A,Result.andThen,-Array.getD_eq_getD_getElem?],?_⟩;have:=bj.cons (Rd.agg (w:=w) (O:=ay σ X) cs vs o.len o.at_) (bj.cons (sb n i _ _ _ (lp l i)) bj.nil);exact .tup _ _ this.len this.at_
end
end
section
open Go
def FB(x:ak)(o i:Int)(f:an)(g:an)(j:Nat):Bool:=decide (g.kind=7)&&seq g.of f.name&&decide (aG x o j=i)
def uO(x:ak)(o i:Int)(f:an)(s:List an)(n:Nat):List Int:=
 ((List.range n).filter λ(j:Nat)=>match s[j]? with|some g=>FB x o i f g j|none=>false).map (λ(j:Nat)=>(j:Int))
def vZ:=@List.filter_append
def at3(x:ak)(o i:Int)(f:an)(s:List an)(n:Nat)(g:an)(h:s[n]?=some g):uO x o i f s (n+1)=uO x o i f s n++(if FB x o i f g n then[(n:Int)]else[]):=by
 simp only[uO,List.range_succ,vZ,yB]
 congr 1
 simp only[List.filter_cons,h,List.filter_nil];split<;>simp_all
def zL:=@List.length_map
def aJ8(x:ak)(o i:Int)(f:an)(s:List an)(n:Nat):(uO x o i f s n).length<=n:=by
 simp only[uO,zL];exact xH (List.length_filter_le _ _) (by simp)
def nV(x:ak)(i:Int)(f:an)(k:aq)(h:dN x (bi x f.of)=some k):Ai x i f=uO x (bi x f.of) i f k.fields k.fields.length:=by
 simp only[Ai,h,uO,FB]<;>rfl
def xt(x:ak)(n:ByteArray)(h:0<=bi x n):∃(o:Nat)(k:aq),bi x n=o/\x.kz[o]?=some k/\seq k.name n=true:=by
 unfold bi idx at *;split at h
 .rename_i o a;obtain⟨c,b,_⟩:=wB.1 a;exact⟨o,x.kz[o],by simp[a],zD c,b⟩
 .omega
def n7(x:ak)(i:Int)(f:an)(h:0<=refUp x i f):∃(o:Nat)(k:aq),refUp x i f=o/\x.kz[o]?=some k:=by
 unfold refUp at *;split at h
 .obtain⟨o,k,b,a,_⟩:=xt x f.of h;exact⟨o,k,by rw[if_pos (by assumption)];exact b,a⟩
 .omega
def uC:=@if_false
def sM(x:ak)(i j:Int)(h:0<=aG x i j):∃(o:Nat)(k:aq),aG x i j=o/\x.kz[o]?=some k:=by
 unfold aG at *
 cases b:fieldAt x i j with
 |none=>simp[b]at h
 |some f=>
  simp only[b]at h⊢;split at h
  .rename_i a;simp only[a,if_true];unfold yt at *;split at h
   .rename_i g d;exact n7 x i g h
   .omega
  .rename_i a;simp only[a,uC];split at h
   .rename_i c;simp only[c,if_true];exact n7 x i f h
   .omega
def im(x:ak)(i j:Int)(f:an):Option an:=
 if aG x i j<0 then none else match dN x (aG x i j)with|some k=>fieldAt x (aG x i j) (bb k f.of)|none=>none
def zf:an:=⟨⟨#[]⟩,⟨#[]⟩,⟨#[]⟩,0,0,0,[],[]⟩
def fH(x:ak)(i j:Int)(f:an):an×Bool:=match im x i j f with|some g=>(g,true)|none=>(zf,false)
def iC(x:ak)(i j:Int):an×Bool:=match fieldAt x i j with|some g=>(g,true)|none=>(zf,false)
def j7:List (Bool×Int)->Int
 |[]=>0
 |(true,c)::_=>c
 |(false,_)::l=>j7 l
def fC(x:ak)(k:aq)(o:Int)(n:ByteArray):Bool:=!dz n && !(iC x o (bb k n)).2
def gm(x:ak)(k:aq)(o:Int)(n:ByteArray):Bool:=!dz n&&((iC x o (bb k n)).1.kind !=2&&(iC x o (bb k n)).1.kind !=4)
def pI(x:ak)(i:Nat)(r:cH):Bool:=(x.rules.take i).any (λs=>seq s.name r.name)
def j5(x:ak)(i:Nat)(r:cH):Int:=
 match dN x (bi x r.kind)with
 |none=>j7 [(pI x i r,7),(true,12),(false,13),(seq r.a r.b,1)]
 |some k=>j7 [(pI x i r,7),(fC x k (bi x r.kind) r.a||fC x k (bi x r.kind) r.b,12),(gm x k (bi x r.kind) r.a||gm x k (bi x r.kind) r.b,13),(seq r.a r.b,1)]
def aD6:∀(f:List (Bool×Int))(n:Nat),(∀(j:Nat)x,j<n->f[j]?=some x->x.1=false)->j7 (f.drop n)=j7 f
 |f,0,_=>by simp
 |[],n+1,_=>by simp
 |(b,c)::l,n+1,h=>by
  have a:b=false:=h 0 (b,c) (by omega) rfl;subst a;have:=aD6 l n (λj x d hx=>h (j+1) x (by omega) (by simpa using hx))
  simpa [j7]using this
def x2{f:List (Bool×Int)}{n:Nat}{x:Bool×Int}(h:∀(j:Nat)x,j<n->f[j]?=some x->x.1=false)(hx:f[n]?=some x)(a:x.1=true):j7 f=x.2:=by
 rw[←aD6 f n h];have t:=(zE.1 hx).1;have e:=(zE.1 hx).2;rw[vG t,e];obtain⟨b,c⟩:=x;simp only at a;subst a;rfl
def oT{f:List (Bool×Int)}(h:∀(j:Nat)x,f[j]?=some x->x.1=false):j7 f=0:=by
 rw[←aD6 f f.length (λj x _ hx=>h j x hx),List.drop_length];rfl
end
section
open Go
abbrev eZ:=Int×Int×Int×Int
def one(k f r e:Int):List eZ:=if e=0 then[]else[(k,f,r,e)]
def Ad(k f r e:Int):(one k f r e).length<=1:=by unfold one;split<;>simp
def jl(k f r:Int):one k f r 0=[]:=by simp[one]
variable{α:Type}
def am(q:Nat)(g:Nat->List α):List α:=(List.range q).flatMap g
def ay9(g:Nat->List α):am 0 g=[]:=rfl
def gE(q:Nat)(g:Nat->List α):am (q+1) g=am q g++g q:=by simp[am,List.range_succ,List.flatMap_append]
def fa{α:Type}{g:Nat->List α}{m:Nat}(h:∀i,(g i).length<=m):∀q,(am q g).length<=q*m
 |0=>by simp[am]
 |q+1=>by rw[gE,zI,vC];have:=fa h q;have:=h q;omega
def gJ(x:ak)(i:Int)(f:an):Int×List Int:=if KM x i f then(-1,[])else(bi x f.of,Ai x i f)
def cz(x:ak)(i j:Int)(f:an):Int×an:=match im x i j f with
 |none=>(-1,zf)
 |some g=>(g.kind,g)
def GQ(x:ak)(i j:Int)(f:an)(up:Int):Int:=
 if up<0 then 12
 else if f.kind=7 then(if(cz x i j f).1=6/\bi x (cz x i j f).2.of=i then 0 else 13)
 else if(cz x i j f).1<0\/(cz x i j f).1=0\/(cz x i j f).1=1\/(cz x i j f).1=6\/(cz x i j f).1=7 then 13 else 0
def rN(x:ak)(i j:Int)(f:an):Int:=match dN x i with
 |none=>0
 |some k=>if dz f.of then 0 else if bb k f.of<0\/j<=bb k f.of then 12 else match k.fields[(bb k f.of).toNat]? with|some g=>if g.kind=4 then 0 else 12|none=>12
def cP(x:ak)(i j:Int)(f:an):Int:=
 if f.kind=0/\0<j then 13
 else if f.kind=0\/f.kind=2\/f.kind=3 then 0
 else if f.kind=1 then(if aG x i j<0 then 12 else 0)
 else if f.kind=4 then rN x i j f
 else if f.kind=5 then(if x.lz.any (λl=>seq l.name f.of)then 0 else 12)
 else if f.kind=6 then(if(gJ x i f).1<0 then 12 else if(gJ x i f).2.length=1 then 0 else 11)
 else GQ x i j f (aG x i j)
def l3(s:List an):Bool:=match s with|[]=>false|f::_=>decide (f.kind=0)
def KO(x:ak)(i:Nat)(l:bG):Bool:=(x.lz.take i).any (λm=>seq m.name l.name)
def my(x:ak)(i:Nat):List eZ:=match x.lz[i]? with|some l=>one (-1) i (-1) (if KO x i l then 7 else 0)|none=>[]
def fz(x:ak)(i:Nat)(k:aq):Int:=if bi x k.name<i then 7 else if l3 k.fields then 0 else 11
def m'(x:ak)(i:Nat)(k:aq)(j:Nat)(f:an):Int:=if bb k f.name<j then 7 else cP x i j f
def fU(x:ak)(i:Nat)(k:aq)(j:Nat):List eZ:=match k.fields[j]? with|some f=>one i j (-1) (m' x i k j f)|none=>[]
def eu(x:ak)(i:Nat):List eZ:=match x.kz[i]? with|some k=>one i (-1) (-1) (fz x i k)++am k.fields.length (fU x i k)|none=>[]
def mZ(x:ak)(i:Nat):List eZ:=match x.rules[i]? with|some r=>one (-1) (-1) i (j5 x i r)|none=>[]
def fD(x:ak):Int:=if iS x then 0 else 1
def dJ(x:ak):List eZ:=if fD x=0 then am x.lz.length (my x)++am x.kz.length (eu x)++am x.rules.length (mZ x)else[(-1,-1,-1,fD x)]
def aF5(x:ak)(i:Nat):(my x i).length<=1:=by unfold my;split;exact Ad _ _ _ _;simp
def ax0(x:ak)(i:Nat)(k:aq)(j:Nat):(fU x i k j).length<=1:=by unfold fU;split;exact Ad _ _ _ _;simp
def bg0(x:ak)(i:Nat):(mZ x i).length<=1:=by unfold mZ;split;exact Ad _ _ _ _;simp
def kM(x:ak)(i:Nat)(h:∀k∈x.kz,k.fields.length<=10):(eu x i).length<=11:=by
 unfold eu;split
 .rename_i k a;rw[zI];have d:=fa (ax0 x i k) k.fields.length;have c:=h k (zG a);have b:=Ad i (-1) (-1) (fz x i k);omega
 .simp
structure LC(x:ak):Prop where
 nk:x.kz.length<=6
 nl:x.lz.length<=6
 nr:x.rules.length<=16
 nf:∀k∈x.kz,k.fields.length<=10
 kz:∀k∈x.kz,jK k=true
 lz:∀l∈x.lz,jL l=true
 rules:∀r∈x.rules,yw r=true
variable{x:ak}
def AL(h:iS x=true):LC x:=by
 simp only[iS,zJ,zQ,yA]at h;obtain⟨⟨⟨⟨⟨⟨_,g⟩,f⟩,e⟩,a⟩,d⟩,c⟩:=h;exact⟨g,f,e,λk b=>by have:=a k b;simp only[jK,zJ,zQ]at this;exact this.1.2,a,d,c⟩
def lB(h:fD x=0):LC x:=by
 unfold fD at h;split at h
 .exact AL (by assumption)
 .omega
end
section
open Go
variable{g:FuncId}{args:List D}{c:Code}
def dB{N:Nat}{σ:ae}{fn:Func}{R:D->ae->Prop}(hf:prog.funcs[g]?=some fn)(hN:fn.ntmps=N)(h:∀B,W (m5 prog A2 none 9 B N c (O4 prog N fn R) (yu args) σ))(hname:(fn.name == "runtime.NumGoroutine")=false:=by kernel_rfl)(hb:fn.body=some c:=by exact rfl)(hl:Nat.ble args.length N=true:=by exact rfl):az prog g args σ R:=EL mixed ai hf hname hb hN hl h
variable{d:D}
def ap{N:Nat}{fn:Func}(hf:prog.funcs[g]?=some fn)(hN:fn.ntmps=N)(h:∀B,W (m5 prog A2 none 9 B N c (O4 prog N fn λd' _=>d'=d) (yu args) []))(hname:(fn.name == "runtime.NumGoroutine")=false:=by kernel_rfl)(hb:fn.body=some c:=by exact rfl)(hl:Nat.ble args.length N=true:=by exact rfl):APure prog g args d:=APure.of_call (EL mixed ai hf hname hb hN hl h)
variable{A B:Prop}
def gS(k:B)(h:ar B->A:=by intro q7;(refine Dr.r ?_;(((with_reducible refine W.mk ?_);(conv=>whnf)));refine Dm.r ?_;refine W.mk ?_);exact q7.1):A:=h ⟨k⟩
def zY:=@List.length_replicate
def sN(k:B)(h:ar B->A:=by intro q7;(first|((with_reducible refine Ck.go ?qs7 ?_);(case qs7=>kernel_rfl))|((with_reducible refine' pA7 ?hy ?h0 ?_);(case hy=>assumption);(case h0=>omega))|((with_reducible refine' Ix.at ?hy ?h0 ?_);(case hy=>exact rfl);(case h0=>omega))|((with_reducible refine Ix.mapM ?h0 ?_);(case h0=>first|omega|(simp only[zL,zR,zI,List.length_cons,List.length_nil,zY,Nat.reduceAdd]at *;omega))));exact q7.1):A:=h ⟨k⟩
def LP(k:B)(h:ar B->A:=by intro q7;(first|((with_reducible refine W.mk ?_);(conv=>whnf))|(with_reducible refine pA4 ?_)|(with_reducible refine pA5 ?_)|(with_reducible refine Br.n ?_)|((with_reducible refine' Br.eq ?h ?_);(case h=>(simp only[zL,zR,zI,List.length_cons,List.length_nil,zY,Nat.reduceAdd];exact rfl)))|((with_reducible refine Sd.go ?qs7 ?_);(case qs7=>first|trivial|(constructor<;>omega)|omega|assumption|((try simp only[zL,zR,zI,List.length_cons,List.length_nil,zY,Nat.reduceAdd]at *);first|(constructor<;>omega)|omega)))|refine sN ?_);exact q7.1):A:=h ⟨k⟩
def Gl(k:B)(h:ar B->A:=by intro q7;(first|((with_reducible refine' Ld.at 0 ?h1 ?h2 ?h3 ?_);(case h1=>exact rfl);(case h2=>exact rfl);(case h3=>exact rfl))|((with_reducible refine' Ld.at 1 ?h1 ?h2 ?h3 ?_);(case h1=>exact rfl);(case h2=>exact rfl);(case h3=>exact rfl))|((with_reducible refine' Ld.at 2 ?h1 ?h2 ?h3 ?_);(case h1=>exact rfl);(case h2=>exact rfl);(case h3=>exact rfl)));exact q7.1):A:=h ⟨k⟩
def AP(k:B)(h:ar B->A:=by intro q7;(first|((with_reducible refine' Sv.at 0 ?h1 ?h2 ?h3 ?h4 ?h5 ?_);(case h1=>exact rfl);(case h2=>exact rfl);(case h3=>exact rfl);(case h4=>exact rfl);(case h5=>exact(by first|(simp only[List.set_cons_succ,List.set_cons_zero,dQ,gX,oC,List.take_succ_cons,List.take_zero,List.drop_succ_cons,List.drop_zero,List.length_cons,List.length_nil,List.nil_append,List.cons_append,Nat.reduceAdd,xD,zZ,List.map_cons,List.map_nil];rfl)|rfl)))|((with_reducible refine' Sv.at 1 ?h1 ?h2 ?h3 ?h4 ?h5 ?_);(case h1=>exact rfl);(case h2=>exact rfl);(case h3=>exact rfl);(case h4=>exact rfl);(case h5=>exact(by first|(simp only[List.set_cons_succ,List.set_cons_zero,dQ,gX,oC,List.take_succ_cons,List.take_zero,List.drop_succ_cons,List.drop_zero,List.length_cons,List.length_nil,List.nil_append,List.cons_append,Nat.reduceAdd,xD,zZ,List.map_cons,List.map_nil];rfl)|rfl)))|((with_reducible refine' Sv.at 2 ?h1 ?h2 ?h3 ?h4 ?h5 ?_);(case h1=>exact rfl);(case h2=>exact rfl);(case h3=>exact rfl);(case h4=>exact rfl);(case h5=>exact(by first|(simp only[List.set_cons_succ,List.set_cons_zero,dQ,gX,oC,List.take_succ_cons,List.take_zero,List.drop_succ_cons,List.drop_zero,List.length_cons,List.length_nil,List.nil_append,List.cons_append,Nat.reduceAdd,xD,zZ,List.map_cons,List.map_nil];rfl)|rfl)))|((with_reducible refine' Ot.yd ?hyd ?_);(case hyd=>first|(refine' ai9 ai rfl rfl rfl rfl rfl ?hc ?h0;(case hc=>assumption);(case h0=>omega))|(refine ai8 ai rfl rfl rfl rfl rfl ?_;first|omega|(simp only[zL,zR,zI,List.length_cons,List.length_nil,zY,Nat.reduceAdd];omega))|(refine aj2 ai rfl rfl rfl rfl rfl ?_;omega)|exact AD rfl rfl rfl underlying4|exact am9 rfl rfl rfl|exact an0 rfl rfl rfl))|((with_reducible refine' Rs.tc ai (m:=0) ?h ?hi ?hj ?hb ?ht ?hag ?hs ?_);(case h=>exact rfl);(case hi=>exact rfl);(case hj=>exact rfl);(case hb=>exact rfl);(case ht=>exact rfl);(case hag=>exact rfl);(case hs=>exact rfl))|((with_reducible refine' zy ai (m:=0) ?h ?hi ?hj ?hb ?ht ?hag ?hs ?_);(case h=>exact rfl);(case hi=>exact rfl);(case hj=>exact rfl);(case hb=>exact rfl);(case ht=>exact rfl);(case hag=>exact rfl);(case hs=>exact rfl))|((with_reducible refine' Rs.c ai (m:=0) ?h ?hj ?hb ?ht ?hag ?hs ?_);(case h=>exact rfl);(case hj=>exact rfl);(case hb=>exact rfl);(case ht=>exact rfl);(case hag=>exact rfl);(case hs=>exact rfl))|((with_reducible refine Uz ?h ?_);(case h=>omega))|((with_reducible refine Br.df ?h ?_);(case h=>omega))|((with_reducible refine Br.t ?h ?_);(case h=>assumption))|((with_reducible refine Br.f ?h ?_);(case h=>assumption))|((with_reducible refine Br.t ?h ?_);(case h=>(refine yJ ?_;omega)))|((with_reducible refine Br.f ?h ?_);(case h=>(refine yE ?_;omega))));exact q7.1):A:=h ⟨k⟩
def bh(k:B)(h:ar B->A:=by intro q7;(first|refine LP ?_|refine Gl ?_|refine AP ?_);exact q7.1):A:=h ⟨k⟩
def vl(k:B)(h:ar B->A:=by intro q7;(first|(with_reducible refine Bc.l ?_)|(with_reducible refine Bx.l ?_));exact q7.1):A:=h ⟨k⟩
def RF(k:B)(h:ar B->A:=by intro q7;(first|((with_reducible refine Dm.l ?h ?_);(case h=>decide +kernel))|((with_reducible refine Cb.go ?h ?_);(case h=>decide +kernel)));exact q7.1):A:=h ⟨k⟩
def aE(k:B)(h:ar B->A:=by intro q7;(first|refine vl ?_|((with_reducible refine Dr.l ?h ?_);(case h=>decide +kernel))|(with_reducible refine Dr.r ?_)|refine RF ?_);exact q7.1):A:=h ⟨k⟩
def aj{H B:D->Prop}(a:H d)(k:B d)(h:∀d,ar (H d)->ar (B d)->A:=by intro d p7 q7;(first|(with_reducible refine' Cp.by (d:=d) ?_ ?_)|(with_reducible refine' CE.pure (d:=d) ?_ ?_));exact p7.1;exact q7.1):A:=h d ⟨a⟩ ⟨k⟩
def aV(k:B)(h:ar B->A:=by intro q7;(first|refine bh ?_|refine aE ?_|(refine' aj ?hc ?_;(case hc=>fail)));exact q7.1):A:=h ⟨k⟩
variable{p:Prop}
def Np(h:p:=by
 refine Rt.pure (zM iD ?_);exact(R1 λi y hy=>hno i y (by have:=(zE.1 hy).1;omega) hy).symm):p:=h
def An(x:ak)(nm:ByteArray)(hl:x.kz.length<=1000000):APure prog 65 [aw x,sD nm] (iD (bi x nm)):=by
 refine ap func65 ntmps65 λf=>?_
 repeat' first|refine aV ?_|refine bg.mk λy hy=>?_
 refine gD mixed ai (γ:=Nat) (λk=>[(5,iD k)]) (λ_=>[]) (λk=>k<=x.kz.length/\∀i y,i<k->x.kz[i]?=some y->seq y.name nm=false) (λk=>x.kz.length-k) 0 rfl rfl ⟨by omega,by omega⟩ ?_;rintro k ⟨b,hno⟩
 repeat' first|refine aV ?_|refine bg.mk λy hy=>?_|(refine aZ ?_;constructor<;>intro hc)
 .refine Rt.pure (zM iD ?_);exact(K' hy ‹_› hno).symm
 .exact⟨k+1,rfl,rfl,⟨by omega,λi z hi a=>by
   by_cases e:i=k
   .subst e;rw[show((i:Int)).toNat=i from rfl,a]at hy;cases hy;assumption
   .exact hno i z (by omega) a⟩,by omega⟩
 .exact Np
def jq(x:ak)(i j:Int):Bool:=(fieldAt x i j).isSome
variable{j i:Int}{x:ak}
def am8(h:i<0\/(x.kz.length:Int)<=i\/j<0):fieldAt x i j=none:=by
 unfold fieldAt dN;by_cases hi:0<=i
 .rw[if_pos hi]
  cases a:x.kz[i.toNat]? with
  |none=>rfl
  |some k=>
   have:=(zE.1 a).1;simp only;rw[if_neg (by omega)]
 .rw[if_neg hi]
variable{k:aq}
def K9(b:0<=i)(a:0<=j)(h:x.kz[i.toNat]?=some k):fieldAt x i j=k.fields[j.toNat]?:=by
 unfold fieldAt dN;rw[if_pos b,h];simp only;rw[if_pos a]
def ZF(h:p:=by
 rintro q ⟨hq,hno⟩
 repeat' first|refine aV ?_|refine bg.mk λy hy=>?_|(refine aZ ?_;constructor<;>intro hc)
 .refine Rt.pure (zM iD ?_);exact(K' hy ‹_› hno).symm
 .exact⟨q+1,rfl,rfl,⟨by omega,λi z hi hz=>by
   by_cases e:i=q
   .subst e;rw[show((i:Int)).toNat=i from rfl,hz]at hy;cases hy;assumption
   .exact hno i z (by omega) hz⟩,by omega⟩
 .refine Rt.pure (zM iD ?_);exact(R1 λi y hy=>hno i y (by have:=(zE.1 hy).1;omega) hy).symm):p:=h
def nd(k:aq)(nm:ByteArray)(hl:k.fields.length<=1000000):APure prog 64 [fP k,sD nm] (iD (bb k nm)):=by
 refine ap func64 ntmps64 λa=>?_
 repeat' first|refine aV ?_|refine bg.mk λy hy=>?_
 refine gD mixed ai (γ:=Nat) (λq=>[(5,iD q)]) (λ_=>[]) (λq=>q<=k.fields.length/\∀i y,i<q->k.fields[i]?=some y->seq y.name nm=false) (λq=>k.fields.length-q) 0 rfl rfl ⟨by omega,by omega⟩ ?_;exact ZF
def EW(h:p:=by
 refine Rt.pure (zM bD ?_);simp[jq,am8 (x:=x) (i:=i) (j:=j) (by omega)]):p:=h
def aI3(x:ak)(i j:Int):APure prog 63 [aw x,iD i,iD j] (bD (jq x i j)):=by
 refine ap func63 ntmps63 λa=>?_
 repeat' first|refine aV ?_|refine bg.mk λy hy=>?_|(refine aZ ?_;constructor<;>intro hc)
 .exact EW
 .exact EW
 .exact EW
 .refine Rt.pure (zM bD ?_);rw[jq,K9 (by omega) (by omega) hy];by_cases hlt:j<y.fields.length
  .rw[zD (by omega)];simpa using hlt
  .rw[List.getElem?_eq_none (by omega)];simpa using hlt
def GH{f:an}(h:fieldAt x i j=some f):0<=i/\0<=j/\∃k,x.kz[i.toNat]?=some k/\k.fields[j.toNat]?=some f:=by
 unfold fieldAt dN at h;by_cases hi:0<=i
 .rw[if_pos hi]at h
  cases a:x.kz[i.toNat]? with
  |none=>simp[a]at h
  |some k=>
   simp only[a]at h;by_cases hj:0<=j
   .rw[if_pos hj]at h;exact⟨hi,hj,k,rfl,h⟩
   .rw[if_neg hj]at h;cases h
 .rw[if_neg hi]at h;cases h
def aH5{f:an}(a:fieldAt x i j=some f)(h:dN x i=some k):aG x i j=if f.kind=7\/f.kind=8 then yt x i (Fs (bb k f.up) j (fieldAt x i (bb k f.up)))else if f.kind=1 then refUp x i f else -1:=by
 simp only[aG,a,Sj,h]
def KW(k:aq)(nm:ByteArray):bb k nm<k.fields.length:=GU _ _
def aX2(k:aq)(nm:ByteArray):-1<=bb k nm:=Ee _ _
def az4(x:ak)(nm:ByteArray):bi x nm<x.kz.length:=GU _ _
def xr(x:ak)(nm:ByteArray):-1<=bi x nm:=Ee _ _
def sk3(k:B)(h:ar B->A:=by intro q7;(first|refine bh ?_|refine aE ?_|(refine' aj ?hc ?_;(case hc=>first|exact aI3 _ _ _|exact An _ _ (by assumption)|exact nd _ _ (by assumption))));exact q7.1):A:=h ⟨k⟩
def FA(x:ak)(i j:Int)(hl:x.kz.length<=1000000)(y:∀k∈x.kz,k.fields.length<=1000000):APure prog 36 [aw x,iD i,iD j] (iD (aG x i j)):=by
 refine ap func36 ntmps36 λz=>?_
 cases a:fieldAt x i j with
 |none=>
  have u:jq x i j=false:=by simp[jq,a]
  repeat' first|refine sk3 ?_|intro b;conv=>whnf
  refine Rt.pure (zM iD ?_);simp[aG,a]
 |some f=>
  have u:jq x i j=true:=by simp[jq,a]
  obtain⟨h0,h1,k,n,r⟩:=GH a;have w:=y k (zG n);have o:dN x i=some k:=by simp[dN,h0,n]
  have t:=KW k f.up;have U:=aH5 a o
  cases l:fieldAt x i (bb k f.up)with
  |none=>
   have p:bb k f.up<0:=by
    refine Int.not_le.1 λh=>?_;rw[K9 h0 h n,zD (by omega)]at l;cases l
   simp only[l,Fs,yt]at U
   repeat' first|refine sk3 ?_|intro b;conv=>whnf|(refine aZ ?_;constructor<;>intro hc)
   all_goals(refine Rt.pure (zM iD ?_);rw[U];unfold refUp;(repeat' split)<;>first|rfl|omega)
  |some g=>
   obtain⟨_,s,q,e,v⟩:=GH l;obtain rfl:k=q:=by rw[n]at e;exact wK e
   simp only[l,Fs]at U
   repeat' first|refine sk3 ?_|intro b;conv=>whnf|(refine aZ ?_;constructor<;>intro hc)
   all_goals(refine Rt.pure (zM iD ?_);rw[U];unfold refUp;(repeat' split)<;>first|rfl|omega|(unfold yt;simp only;unfold refUp;(repeat' split)<;>first|rfl|omega))
end
section
open Go
abbrev Wd:=List (List (List Int))
structure Rf where
 kind:Nat
 field:Nat
 up:Int
 least:Int
def dL(x:ak)(k:Nat)(kd:aq)(i:Nat):List Rf:=match kd.fields[i]? with
 |some f=>if f.kind=1 then[⟨k,i,aG x k i,f.lo⟩]else[]
 |none=>[]
def fL(x:ak)(k:Nat):List Rf:=match x.kz[k]? with
 |some kd=>am kd.fields.length (dL x k kd)
 |none=>[]
def bJ(x:ak):List Rf:=am x.kz.length (fL x)
def aZ4(x:ak)(k:Nat)(kd:aq)(i:Nat):(dL x k kd i).length<=1:=by unfold dL;split<;>(try split)<;>simp
def n8(x:ak)(k:Nat)(h:∀k∈x.kz,k.fields.length<=1000):(fL x k).length<=1000:=by
 unfold fL;split
 .rename_i kd a;have c:=fa (aZ4 x k kd) kd.fields.length;have b:=h kd (zG a);omega
 .simp
variable{α:Type}
def QJ{q:Nat}{g:Nat->List α}{a:α}:a∈am q g↔∃i,i<q/\a∈g i:=by
 unfold am;rw[List.mem_flatMap];constructor
 .rintro⟨i,h,b⟩;exact⟨i,xT.1 h,b⟩
 .rintro⟨i,h,b⟩;exact⟨i,xT.2 h,b⟩
def aN5{x:ak}{r:Rf}(h:r∈bJ x):∃kd f,x.kz[r.kind]?=some kd/\kd.fields[r.field]?=some f/\f.kind=1/\r.up=aG x r.kind r.field/\r.least=f.lo:=by
 obtain⟨k,c,h⟩:=QJ.1 h;unfold fL at h;split at h
 .rename_i kd d;obtain⟨i,e,h⟩:=QJ.1 h;unfold dL at h;split at h
  .rename_i f a;split at h
   .rename_i b;rw[zN]at h;subst h;exact⟨kd,f,d,a,b,rfl,rfl⟩
   .cases h
  .cases h
 .cases h
def p8(w:Wd)(r:Rf)(l:List Int):Bool:=!(decide (l.getD r.field 0<0)||decide ((w.getD r.up.toNat []).length<=l.getD r.field 0))
def tZ(x:ak)(k:Nat)(l:List Int):Bool:=decide (l.length=(match x.kz[k]? with|some kd=>kd.fields.length|none=>0))
def cw{l:List α}{i:Nat}{a:α}(h:l[i]?=some a)(d:α):l.getD i d=a:=by simp[List.getD_eq_getElem?_getD,h]
end
section
open Go
def IF(r:Rf):List D:=[iD r.kind,iD r.field,iD r.up,iD r.least]
def gc(l:List (List Int)):D:=.sl 1 (l.map λr=>[bv r])
def fI(w:Wd):D:=.sl 1 (w.map λl=>[gc l])
def slB(l:List Bool):D:=.sl 1 (l.map λb=>[bD b])
def KJ(k i:Int):List D:=[iD k,iD i]
end
section
open Go Go.RowKit Go.Shelf
structure Gk(P:Program)(gf:FuncId)(caps:List D)(its:List (List D)):Prop where
 ent:Enters P gf
 run:∀(O:Nat->Prop)(W:World)(lb:List Value),bj W O caps lb->∃vsl:List (List Value),vsl.length=its.length/\(∀(k:Nat)x vs,its[k]?=some x->vsl[k]?=some vs->bj W O x vs) /\
  ∀(l:Nat)(J Jx:Nat->World->Prop),(∀k A B,J k A->Ex A B->J k B)->(∀k A B,Jx k A->Ex A B->Jx k B) ->
   (∀(k:Nat)vs W1,vsl[k]?=some vs->J k W1->YieldAt Fence.wide 7 P l vs.toArray W1 λe W'=>
    (e= .returned (.bool true)/\J (k+1) W'/\W1.heap.size<=W'.heap.size/\∀b,b<W.heap.size->¬O b->W'.heap[b]?=W1.heap[b]?)\/(e= .returned (.bool false)/\Jx (k+1) W')) ->
   J 0 W->CallsIn Fence.wide 8 P gf (#[.func (.yield l) #[] #[]]++lb.toArray) W λe W'=>∃v,e= .returned v/\(J its.length W'\/∃k,Jx k W')
section
variable {P:Program} {r:Option Nat} {n:Nat} {df:Nat} {Q:fG} {a:List D} {σ σ':ae} {w w':World} {X:Nat->Prop}
variable{fr:Act}
def St.mv(h:St w X df a σ fr)(m:Mv w σ w' σ')(s:aW w' X σ'):St w' X df a σ' fr:=by
 have O:∀b,b<w.heap.size->¬ay σ X b->¬ay σ' X b:=λb c n o=>by
  rcases o with o|o
  .exact n (.inl o)
  .rcases m.new b o with d|d
   .exact n (.inr d)
   .omega
 have S:∀b,b<w.heap.size->¬ay σ X b->w'.heap[b]?=w.heap[b]?:=λb c n=>m.keep.block b c (λk=>n (.inr k));exact⟨h.fr.keep m.keep.size O S,s,h.df.keep m.keep.size O S⟩
def St.turn(h:St w X df a σ fr){D:Nat}{o o':Obj}(p:6<=D)(O:¬ay σ X D)(f:w.heap[D]?=some o)(g:o.isCells=false)(m:∀u c,o ≠ .map u c)(l:∀d,o ≠ .deferred d):St (w.putObj D o') X df a σ fr:=by
 refine⟨h.fr.of_cells (Nat.le_of_eq (QV _ _).symm) (aH9 f g),h.st.turn p O f g m,?_⟩;obtain⟨t,v,s,r,q⟩:=h.df;refine⟨by rw[QV];exact t,v,s,r,λb n=>?_⟩;obtain⟨j,i,k⟩:=q b n;exact⟨j,i,(World.putObj_heap_other (λe=>by subst e;rw[f]at k;cases k;exact l _ rfl)).trans k⟩
def Mv.turn(h:Mv w σ w' σ'){l:Nat}(c:w.heap.size<=l)(o:Obj):Mv w σ (w'.putObj l o) σ':=
 ⟨⟨h.keep.os,h.keep.tape,h.keep.output,by rw[QV];exact h.keep.size,λb a n=>(World.putObj_heap_other (λe=>by omega)).trans (h.keep.block b a n)⟩,h.new⟩
def GO(a:List D)(ps:List Tmp)(x:List D):List D:=(ps.zip x).foldl (λa p=>a.set p.1 p.2) a
def P6{O:Nat->Prop}{t:Array Value}(h:FR w O a t){d:D}{u:Value}(b:Rd w O d u)(i:Nat):FR w O (a.set i d) (t.setIfInBounds i u):=by
 have:=FR.put (fr:=⟨t,[]⟩) h b (some i);exact this
def oO{O:Nat->Prop}:∀(s:List Tmp){x:List D}{vs:List Value}{a:List D}{t:Array Value},FR w O a t->bj w O x vs->FR w O (GO a s x) ((s.zip vs).foldl (λt(p,v)=>t.setIfInBounds p v) t)
 |[],x,vs,a,t,h,_=>by simpa [GO]using h
 |p::s,[],vs,a,t,h,r=>by
  have:vs=[]:=by have:=r.len;simpa using this
  subst this
  simpa [GO]using h
 |p::s,d::x,[],a,t,h,r=>by have:=r.len;simp at this
 |p::s,d::x,v::vs,a,t,h,r=>by
  have l:bj w O x vs:=⟨by have:=r.len;simpa using this,λj d u c b=>r.at_ (j+1) d u (by simpa using c) (by simpa using b)⟩
  have:=oO s (P6 h (r.at_ 0 d v rfl rfl) p) l
  simpa [GO]using this
def B4(Q:fG)(a:List D){γ:Type}(S:γ->ae)(I:γ->Prop):fG
 |.normal,_,σ'=>∃g,(S g).Sublist σ'/\I g
 |.ret,_,σ'=>Q .ret a σ'
 |.exit id,_,σ'=>Q (.exit id) a σ'
 |_,_,_=>False
def ri(m:Mv w σ w' σ'){b:Nat}(c:b<w.heap.size)(n:¬ay σ X b):¬ay σ' X b:=λh=>by
 rcases h with h|h
 .exact n (.inl h)
 .rcases m.new b h with a|a
  .exact n (.inr a)
  .omega
def yo{g:Operand}{ps:Array Tmp}{assign body:Code}{gf:FuncId}{caps:List D}{s:List (List D)}(hit:Gk P gf caps s)(hg:iy a g= .clo gf caps)(hps:∀x∈s,x.length=ps.size)
  {γ:Type} (S:Nat->γ->ae) (I:Nat->γ->Prop) (V:γ) (R:(S 0 V).Sublist σ) (h0:I 0 V)
  (round:∀(l:Nat)(k:Nat)i x,s[k]?=some x->I k i->ey P (some l) 7 0 assign (A1 (ey P (some l) 7 0 body (B4 Q a (S (k+1)) (I (k+1)))) (λ_ _ _=>False)) (GO a ps.toList x) (S k i))
  (done:∀i,I s.length i->Q .normal a (S s.length i)):ey P none 9 df (.rangeFunc g ps assign body) Q a σ:=by
 refine⟨λw X fr hs=>?_⟩;have hv:=hs.fr.eval g;rw[hg]at hv;obtain⟨lb,hgv,hlb⟩:=hv.clo_inv;refine wpIn_rangeFunc ?_;intro fn hfn;rw[show(FW none).round=none from rfl];obtain⟨r,f⟩:∃r:LoopState->Option Code->Loop,r=λst pe=>{ state:=st,pending:=pe,fn,tmps:=fr.tmps,params:=ps,assign,body,defers:=w.heap.size }:=⟨_,rfl⟩
 obtain⟨C,U⟩:∃C,(w.alloc (.deferred (some []))).alloc (.loop (r .ready none))=C:=⟨_,rfl⟩
 have hL1:C.heap[w.heap.size+1]?=some (.loop (r .ready none)):=by
  rw[←U];have:=World.alloc_heap_new (w.alloc (.deferred (some []))) (.loop (r .ready none));rwa [World.size_alloc]at this
 have T:Ex w C:=by rw[←U];exact((Ex.refl w).alloc).alloc
 have hK1:C.heap[w.heap.size]?=some (.deferred (some [])):=by
  rw[←U];exact(Below.heap_alloc _ _ _ (by simp)).trans (World.alloc_heap_new w _)
 have hz1:C.heap.size=w.heap.size+2:=by rw[←U];simp
 have h5:6<=w.heap.size:=hs.st.gok.sz;obtain⟨m,z⟩:∃m:Act,m={ fr with defers:=RO w.heap.size::fr.defers }:=⟨_,rfl⟩
 have hnD:¬ay σ X w.heap.size:=Se hs.st (zT _);have hnl:¬ay σ X (w.heap.size+1):=Se hs.st (Nat.le_succ _);have hs1:St C X df a σ m:=by
  have:=hs.ex T;refine⟨by rw[z];exact this.fr,this.st,?_⟩;obtain⟨k0,bs,k1,k2,k3⟩:=this.df;have k0':=hs.df.1;refine⟨k0,w.heap.size::bs,by rw[z,k1];rfl,wZ.2 ⟨λhm=>?_,k2⟩,λb E=>?_⟩
  .obtain⟨_,bs0,N,_,H⟩:=hs.df;have e:bs0.map RO=bs.map RO:=N.symm.trans k1;have hinj:bs0=bs:=by
    have:=zM (List.map (λd:Deferred=>match d.target with|.collected b=>b|_=>0)) e
    simpa [RO,vA,Function.comp_def]using this
   rw[←hinj]at hm;have:=(zX.1 (H _ hm).2.2).1;omega
  .rcases zU.1 E with rfl|E
   .exact⟨k0',hnD,hK1⟩
   .exact k3 b E
 refine⟨w.heap.size+1,[{ target:=.collected w.heap.size,args:=#[] }],C,{ target:=.fn (.func gf) lb.toArray,args:=#[.func (.yield (w.heap.size+1)) #[] #[]] },C,gf,
  #[.func (.yield (w.heap.size+1)) #[] #[]]++lb.toArray,C,?_,?_,?_,?_,(λhd=>by simp[FW,Fence.wide]at hd),?_⟩
 .rw[←U,f];exact run_enterLoop_outer _ _ _ _ _
 .simp only[resolve,hgv];simp[go_sem]
 .intro f' hf';simp[Target.leads]at hf';trivial
 .simp only[invoke];exact hit.ent _ _
 .obtain⟨O,hO⟩:∃O:Nat->Prop,O=λb=>ay σ X b\/b=w.heap.size\/b=w.heap.size+1:=⟨_,rfl⟩
  have hnO:∀{b:Nat},¬O b->¬ay σ X b/\b≠w.heap.size/\b≠w.heap.size+1:=λ{b}h=>by
   rw[hO]at h;exact⟨λh1=>h (.inl h1),λh1=>h (.inr (.inl h1)),λh1=>h (.inr (.inr h1))⟩
  obtain⟨vsl,hvl,hvr,hrun⟩:=hit.run O C lb (hlb.keep T.size (λb E q=>by
   rw[hO];rintro(h|h|h)
   .exact q h
   .omega
   .omega) (λb E _=>T.block b E))
  have hcall:=hrun (w.heap.size+1)
   (λk W=>∃i,I k i/\St W X df a (S k i) m/\Mv w σ W (S k i)/\C.heap.size<=W.heap.size/\W.heap[w.heap.size+1]?=some (.loop (r .ready none))/\¬ay (S k i) X (w.heap.size+1))
   (λ_ W=>∃τ e c,(e= .ret/\c= .ret\/∃id,e= .exit id/\c= .exit id)/\Q e a τ/\St W X df a τ m/\Mv w σ W τ/\W.heap[w.heap.size+1]?=some (.loop (r .done (some c)))/\¬ay τ X (w.heap.size+1))
   (λk A B⟨i,N,M,H,q4,F,Y⟩hx=>⟨i,N,M.ex hx,H.trans (kE hx),xH q4 hx.size,(hx.block _ (zX.1 F).1).trans F,Y⟩)
   (λk A B⟨τ,e,c,N,M,H,q4,F,Y⟩hx=>⟨τ,e,c,N,M,H.ex hx,q4.trans (kE hx),(hx.block _ (zX.1 F).1).trans F,Y⟩)
   ?_ ⟨V,h0,⟨hs1.fr.keep (zT _) (λx _ q=>sg R x q) (λ_ _ _=>rfl),hs1.st.sub R,hs1.df.keep (zT _) (λx _ q=>sg R x q) (λ_ _ _=>rfl)⟩,
    (kE T).fewer (λb E=>(R.map Prod.fst).subset E),zT _,hL1,sg R _ hnl⟩
  .refine hcall.mono ?_;rintro e W2 ⟨v,rfl,(⟨i,N,M,H,q4,F,Y⟩|⟨_,τ,e,c,N,M,H,q4,F,Y⟩)⟩
   .refine⟨none,_,by have:=run_endLoop (P:=P) F (by rw[f];simp);rw[f]at this;exact this,?_⟩;refine⟨a,S s.length i,done i N,?_,H.turn (Nat.le_succ _) _⟩;have:=M.turn (o':=.loop { r .ready none with state:=.exhausted }) (by omega) Y F rfl (λ_ _ h=>by cases h) (λ_ h=>by cases h);rw[z,f]at this;exact this
   .refine⟨some c,_,by have:=run_endLoop (P:=P) F (by rw[f];simp);rw[f]at this;exact this,?_⟩;have hst:=H.turn (o':=.loop { r .done (some c)with state:=.exhausted }) (by omega) Y F rfl (λ_ _ h=>by cases h) (λ_ h=>by cases h);rw[z,f]at hst;have hmv:=q4.turn (Nat.le_succ _) (.loop { r .done (some c)with state:=.exhausted });rw[f]at hmv;rcases N with⟨rfl,rfl⟩|⟨id,rfl,rfl⟩
    .exact wpIn_ret ⟨a,τ,M,hst,hmv⟩
    .exact wpIn_exit ⟨a,τ,M,hst,hmv⟩
  ·-- one round
   rintro k vs Z hvk ⟨i,N,M,H,q4,F,Y⟩;have hkl:k<s.length:=by rw[←hvl];exact(zE.1 hvk).1
   obtain⟨x,hx⟩:∃x,s[k]?=some x:=⟨_,zD hkl⟩
   have hlc:w.heap.size+1<Z.heap.size:=(zX.1 F).1;have J:∀b,b<C.heap.size->¬O b->¬ay (S k i) X b/\Z.heap[b]?=C.heap[b]?:=λb E q=>by
    obtain⟨n1,n2,n3⟩:=hnO q;have K:b<w.heap.size:=by omega
    exact⟨ri H K n1,(H.keep.block b K (λh=>n1 (.inr h))).trans (T.block b K).symm⟩
   have hxv:bj Z (ay (S k i) X) x vs:=(hvr k x vs hx hvk).keep q4 (λb E q=>(J b E q).1) (λb E q=>(J b E q).2);have hsz:vs.toArray.size=ps.size:=by simp[hxv.len,hps x (zG hx)]
   have hy:=run_yield (P:=P) (args:=vs.toArray) F (by rw[f];exact hsz);rw[f]at hy;refine⟨fn,_,assign,body,hy,?_⟩;have hzip:((ps.zip vs.toArray).foldl (λt(p:Tmp×Value)=>t.setIfInBounds p.1 p.2) fr.tmps)=((ps.toList.zip vs).foldl (λt(p:Tmp×Value)=>t.setIfInBounds p.1 p.2) fr.tmps):=by
    rw[←Array.foldl_toList];simp
   have hfr0:FR Z (ay (S k i) X) a fr.tmps:=by have:=M.fr;rw[z]at this;exact this
   have hst0:St Z X 0 (GO a ps.toList x) (S k i) { tmps:=(ps.zip vs.toArray).foldl (λt(p:Tmp×Value)=>t.setIfInBounds p.1 p.2) fr.tmps,defers:=[] }:=
    ⟨by rw[hzip];exact oO ps.toList hfr0 hxv,M.st,Gg.nil (zW _)⟩
   refine roundIn_of_wpIn hfn (wpIn_mono ((round (w.heap.size+1) k i x hx N).run Z X _ hst0) ?_);rintro e a1 w1 ⟨a1',σ1,hA,hst1,y⟩
   cases e with
   |normal=>
    have hl1:w1.heap[w.heap.size+1]?=some (.loop (r .ready none)):=(y.keep.block _ hlc (λh=>Y (.inr h))).trans F;have hn1:¬ay σ1 X (w.heap.size+1):=ri y hlc Y;refine⟨_,run_beginRound hl1 (by rw[f]),?_⟩;have hl1s:=(zX.1 hl1).1;have hl2:(w1.putObj (w.heap.size+1) (.loop { r .ready none with state:=.busy })).heap[w.heap.size+1]?=some (.loop { r .ready none with state:=.busy }):=World.putObj_heap_same hl1s;have hst2:=hst1.turn (o':=.loop { r .ready none with state:=.busy }) (by omega) hn1 hl1 rfl (λ_ _ h=>by cases h) (λ_ h=>by cases h);have hout1:St w1 X df a σ1 m:=M.mv y hst1.st;have hout2:=hout1.turn (o':=.loop { r .ready none with state:=.busy }) (by omega) hn1 hl1 rfl (λ_ _ h=>by cases h) (λ_ h=>by cases h);have hmv2:Mv w σ (w1.putObj (w.heap.size+1) (.loop { r .ready none with state:=.busy })) σ1:=(H.trans y).turn (Nat.le_succ _) _;have hA:ey P (some (w.heap.size+1)) 7 0 body (B4 Q a (S (k+1)) (I (k+1))) a1' σ1:=hA;refine wpIn_mono (hA.run _ X a1 hst2) ?_;rintro e3 a3 W3 ⟨a3',σ3,L,hst3,u⟩;have hl2s:w.heap.size+1<(w1.putObj (w.heap.size+1) (.loop { r .ready none with state:=.busy })).heap.size:=by rw[QV];exact hl1s
    have hl3:W3.heap[w.heap.size+1]?=some (.loop { r .ready none with state:=.busy }):=(u.keep.block _ hl2s (λh=>hn1 (.inr h))).trans hl2;have hn3:¬ay σ3 X (w.heap.size+1):=ri u hl2s hn1;have hl3s:=(zX.1 hl3).1;have hout3:St W3 X df a σ3 m:=hout2.mv u hst3.st;have G:Mv w σ W3 σ3:=hmv2.trans u;have fin:∀(j:Option Code),(Instr.endRound (w.heap.size+1) j).run P W3= .ok (.bool j.isNone) (W3.putObj (w.heap.size+1) (.loop (r (if j.isNone then .ready else .done) j))) /\
      (W3.putObj (w.heap.size+1) (.loop (r (if j.isNone then .ready else .done) j))).heap[w.heap.size+1]?=some (.loop (r (if j.isNone then .ready else .done) j)) /\
      St (W3.putObj (w.heap.size+1) (.loop (r (if j.isNone then .ready else .done) j))) X df a σ3 m:=λj=>by
     have:=run_endRound (P:=P) j hl3;refine⟨by rw[f]at this⊢;exact this,World.putObj_heap_same hl3s,hout3.turn (by omega) hn3 hl3 rfl (λ_ _ h=>by cases h) (λ_ h=>by cases h)⟩
    have hkp:∀(o:Obj)(b:Nat),b<C.heap.size->¬O b->(W3.putObj (w.heap.size+1) o).heap[b]?=Z.heap[b]?:=λo b E q=>by
     obtain⟨n1,n2,n3⟩:=hnO q;have K:b<w.heap.size:=by omega
     have h1:=G.keep.block b K (λh=>n1 (.inr h));have h2:=H.keep.block b K (λh=>n1 (.inr h));exact(World.putObj_heap_other n3).trans (h1.trans h2.symm)
    have hzz:∀o:Obj,Z.heap.size<=(W3.putObj (w.heap.size+1) o).heap.size:=λo=>by
     have h1:=y.keep.size;have h2:=u.keep.size;rw[QV]at h2⊢;omega
    have pend:∀(e0:Exit)(c:Code),(e0= .ret/\c= .ret\/∃id,e0= .exit id/\c= .exit id)->Q e0 a σ3->∃v w',(Instr.endRound (w.heap.size+1) (some c)).run P W3= .ok v w' /\
      ((Ending.returned v= .returned (.bool true)/\(∃i,I (k+1) i/\St w' X df a (S (k+1) i) m/\Mv w σ w' (S (k+1) i)/\C.heap.size<=w'.heap.size/\w'.heap[w.heap.size+1]?=some (.loop (r .ready none))/\¬ay (S (k+1) i) X (w.heap.size+1))/\Z.heap.size<=w'.heap.size/\∀b,b<C.heap.size->¬O b->w'.heap[b]?=Z.heap[b]?) \/
       (Ending.returned v= .returned (.bool false)/\∃τ e c,(e= .ret/\c= .ret\/∃id,e= .exit id/\c= .exit id)/\Q e a τ/\St w' X df a τ m/\Mv w σ w' τ/\w'.heap[w.heap.size+1]?=some (.loop (r .done (some c)))/\¬ay τ X (w.heap.size+1))):=λe0 c hec hq=>by
     obtain⟨f1,f2,f3⟩:=fin (some c);exact⟨_,_,f1,.inr ⟨rfl,σ3,e0,c,hec,hq,f3,G.turn (Nat.le_succ _) _,f2,hn3⟩⟩
    cases e3 with
    |normal=>
     obtain⟨g',n,hI'⟩:=L;obtain⟨f1,f2,f3⟩:=fin none;refine⟨_,_,f1,.inl ⟨rfl,⟨g',hI',?_,?_,xH q4 (hzz _),f2,sg n _ hn3⟩,hzz _,hkp _⟩⟩
     .exact⟨f3.fr.keep (zT _) (λx _ q=>sg n x q) (λ_ _ _=>rfl),f3.st.sub n,f3.df.keep (zT _) (λx _ q=>sg n x q) (λ_ _ _=>rfl)⟩
     .exact(G.turn (Nat.le_succ _) _).fewer (λb E=>(n.map Prod.fst).subset E)
    |ret=>exact pend .ret .ret (.inl ⟨rfl,rfl⟩) L
    |exit id=>exact pend (.exit id) (.exit id) (.inr ⟨id,rfl,rfl⟩) L
    |goto t=>exact L.elim
    |panic c=>exact L.elim
    |outgrown=>exact L.elim
   |exit id=>exact hA.elim
   |goto t=>exact hA.elim
   |ret=>exact hA.elim
   |panic c=>exact hA.elim
   |outgrown=>exact hA.elim
end
section
variable {P:Program} {df:Nat} {N:Nat} {σ:ae} {a:List D} {f:aP} {T:TypeId->Option TI} {Q:ik}
def O7(Q:ik)(f:aP){γ:Type}(S:γ->ae)(I:γ->Prop):ik
 |.normal,_,σ'=>∃g,(S g).Sublist σ'/\I g
 |.ret,_,σ'=>Q .ret f σ'
 |.exit id,_,σ'=>Q (.exit id) f σ'
 |_,_,_=>False
def u7:List Tmp->List D->aP->aP
 |p::s,d::x,f=>u7 s x ((p,d)::f)
 |_,_,f=>f
def sH:∀{s:List Tmp}{x:List D}{a:List D}{f:aP},(s.all λp=>Nat.blt p N)=true->Sp N a f->Sp N (GO a s x) (u7 s x f)
 |[],x,a,f,_,h=>by simpa [GO,u7]using h
 |p::s,[],a,f,_,h=>by simpa [GO,u7]using h
 |p::s,d::x,a,f,b,h=>by
  simp only[List.all_cons,zJ,wT]at b;have:=sH (x:=x) b.2 (h.set (d:=d) b.1)
  simpa [GO,u7]using this
def DM(C:P.follows .mixedOrders=true)(E:∀t i,T t=some i->aH P t=some i){g:Operand}{ps:Array Tmp}{n y:Code}{gf:FuncId}{j:List D}{s:List (List D)}(G:aN f g= .clo gf j)(hit:Gk P gf j s)(z:∀x∈s,x.length=ps.size)(A:(ps.toList.all λp=>Nat.blt p N)=true)
  {γ:Type} (S:Nat->γ->ae) (I:Nat->γ->Prop) (b:γ) (v:(S 0 b).Sublist σ) (H:I 0 b)
  (r:∀(l k:Nat)d x,s[k]?=some x->I k d->W (m5 P T (some l) 7 0 N n (nA (m5 P T (some l) 7 0 N y (O7 Q f (S (k+1)) (I (k+1)))) (λ_ _ _=>False)) (u7 ps.toList x f) (S k d)))
  (u:∀d,I s.length d->W (Q .normal f (S s.length d))):Lp P none 9 df N (.rangeFunc g ps n y) Q f σ:=by
 refine⟨λa q=>?_⟩;refine yo hit (q.eq G (λh=>by cases h)) z S I b v H (λl k d x hx B=>?_) (λd B=>⟨f,q,(u d B).h⟩);refine NO (NP C E (r l k d x hx B).h (sH A q)) ?_;rintro e K σ1 ⟨f1,w,o⟩
 cases e with
 |normal=>
  refine NO (NP C E o w) ?_;rintro e J σ2 ⟨f2,F,m⟩
  cases e with
  |normal=>exact m
  |ret=>exact⟨f,q,m⟩
  |exit id=>exact⟨f,q,m⟩
  |goto t=>exact m.elim
  |panic c=>exact m.elim
  |outgrown=>exact m.elim
 |exit id=>exact o.elim
 |goto t=>exact o.elim
 |ret=>exact o.elim
 |panic c=>exact o.elim
 |outgrown=>exact o.elim
end
end
end Go.Proofs.YtilnpcolgcmofaaGreatDoor
