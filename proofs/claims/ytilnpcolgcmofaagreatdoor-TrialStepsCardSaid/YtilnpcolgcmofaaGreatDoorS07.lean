/- A part of the proof: Ew Rg Bo Bt Ys. -/
import Derived.Test.YtilnpcolgcmofaaGreatDoorS06
import Derived.Laws.Cover3
import Derived.Laws.Small
set_option maxRecDepth 100000
set_option maxHeartbeats 20000000
set_option linter.all false
namespace Go.Proofs.YtilnpcolgcmofaaGreatDoor
open Tryz
section
open Go Go.RowKit Go.Shelf
section
variable {P:Program} {σ τ:af} {T:TypeId->Option TI} {w:World}
theorem Rd.stable{O:Nat->Prop}{d:D}{u:Value}(h:Rd w O d u):Rd w (λ_=>False) d u:=
 h.keep (zT _) (λ_ _ _ h=>h) (λ_ _ _=>rfl)
theorem bb.stable{O:Nat->Prop}{d:List D}{u:List Value}(h:bb w O d u):bb w (λ_=>False) d u:=
 h.keep (zT _) (λ_ _ _ h=>h) (λ_ _ _=>rfl)
structure Pk(σ:af)(d d':D):Prop where
 run:∀(w:World)(X:Nat->Prop)(u:Value),aU w X σ->Rd w (ay σ X) d u->Rd w (λ_=>False) d' u
inductive jn(σ:af):List D->List D->Prop
 |nil:jn σ [] []
 |cons {d d':D} {ds ds':List D} (h:Pk σ d d') (t:jn σ ds ds'):jn σ (d::ds) (d'::ds')
theorem Pk.same(d:D):Pk σ d d:=⟨λ_ _ _ _ h=>h.stable⟩
theorem Pk.le{d d':D}(h:Le d d'):Pk σ d d':=⟨λ_ _ _ _ k=>h _ _ _ k.stable⟩
theorem Pk.row{e:TypeId}{k:Nat}{xs:List (List D)}{v:Value}{s:af}(h:ae e k xs v s)(p:σ.Perm (s++τ)):Pk σ (.v v) (.sl k xs):=
 ⟨λw X u a r=>by have:=r.val rfl;subst this;exact(Mn h (a.perm p)).stable⟩
theorem jn.rd{e a:List D}(h:jn σ e a){X:Nat->Prop}(f:aU w X σ):∀{s:List Value},bb w (ay σ X) e s->bb w (λ_=>False) a s:=by
 induction h with
 |nil=>exact λh=>⟨h.len,λj d u c=>by simp at c⟩
 |cons h t i=>
  intro vs b
  cases vs with
  |nil=>have:=b.len;simp at this
  |cons v vs=>
   exact .cons (h.run _ _ _ f (b.at_ 0 _ _ rfl rfl)) (i ⟨by have:=b.len;simpa using this,λj d u c g=>b.at_ (j+1) d u (by simpa using c) (by simpa using g)⟩)
theorem Pk.agg{s d:List D}(h:jn σ s d):Pk σ (.agg s) (.agg d):=⟨λw X u a r=>by
 obtain⟨vs,rfl,b⟩:=r.agg_inv;have:=h.rd a b;exact .agg _ _ this.len this.at_⟩
theorem Pk.clo{f:FuncId}{s d:List D}(h:jn σ s d):Pk σ (.clo f s) (.clo f d):=⟨λw X u a r=>by
 obtain⟨vs,rfl,b⟩:=r.clo_inv;have:=h.rd a b;exact .clo _ _ _ this.len this.at_⟩
theorem jn.refl:∀s:List D,jn σ s s
 |[]=>.nil
 |d::s=>.cons (Pk.same d) (jn.refl s)
theorem Pk.ptr{j b:Nat}{tb:TypeId}{cs cs':List D}(i:σ[j]?=some (b,.cells tb cs))(h:jn σ cs cs'):Pk σ (.v (.pointer (some ⟨b,0,none⟩))) (.ro cs'):=⟨λw X u c r=>by
 have:=r.val rfl;subst this;obtain⟨_,o,a,vs,rfl,s⟩:=c.at_ b _ (zG i);have r:=h.rd c s;refine .ro _ _ _ (λm=>vs.getD m undef) (λh=>h) (zX.1 a).1 (λm f=>?_) (λm d g=>?_)
 .have:m<vs.length:=by rw[r.len];exact f
  simp[World.cell?,a,this]
 .obtain⟨u,e,k⟩:=r.get g
  simpa [List.getD_eq_getElem?_getD,e]using k⟩
def isV:D->Bool
 |.v _=>true
 |_=>false
def sJ:D->Bool
 |.v _=>true
 |.tup d=>d.all isV
 |.agg d=>d.all isV
 |_=>false
theorem qj{O b:Nat->Prop}{w':World}{d:D}{u:Value}(h:Rd w O d u)(a:isV d=true):Rd w' b d u:=by
 cases d<;>first|(have:=h.val rfl;subst this;exact .v _)|cases a
theorem kU{O e:Nat->Prop}{d:D}{u:Value}(h:Rd w O d u)(b:sJ d=true):Rd w e d u:=by
 cases d with
 |v x=>exact qj h rfl
 |tup s=>
  obtain⟨vs,rfl,a⟩:=h.tup_inv;exact .tup _ _ a.len λj d u g c=>qj (a.at_ j d u g c) (yA.1 b _ (zG g))
 |agg s=>
  obtain⟨vs,rfl,a⟩:=h.agg_inv;exact .agg _ _ a.len λj d u g c=>qj (a.at_ j d u g c) (yA.1 b _ (zG g))
 |_=>cases b
theorem gK.peek{g:FuncId}{args a:List D}{d:D}(p:jn σ args a)(h:APure P g a d)(f:sJ d=true):gK P g args σ d:=
 ⟨h.ent,λw X vs v s=>(h.run w (λ_=>False) vs (p.rd s v) (s.gok.mono (λb c=>c.elim))).mono λe w'⟨u,k,j,i⟩=>⟨u,k,kU j f,i⟩⟩
theorem gK.le{g:FuncId}{args a:List D}{d:D}(l:fN args a)(h:APure P g a d):gK P g args σ d:=
 ⟨h.ent,λw X vs v s=>h.run w _ vs (l.rd v) s.gok⟩
structure eX(σ:af)(ds:List D)(σ':af)(ds':List D):Prop where
 run:∀(w:World)(X:Nat->Prop)(us:List Value),aU w X σ->bb w (ay σ X) ds us->aU w X σ'/\bb w (ay σ' X) ds' us
 sub:∀b,b∈aQ σ'->b∈aQ σ
theorem aY4{σ':af}{X:Nat->Prop}(h:∀b,b∈aQ σ'->b∈aQ σ)(b:Nat)(n:¬ay σ X b):¬ay σ' X b:=λo=>n (o.imp id (h b))
theorem eX.nil(σ:af):eX σ [] σ []:=⟨λ_ _ _ b a=>⟨b,a⟩,λ_ h=>h⟩
theorem eX.cons{σ' σ'':af}{d d':D}{s a:List D}(h:Vs σ d σ' d')(t:eX σ' s σ'' a):eX σ (d::s) σ'' (d'::a):=
 ⟨λw X c f r=>by
  cases c with
  |nil=>have:=r.len;simp at this
  |cons v vs=>
   obtain⟨p,o⟩:=h.run w X v f (r.at_ 0 _ _ rfl rfl);have l:bb w (ay σ X) s vs:=⟨by have:=r.len;simpa using this,λj d u m i=>r.at_ (j+1) d u (by simpa using m) (by simpa using i)⟩
   obtain⟨e,k⟩:=t.run w X vs p (l.keep (zT _) (λb _ n=>aY4 h.sub b n) (λ_ _ _=>rfl));exact⟨e,.cons (o.keep (zT _) (λb _ n=>aY4 t.sub b n) (λ_ _ _=>rfl)) k⟩,λb g=>h.sub b (t.sub b g)⟩
theorem Vs.tup{σ':af}{s d:List D}(h:eX σ s σ' d):Vs σ (.tup s) σ' (.tup d):=⟨λw X u a r=>by
 obtain⟨vs,rfl,b⟩:=r.tup_inv;obtain⟨c,g⟩:=h.run w X vs a b;exact⟨c,.tup _ _ g.len g.at_⟩,h.sub⟩
theorem Vs.agg{σ':af}{s d:List D}(h:eX σ s σ' d):Vs σ (.agg s) σ' (.agg d):=⟨λw X u a r=>by
 obtain⟨vs,rfl,b⟩:=r.agg_inv;obtain⟨c,g⟩:=h.run w X vs a b;exact⟨c,.agg _ _ g.len g.at_⟩,h.sub⟩
theorem wy{σ':af}(h:σ.Perm σ')(b:Nat)(a:b∈aQ σ'):b∈aQ σ:=(h.map Prod.fst).mem_iff.2 a
theorem Vs.row{e:TypeId}{k:Nat}{xs:List (List D)}{v:Value}{s:af}(h:ae e k xs v s)(p:σ.Perm (s++τ)):Vs σ (.v v) τ (.sl k xs):=
 ⟨λw X u a r=>by
  have:=r.val rfl;subst this;exact⟨(a.perm p).sub (wI _ _),Mn h (a.perm p)⟩,λb c=>wy p b (by rw[eW];exact yW _ c)⟩
theorem Vs.drop{d:D}(h:τ.Sublist σ):Vs σ d τ d:=
 ⟨λw X u e c=>⟨e.sub h,c.keep (zT _) (λb _ n=>qO h b n) (λ_ _ _=>rfl)⟩,λb a=>(h.map Prod.fst).subset a⟩
theorem Vs.perm{d:D}(h:σ.Perm τ):Vs σ d τ d:=
 ⟨λw X u c a=>⟨c.perm h,a.keep (zT _) (λb _ n=>aY4 (wy h) b n) (λ_ _ _=>rfl)⟩,wy h⟩
def yG:=@List.sublist_cons_self
theorem Vs.ptr{b:Nat}{tb:TypeId}{cs:List D}(p:σ.Perm ((b,.cells tb cs)::τ)):Vs σ (.v (.pointer (some ⟨b,0,none⟩))) τ (.ro cs):=
 ⟨λw X u i r=>by
  have:=r.val rfl;subst this;have c:=i.perm p;have a:τ.Sublist ((b,aE.cells tb cs)::τ):=yG _ _;obtain⟨q,t,e,vs,rfl,s⟩:=c.at_ b _ yN;have O:¬ay τ X b:=by
   rintro(h|h)
   .exact q h
   .have f:=c.nodup;simp only[aQ,List.map_cons,wZ]at f;exact f.1 h
  refine⟨c.sub a,.ro _ _ _ (λm=>vs.getD m undef) O (zX.1 e).1 (λm j=>?_) (λm d l=>?_)⟩
  .have:m<vs.length:=by rw[s.len];exact j
   simp[World.cell?,e,this]
  .obtain⟨u,g,k⟩:=s.get l;have:Rd w (ay τ X) d u:=k.keep (zT _) (λb _ n=>qO a b n) (λ_ _ _=>rfl)
   simpa [List.getD_eq_getElem?_getD,g]using this,λb o=>wy p b (yQ _ o)⟩
inductive oQ(f':aM):aM->Prop
 |nil:oQ f' []
 |cons {i:Nat} {d:D} {F:aM} (h:gn f' i=some d) (t:oQ f' F):oQ f' ((i,d)::F)
theorem aj{f F:aM}(h:oQ f F):dK f F:=by
 induction h with
 |nil=>rfl
 |cons h t i=>unfold dK at *;simp only[List.map_cons,h,i]
theorem ci.yd{P:Program}{r:Option Nat}{n df N:Nat}{L:List Oper}{o:Oper}{f:aM}{K:aM->af->Prop}{d:D}(e:iR o.op=true)(h:Yd P o (aK f) σ d)(k:W (aR N o.dst d f (λc=>K c σ))):ci P r n df L N o f σ K:=
 ⟨λt Q a s w g=>by obtain⟨c,b,i⟩:=fE k.h s;exact te w e (h.le s.le) (g _ _ _ i b)⟩
theorem lU(x:P.follows .mixedOrders=true)(y:∀t i,T t=some i->aD P t=some i){r:Option Nat}{n:Nat}{df:Nat}{N:Nat}{f:aM}{Q:gJ}{c:Code}{γ:Type}(p:γ->aM)(S:γ->af)(I:γ->Prop)(μ:γ->Nat)(b:γ)
  (E:dK f (gC c f (p b))) (D:(S b).Sublist σ) (C:I b)
  (B:∀g,I g->W (Fj (gC c f (p g)) λF=>lP P T r n df N c (l5 (λl σ'=>∃d,dK l (gC c f (p d))/\(S d).Sublist σ'/\I d/\μ d < μ g) Q) F (S g))) :
  Lp P r n df N (.loop c) Q f σ:=by
 refine⟨λa w=>?_⟩;refine bb3 (λm a σ=>∃g,μ g=m/\I g/\Sp N a (gC c f (p g))/\(S g).Sublist σ) (μ b) ⟨b,rfl,C,w.sub E,D⟩ ?_;rintro m a σ ⟨g,rfl,A,z,j⟩;refine Ef j (LV (LY x y (Pu (B g A).h) z) ?_);rintro e G σ' ⟨l,k,o⟩
 cases e with
 |normal=>obtain⟨d,v,u,s,q⟩:=o;exact⟨μ d,q,d,rfl,s,k.sub v,u⟩
 |_=>exact⟨l,k,o⟩
theorem Ap.go{t e:TypeId}{i j:TI}{o:Bool}{k d:Nat}{xs ys zs:List (List D)}{v:Value}{s:af}{K:D->af->Prop}(C:T t=some i)(B:i.sl=some (e,o,k,d))(A:T e=some j)(g:(Nat.beq j.zero.length j.size&&Nat.blt 0 k&&Nat.beq j.size k)=true)
  (r:ae e k xs v s) (w:σ.Perm (s++τ)) (x:(ys.all λy=>y.all dH)=true) (z:xs++ys=zs) (l:zs.length*d<=140737488355328) (m:zs.length<=1000000000) (n:af->af) (u:∀b,(b++τ).Perm (n b))
  (p:∀a c b,ae e k zs (.slice a zs.length c) b->W (K (.v (.slice a zs.length c)) (n b))):Ap P T σ (.v v) (.sl k ys) t K:=by
 subst z;simp only[zJ]at g;rw[zI]at l m;refine⟨e,i,j,o,k,d,xs,ys,v,s,[],τ,C,B,A,yH g.1.1,by simpa [wT]using g.1.2,yH g.2,rfl,.inl ⟨rfl,rfl⟩,r,w,λy q=>yA.1 x y q,l,m,.inl λE b f=>?_⟩;obtain⟨a,c,rfl⟩:=f.slice;exact⟨_,u b,(p a c b f).h⟩
theorem bR(s:af):s.Perm (s++[]):=by simp
theorem cZ(s:af):(s++[]).Perm s:=by simp
theorem JU(x:Nat×aE)(s:af):(x::s).Perm (s++[x]):=(List.perm_append_singleton x s).symm
theorem PL(x:Nat×aE)(s:af):(s++[x]).Perm (x::s):=List.perm_append_singleton x s
theorem r8(x y:Nat×aE)(s:af):(x::y::s).Perm (s++[x,y]):=yT (l₁:=[x,y]) (l₂:=s)
theorem bf2(x y:Nat×aE)(s:af):(s++[x,y]).Perm (x::y::s):=(r8 x y s).symm
theorem Ap.frz{t e:TypeId}{i j:TI}{g:Bool}{k b:Nat}{xs ys zs:List (List D)}{v:Value}{s:af}{K:D->af->Prop}(n:T t=some i)(l:i.sl=some (e,g,k,b))(f:T e=some j)(h:(Nat.beq j.zero.length j.size&&Nat.blt 0 k&&Nat.beq j.size k)=true)
  (r:ae e k xs v s) (p:σ.Perm (s++τ)) (o:(ys.all λy=>y.all dH)=true) (z:xs++ys=zs) (a:zs.length*b<=140737488355328) (m:zs.length<=1000000000)
  (c:W (K (.sl k zs) τ)):Ap P T σ (.v v) (.sl k ys) t K:=by
 subst z;simp only[zJ]at h;rw[zI]at a m;exact⟨e,i,j,g,k,b,xs,ys,v,s,[],τ,n,l,f,yH h.1.1,by simpa [wT]using h.1.2,yH h.2,rfl,.inl ⟨rfl,rfl⟩,r,p,λy d=>yA.1 o y d,a,m,.inr c.h⟩
theorem Ld.cell{o:Oper}{ρ:Operand->D}{b f:Nat}{K:D->Prop}(j:Nat){tb:TypeId}{cs:List D}{d:D}(c:σ[j]?=some (b,.cells tb cs))(a:cs[f]?=some d)(h:W (K d)):Ld P o ρ σ b f false 1 K:=by
 have t:=(zE.1 a).1;refine⟨.inl ⟨j,tb,cs,c,by omega,?_⟩⟩;have:(cs.drop f).take 1=[d]:=by
  rw[vG t];simp[(zE.1 a).2]
 rw[this];exact h.h
theorem Sv.cell{b o:Nat}{d:D}{K:af->Prop}(j:Nat){tb:TypeId}{cs cs':List D}(f:σ[j]?=some (b,.cells tb cs))(a:o<cs.length)(e:dH d=true)(c:cs.set o d=cs')(h:W (K (σ.set j (b,.cells tb cs')))):Sv σ b o [d] 1 K:=by
 subst c;refine⟨j,tb,cs,_,f,rfl,a,by simp[e],xA ?_,h.h⟩
 congr 3
 unfold ft;rw[xW,if_pos a];simp
theorem Z8{b:Nat}{t tb:TypeId}{cs:List D}{a:TI}{X:Nat->Prop}(r:∀t i,T t=some i->aD P t=some i)(d:aU w X σ){m:Nat}(o:σ[m]?=some (b,.cells tb cs))(n:T t=some a)(g:a.agg=true)(v:a.size=cs.length) :
  ∃vs:List Value,(loadVar t ⟨b,0,none⟩).run P w= .ok (.agg vs.toArray) w/\bb w (ay σ X) cs vs:=by
 obtain⟨_,u,e,vs,rfl,h⟩:=d.at_ b _ (zG o);obtain⟨k,s⟩:=Mr (r t a n) w;rw[g]at k;have l:∀q,q<cs.length->w.cell? ⟨b,0+q,none⟩=some (vs.getD q undef):=by
  intro q c;have:q<vs.length:=by rw[h.len];exact c
  simp[World.cell?,e,this]
 have j:=ay3 (P:=P) (w:=w) (f:=λq=>vs.getD q undef) k s (λq c=>l q (by omega));have p:(List.range a.size).map (λq=>vs.getD q undef)=vs:=by
  apply xY;intro q;by_cases c:q<a.size
  .have:q<vs.length:=by rw[h.len];omega
   simp[c,this]
  .have:vs.length<=q:=by rw[h.len];omega
   simp[c,this]
 rw[p]at j;refine⟨vs,?_,h⟩;have:=j;simp only[Instr.loadAt,Instr.sureAddr,Sem.run_bind,Sem.run_pure,Result.andThen]at this;exact this
variable {N:Nat} {f:aM} {fn:Func}
theorem Rs.c(u:∀t i,T t=some i->aD P t=some i){j m b:Nat}{t tb:TypeId}{cs:List D}{c:TI}{K:D->Prop}(h:fn.results= #[.cell j t])(n:aK f (.tmp j)= .v (.pointer (some ⟨b,0,none⟩)))(q:σ[m]?=some (b,.cells tb cs))(l:T t=some c)(g:c.agg=true)(s:c.size=cs.length)
  (k:W (K (.agg cs))):Rs P N fn f σ K:=by
 refine⟨_,λa r=>?_,k.h⟩;intro w X y o d;obtain⟨vs,x,e⟩:=Z8 u d q l g s;have p:=(jR o j).val (r.eq n (λh=>by cases h));exact⟨.agg vs.toArray,by simp[results,h,p,asAddr,x,Result.andThen,-Array.getD_eq_getD_getElem?],.agg _ _ e.len e.at_⟩
theorem Rs.tc(z:∀t i,T t=some i->aD P t=some i){i j m b:Nat}{t tb:TypeId}{cs:List D}{c:TI}{d:D}{K:D->Prop}(h:fn.results= #[.tmp i,.cell j t])(x:aK f (.tmp i)=d)(u:aK f (.tmp j)= .v (.pointer (some ⟨b,0,none⟩)))(y:σ[m]?=some (b,.cells tb cs))(q:T t=some c)(g:c.agg=true)(s:c.size=cs.length)
  (k:W (K (.tup [d,.agg cs]))):Rs P N fn f σ K:=by
 subst x;refine⟨_,λa n=>?_,k.h⟩;intro w X p l e;obtain⟨vs,A,o⟩:=Z8 z e y q g s;have r:=(jR l j).val (n.eq u (λh=>by cases h));refine⟨.tuple #[p.getD i undef,.agg vs.toArray],by simp[results,h,r,asAddr,A,Result.andThen,-Array.getD_eq_getD_getElem?],?_⟩;have:=bb.cons (qL n i _ _ _ (jR l i)) (bb.cons (Rd.agg (w:=w) (O:=ay σ X) cs vs o.len o.at_) bb.nil);exact .tup _ _ this.len this.at_
theorem mT(z:∀t i,T t=some i->aD P t=some i){i j m b:Nat}{t tb:TypeId}{cs:List D}{c:TI}{d:D}{K:D->Prop}(h:fn.results= #[.cell j t,.tmp i])(x:aK f (.tmp i)=d)(u:aK f (.tmp j)= .v (.pointer (some ⟨b,0,none⟩)))(y:σ[m]?=some (b,.cells tb cs))(q:T t=some c)(g:c.agg=true)(s:c.size=cs.length)
  (k:W (K (.tup [.agg cs,d]))):Rs P N fn f σ K:=by
 subst x;refine⟨_,λa n=>?_,k.h⟩;intro w X p l e;obtain⟨vs,A,o⟩:=Z8 z e y q g s;have r:=(jR l j).val (n.eq u (λh=>by cases h));refine⟨.tuple #[.agg vs.toArray,p.getD i undef],by simp[results,h,r,asAddr,A,Result.andThen,-Array.getD_eq_getD_getElem?],?_⟩;have:=bb.cons (Rd.agg (w:=w) (O:=ay σ X) cs vs o.len o.at_) (bb.cons (qL n i _ _ _ (jR l i)) bb.nil);exact .tup _ _ this.len this.at_
end
end
section
open Go Go.RowKit Go.Shelf
structure EU(P:Program)(gf:FuncId)(caps:List D)(its:List (List D)):Prop where
 ent:Enters P gf
 run:∀(O:Nat->Prop)(W:World)(lb:List Value),bb W O caps lb->∃vsl:List (List Value),vsl.length=its.length/\(∀(k:Nat)x vs,its[k]?=some x->vsl[k]?=some vs->bb W O x vs) /\
  ∀(l:Nat)(J Jx:Nat->World->Prop),(∀k A B,J k A->Ex A B->J k B)->(∀k A B,Jx k A->Ex A B->Jx k B) ->
   (∀(k:Nat)vs W1,vsl[k]?=some vs->J k W1->YieldAt Fence.wide 7 P l vs.toArray W1 λe W'=>
    (e= .returned (.bool true)/\J (k+1) W'/\W1.heap.size<=W'.heap.size/\∀b,b<W.heap.size->¬O b->W'.heap[b]?=W1.heap[b]?)\/(e= .returned (.bool false)/\Jx (k+1) W')) ->
   J 0 W->CallsIn Fence.wide 8 P gf (#[.func (.yield l) #[] #[]]++lb.toArray) W λe W'=>∃v,e= .returned v/\(J its.length W'\/∃k,Jx k W')
section
variable {P:Program} {r:Option Nat} {n:Nat} {df:Nat} {Q:eY} {a:List D} {σ σ':af} {w w':World} {X:Nat->Prop}
theorem St.mv{fr:Act}(h:St w X df a σ fr)(m:Mv w σ w' σ')(s:aU w' X σ'):St w' X df a σ' fr:=by
 have O:∀b,b<w.heap.size->¬ay σ X b->¬ay σ' X b:=λb c n o=>by
  rcases o with o|o
  .exact n (.inl o)
  .rcases m.new b o with d|d
   .exact n (.inr d)
   .omega
 have S:∀b,b<w.heap.size->¬ay σ X b->w'.heap[b]?=w.heap[b]?:=λb c n=>m.keep.block b c (λk=>n (.inr k));exact⟨h.fr.keep m.keep.size O S,s,h.df.keep m.keep.size O S⟩
theorem St.turn{fr:Act}(h:St w X df a σ fr){D:Nat}{o o':Obj}(p:6<=D)(O:¬ay σ X D)(f:w.heap[D]?=some o)(g:o.isCells=false)(m:∀u c,o ≠ .map u c)(l:∀d,o ≠ .deferred d):St (w.putObj D o') X df a σ fr:=by
 refine⟨h.fr.of_cells (Nat.le_of_eq (Pz _ _).symm) (aG4 f g),h.st.turn p O f g m,?_⟩;obtain⟨t,v,s,r,q⟩:=h.df;refine⟨by rw[Pz];exact t,v,s,r,λb n=>?_⟩;obtain⟨j,i,k⟩:=q b n;exact⟨j,i,(World.putObj_heap_other (λe=>by subst e;rw[f]at k;cases k;exact l _ rfl)).trans k⟩
theorem Mv.turn(h:Mv w σ w' σ'){l:Nat}(c:w.heap.size<=l)(o:Obj):Mv w σ (w'.putObj l o) σ':=
 ⟨⟨h.keep.os,h.keep.tape,h.keep.output,by rw[Pz];exact h.keep.size,λb a n=>(World.putObj_heap_other (λe=>by omega)).trans (h.keep.block b a n)⟩,h.new⟩
def Ff(a:List D)(s:List Tmp)(x:List D):List D:=(s.zip x).foldl (λa p=>a.set p.1 p.2) a
theorem OH{O:Nat->Prop}{t:Array Value}(h:FR w O a t){d:D}{u:Value}(b:Rd w O d u)(i:Nat):FR w O (a.set i d) (t.setIfInBounds i u):=by
 have:=FR.put (fr:=⟨t,[]⟩) h b (some i);exact this
theorem nq{O:Nat->Prop}:∀(s:List Tmp){x:List D}{vs:List Value}{a:List D}{t:Array Value},FR w O a t->bb w O x vs->FR w O (Ff a s x) ((s.zip vs).foldl (λt(p,v)=>t.setIfInBounds p v) t)
 |[],x,vs,a,t,h,_=>by simpa [Ff]using h
 |p::s,[],vs,a,t,h,r=>by
  have:vs=[]:=by have:=r.len;simpa using this
  subst this
  simpa [Ff]using h
 |p::s,d::x,[],a,t,h,r=>by have:=r.len;simp at this
 |p::s,d::x,v::vs,a,t,h,r=>by
  have l:bb w O x vs:=⟨by have:=r.len;simpa using this,λj d u c b=>r.at_ (j+1) d u (by simpa using c) (by simpa using b)⟩
  have:=nq s (OH h (r.at_ 0 d v rfl rfl) p) l
  simpa [Ff]using this
def A4(Q:eY)(a:List D){γ:Type}(S:γ->af)(I:γ->Prop):eY
 |.normal,_,σ'=>∃g,(S g).Sublist σ'/\I g
 |.ret,_,σ'=>Q .ret a σ'
 |.exit id,_,σ'=>Q (.exit id) a σ'
 |_,_,_=>False
theorem pV(m:Mv w σ w' σ'){b:Nat}(c:b<w.heap.size)(n:¬ay σ X b):¬ay σ' X b:=λh=>by
 rcases h with h|h
 .exact n (.inl h)
 .rcases m.new b h with a|a
  .exact n (.inr a)
  .omega
theorem we{g:Operand}{Z:Array Tmp}{assign body:Code}{gf:FuncId}{caps:List D}{s:List (List D)}(hit:EU P gf caps s)(hg:gV a g= .clo gf caps)(hps:∀x∈s,x.length=Z.size)
  {γ:Type} (S:Nat->γ->af) (I:Nat->γ->Prop) (V:γ) (R:(S 0 V).Sublist σ) (h0:I 0 V)
  (round:∀(l:Nat)(k:Nat)i x,s[k]?=some x->I k i->dQ P (some l) 7 0 assign (zq (dQ P (some l) 7 0 body (A4 Q a (S (k+1)) (I (k+1)))) (λ_ _ _=>False)) (Ff a Z.toList x) (S k i))
  (done:∀i,I s.length i->Q .normal a (S s.length i)):dQ P none 9 df (.rangeFunc g Z assign body) Q a σ:=by
 refine⟨λw X fr hs=>?_⟩;have hv:=hs.fr.eval g;rw[hg]at hv;obtain⟨lb,hgv,hlb⟩:=hv.clo_inv;refine wpIn_rangeFunc ?_;intro fn hfn;rw[show(FW none).round=none from rfl];obtain⟨r,f⟩:∃r:LoopState->Option Code->Loop,r=λst pe=>{ state:=st,pending:=pe,fn,tmps:=fr.tmps,params:=Z,assign,body,defers:=w.heap.size }:=⟨_,rfl⟩
 obtain⟨C,U⟩:∃C,(w.alloc (.deferred (some []))).alloc (.loop (r .ready none))=C:=⟨_,rfl⟩
 have hL1:C.heap[w.heap.size+1]?=some (.loop (r .ready none)):=by
  rw[←U];have:=World.alloc_heap_new (w.alloc (.deferred (some []))) (.loop (r .ready none));rwa [World.size_alloc]at this
 have T:Ex w C:=by rw[←U];exact((Ex.refl w).alloc).alloc
 have hK1:C.heap[w.heap.size]?=some (.deferred (some [])):=by
  rw[←U];exact(Below.heap_alloc _ _ _ (by simp)).trans (World.alloc_heap_new w _)
 have hz1:C.heap.size=w.heap.size+2:=by rw[←U];simp
 have h5:6<=w.heap.size:=hs.st.gok.sz;obtain⟨m,z⟩:∃m:Act,m={ fr with defers:=Qn w.heap.size::fr.defers }:=⟨_,rfl⟩
 have hnD:¬ay σ X w.heap.size:=QN hs.st (zT _);have hnl:¬ay σ X (w.heap.size+1):=QN hs.st (Nat.le_succ _);have hs1:St C X df a σ m:=by
  have:=hs.ex T;refine⟨by rw[z];exact this.fr,this.st,?_⟩;obtain⟨k0,bs,k1,k2,k3⟩:=this.df;have k0':=hs.df.1;refine⟨k0,w.heap.size::bs,by rw[z,k1];rfl,wZ.2 ⟨λhm=>?_,k2⟩,λb E=>?_⟩
  .obtain⟨_,bs0,N,_,H⟩:=hs.df;have e:bs0.map Qn=bs.map Qn:=N.symm.trans k1;have hinj:bs0=bs:=by
    have:=zM (List.map (λd:Deferred=>match d.target with|.collected b=>b|_=>0)) e
    simpa [Qn,vA,Function.comp_def]using this
   rw[←hinj]at hm;have:=(zX.1 (H _ hm).2.2).1;omega
  .rcases zU.1 E with rfl|E
   .exact⟨k0',hnD,hK1⟩
   .exact k3 b E
 refine⟨w.heap.size+1,[{ target:=.collected w.heap.size,args:=#[] }],C,{ target:=.fn (.func gf) lb.toArray,args:=#[.func (.yield (w.heap.size+1)) #[] #[]] },C,gf,
  #[.func (.yield (w.heap.size+1)) #[] #[]]++lb.toArray,C,?_,?_,?_,?_,(λhd=>by simp[FW,Fence.wide]at hd),?_⟩
 .rw[←U,f];exact run_enterLoop_outer _ _ _ _ _
 .simp only[resolve,hgv];simp[go_sem]
 .intro f' hf';simp[Target.leads]at hf';trivial
 .simp only[invoke];exact hit.ent _ _
 .obtain⟨O,hO⟩:∃O:Nat->Prop,O=λb=>ay σ X b\/b=w.heap.size\/b=w.heap.size+1:=⟨_,rfl⟩
  have hnO:∀{b:Nat},¬O b->¬ay σ X b/\b≠w.heap.size/\b≠w.heap.size+1:=λ{b}h=>by
   rw[hO]at h;exact⟨λh1=>h (.inl h1),λh1=>h (.inr (.inl h1)),λh1=>h (.inr (.inr h1))⟩
  obtain⟨vsl,hvl,hvr,hrun⟩:=hit.run O C lb (hlb.keep T.size (λb E q=>by
   rw[hO];rintro(h|h|h)
   .exact q h
   .omega
   .omega) (λb E _=>T.block b E))
  have hcall:=hrun (w.heap.size+1)
   (λk W=>∃i,I k i/\St W X df a (S k i) m/\Mv w σ W (S k i)/\C.heap.size<=W.heap.size/\W.heap[w.heap.size+1]?=some (.loop (r .ready none))/\¬ay (S k i) X (w.heap.size+1))
   (λ_ W=>∃τ e c,(e= .ret/\c= .ret\/∃id,e= .exit id/\c= .exit id)/\Q e a τ/\St W X df a τ m/\Mv w σ W τ/\W.heap[w.heap.size+1]?=some (.loop (r .done (some c)))/\¬ay τ X (w.heap.size+1))
   (λk A B⟨i,N,M,H,q4,F,Y⟩hx=>⟨i,N,M.ex hx,H.trans (jx hx),xH q4 hx.size,(hx.block _ (zX.1 F).1).trans F,Y⟩)
   (λk A B⟨τ,e,c,N,M,H,q4,F,Y⟩hx=>⟨τ,e,c,N,M,H.ex hx,q4.trans (jx hx),(hx.block _ (zX.1 F).1).trans F,Y⟩)
   ?_ ⟨V,h0,⟨hs1.fr.keep (zT _) (λx _ q=>qO R x q) (λ_ _ _=>rfl),hs1.st.sub R,hs1.df.keep (zT _) (λx _ q=>qO R x q) (λ_ _ _=>rfl)⟩,
    (jx T).fewer (λb E=>(R.map Prod.fst).subset E),zT _,hL1,qO R _ hnl⟩
  .refine hcall.mono ?_;rintro e W2 ⟨v,rfl,(⟨i,N,M,H,q4,F,Y⟩|⟨_,τ,e,c,N,M,H,q4,F,Y⟩)⟩
   .refine⟨none,_,by have:=run_endLoop (P:=P) F (by rw[f];simp);rw[f]at this;exact this,?_⟩;refine⟨a,S s.length i,done i N,?_,H.turn (Nat.le_succ _) _⟩;have:=M.turn (o':=.loop { r .ready none with state:=.exhausted }) (by omega) Y F rfl (λ_ _ h=>by cases h) (λ_ h=>by cases h);rw[z,f]at this;exact this
   .refine⟨some c,_,by have:=run_endLoop (P:=P) F (by rw[f];simp);rw[f]at this;exact this,?_⟩;have hst:=H.turn (o':=.loop { r .done (some c)with state:=.exhausted }) (by omega) Y F rfl (λ_ _ h=>by cases h) (λ_ h=>by cases h);rw[z,f]at hst;have hmv:=q4.turn (Nat.le_succ _) (.loop { r .done (some c)with state:=.exhausted });rw[f]at hmv;rcases N with⟨rfl,rfl⟩|⟨id,rfl,rfl⟩
    .exact wpIn_ret ⟨a,τ,M,hst,hmv⟩
    .exact wpIn_exit ⟨a,τ,M,hst,hmv⟩
  ·-- one round
   rintro k vs Wc hvk ⟨i,N,M,H,q4,F,Y⟩;have hkl:k<s.length:=by rw[←hvl];exact(zE.1 hvk).1
   obtain⟨x,hx⟩:∃x,s[k]?=some x:=⟨_,zD hkl⟩
   have hlc:w.heap.size+1<Wc.heap.size:=(zX.1 F).1;have J:∀b,b<C.heap.size->¬O b->¬ay (S k i) X b/\Wc.heap[b]?=C.heap[b]?:=λb E q=>by
    obtain⟨n1,n2,n3⟩:=hnO q;have K:b<w.heap.size:=by omega
    exact⟨pV H K n1,(H.keep.block b K (λh=>n1 (.inr h))).trans (T.block b K).symm⟩
   have hxv:bb Wc (ay (S k i) X) x vs:=(hvr k x vs hx hvk).keep q4 (λb E q=>(J b E q).1) (λb E q=>(J b E q).2);have hsz:vs.toArray.size=Z.size:=by simp[hxv.len,hps x (zG hx)]
   have hy:=run_yield (P:=P) (args:=vs.toArray) F (by rw[f];exact hsz);rw[f]at hy;refine⟨fn,_,assign,body,hy,?_⟩;have hzip:((Z.zip vs.toArray).foldl (λt(p:Tmp×Value)=>t.setIfInBounds p.1 p.2) fr.tmps)=((Z.toList.zip vs).foldl (λt(p:Tmp×Value)=>t.setIfInBounds p.1 p.2) fr.tmps):=by
    rw[←Array.foldl_toList];simp
   have hfr0:FR Wc (ay (S k i) X) a fr.tmps:=by have:=M.fr;rw[z]at this;exact this
   have hst0:St Wc X 0 (Ff a Z.toList x) (S k i) { tmps:=(Z.zip vs.toArray).foldl (λt(p:Tmp×Value)=>t.setIfInBounds p.1 p.2) fr.tmps,defers:=[] }:=
    ⟨by rw[hzip];exact nq Z.toList hfr0 hxv,M.st,EP.nil (zW _)⟩
   refine roundIn_of_wpIn hfn (wpIn_mono ((round (w.heap.size+1) k i x hx N).run Wc X _ hst0) ?_);rintro e a1 w1 ⟨a1',σ1,hA,hst1,y⟩
   cases e with
   |normal=>
    have hl1:w1.heap[w.heap.size+1]?=some (.loop (r .ready none)):=(y.keep.block _ hlc (λh=>Y (.inr h))).trans F;have hn1:¬ay σ1 X (w.heap.size+1):=pV y hlc Y;refine⟨_,run_beginRound hl1 (by rw[f]),?_⟩;have hl1s:=(zX.1 hl1).1;have hl2:(w1.putObj (w.heap.size+1) (.loop { r .ready none with state:=.busy })).heap[w.heap.size+1]?=some (.loop { r .ready none with state:=.busy }):=World.putObj_heap_same hl1s;have hst2:=hst1.turn (o':=.loop { r .ready none with state:=.busy }) (by omega) hn1 hl1 rfl (λ_ _ h=>by cases h) (λ_ h=>by cases h);have hout1:St w1 X df a σ1 m:=M.mv y hst1.st;have hout2:=hout1.turn (o':=.loop { r .ready none with state:=.busy }) (by omega) hn1 hl1 rfl (λ_ _ h=>by cases h) (λ_ h=>by cases h);have hmv2:Mv w σ (w1.putObj (w.heap.size+1) (.loop { r .ready none with state:=.busy })) σ1:=(H.trans y).turn (Nat.le_succ _) _;have hA:dQ P (some (w.heap.size+1)) 7 0 body (A4 Q a (S (k+1)) (I (k+1))) a1' σ1:=hA;refine wpIn_mono (hA.run _ X a1 hst2) ?_;rintro e3 a3 W3 ⟨a3',σ3,L,hst3,u⟩;have hl2s:w.heap.size+1<(w1.putObj (w.heap.size+1) (.loop { r .ready none with state:=.busy })).heap.size:=by rw[Pz];exact hl1s
    have hl3:W3.heap[w.heap.size+1]?=some (.loop { r .ready none with state:=.busy }):=(u.keep.block _ hl2s (λh=>hn1 (.inr h))).trans hl2;have hn3:¬ay σ3 X (w.heap.size+1):=pV u hl2s hn1;have hl3s:=(zX.1 hl3).1;have hout3:St W3 X df a σ3 m:=hout2.mv u hst3.st;have G:Mv w σ W3 σ3:=hmv2.trans u;have fin:∀(j:Option Code),(Instr.endRound (w.heap.size+1) j).run P W3= .ok (.bool j.isNone) (W3.putObj (w.heap.size+1) (.loop (r (if j.isNone then .ready else .done) j))) /\
      (W3.putObj (w.heap.size+1) (.loop (r (if j.isNone then .ready else .done) j))).heap[w.heap.size+1]?=some (.loop (r (if j.isNone then .ready else .done) j)) /\
      St (W3.putObj (w.heap.size+1) (.loop (r (if j.isNone then .ready else .done) j))) X df a σ3 m:=λj=>by
     have:=run_endRound (P:=P) j hl3;refine⟨by rw[f]at this⊢;exact this,World.putObj_heap_same hl3s,hout3.turn (by omega) hn3 hl3 rfl (λ_ _ h=>by cases h) (λ_ h=>by cases h)⟩
    have hkp:∀(o:Obj)(b:Nat),b<C.heap.size->¬O b->(W3.putObj (w.heap.size+1) o).heap[b]?=Wc.heap[b]?:=λo b E q=>by
     obtain⟨n1,n2,n3⟩:=hnO q;have K:b<w.heap.size:=by omega
     have h1:=G.keep.block b K (λh=>n1 (.inr h));have h2:=H.keep.block b K (λh=>n1 (.inr h));exact(World.putObj_heap_other n3).trans (h1.trans h2.symm)
    have hzz:∀o:Obj,Wc.heap.size<=(W3.putObj (w.heap.size+1) o).heap.size:=λo=>by
     have h1:=y.keep.size;have h2:=u.keep.size;rw[Pz]at h2⊢;omega
    have pend:∀(e0:Exit)(c:Code),(e0= .ret/\c= .ret\/∃id,e0= .exit id/\c= .exit id)->Q e0 a σ3->∃v w',(Instr.endRound (w.heap.size+1) (some c)).run P W3= .ok v w' /\
      ((Ending.returned v= .returned (.bool true)/\(∃i,I (k+1) i/\St w' X df a (S (k+1) i) m/\Mv w σ w' (S (k+1) i)/\C.heap.size<=w'.heap.size/\w'.heap[w.heap.size+1]?=some (.loop (r .ready none))/\¬ay (S (k+1) i) X (w.heap.size+1))/\Wc.heap.size<=w'.heap.size/\∀b,b<C.heap.size->¬O b->w'.heap[b]?=Wc.heap[b]?) \/
       (Ending.returned v= .returned (.bool false)/\∃τ e c,(e= .ret/\c= .ret\/∃id,e= .exit id/\c= .exit id)/\Q e a τ/\St w' X df a τ m/\Mv w σ w' τ/\w'.heap[w.heap.size+1]?=some (.loop (r .done (some c)))/\¬ay τ X (w.heap.size+1))):=λe0 c hec hq=>by
     obtain⟨f1,f2,f3⟩:=fin (some c);exact⟨_,_,f1,.inr ⟨rfl,σ3,e0,c,hec,hq,f3,G.turn (Nat.le_succ _) _,f2,hn3⟩⟩
    cases e3 with
    |normal=>
     obtain⟨g',n,hI'⟩:=L;obtain⟨f1,f2,f3⟩:=fin none;refine⟨_,_,f1,.inl ⟨rfl,⟨g',hI',?_,?_,xH q4 (hzz _),f2,qO n _ hn3⟩,hzz _,hkp _⟩⟩
     .exact⟨f3.fr.keep (zT _) (λx _ q=>qO n x q) (λ_ _ _=>rfl),f3.st.sub n,f3.df.keep (zT _) (λx _ q=>qO n x q) (λ_ _ _=>rfl)⟩
     .exact(G.turn (Nat.le_succ _) _).fewer (λb E=>(n.map Prod.fst).subset E)
    |ret=>exact pend .ret .ret (.inl ⟨rfl,rfl⟩) L
    |exit id=>exact pend (.exit id) (.exit id) (.inr ⟨id,rfl,rfl⟩) L
    |goto t=>exact L.elim
    |panic c=>exact L.elim
    |outgrown=>exact L.elim
   |exit id=>exact hA.elim
   |goto t=>exact hA.elim
   |ret=>exact hA.elim
   |panic c=>exact hA.elim
   |outgrown=>exact hA.elim
end
section
variable {P:Program} {df:Nat} {N:Nat} {σ:af} {a:List D} {f:aM} {T:TypeId->Option TI} {Q:gJ}
def ND(Q:gJ)(f:aM){γ:Type}(S:γ->af)(I:γ->Prop):gJ
 |.normal,_,σ'=>∃g,(S g).Sublist σ'/\I g
 |.ret,_,σ'=>Q .ret f σ'
 |.exit id,_,σ'=>Q (.exit id) f σ'
 |_,_,_=>False
def tD:List Tmp->List D->aM->aM
 |p::s,d::x,f=>tD s x ((p,d)::f)
 |_,_,f=>f
theorem q9:∀{s:List Tmp}{x:List D}{a:List D}{f:aM},(s.all λp=>Nat.blt p N)=true->Sp N a f->Sp N (Ff a s x) (tD s x f)
 |[],x,a,f,_,h=>by simpa [Ff,tD]using h
 |p::s,[],a,f,_,h=>by simpa [Ff,tD]using h
 |p::s,d::x,a,f,b,h=>by
  simp only[List.all_cons,zJ,wT]at b;have:=q9 (x:=x) b.2 (h.set (d:=d) b.1)
  simpa [Ff,tD]using this
theorem Ce(E:P.follows .mixedOrders=true)(F:∀t i,T t=some i->aD P t=some i){g:Operand}{v:Array Tmp}{n y:Code}{gf:FuncId}{j:List D}{s:List (List D)}(H:aK f g= .clo gf j)(hit:EU P gf j s)(A:∀x∈s,x.length=v.size)(B:(v.toList.all λp=>Nat.blt p N)=true)
  {γ:Type} (S:Nat->γ->af) (I:Nat->γ->Prop) (b:γ) (w:(S 0 b).Sublist σ) (J:I 0 b)
  (r:∀(l k:Nat)d x,s[k]?=some x->I k d->W (lP P T (some l) 7 0 N n (l5 (lP P T (some l) 7 0 N y (ND Q f (S (k+1)) (I (k+1)))) (λ_ _ _=>False)) (tD v.toList x f) (S k d)))
  (u:∀d,I s.length d->W (Q .normal f (S s.length d))):Lp P none 9 df N (.rangeFunc g v n y) Q f σ:=by
 refine⟨λa q=>?_⟩;refine we hit (q.eq H (λh=>by cases h)) A S I b w J (λl k d x hx C=>?_) (λd C=>⟨f,q,(u d C).h⟩);refine LV (LY E F (r l k d x hx C).h (q9 B q)) ?_;rintro e L σ1 ⟨f1,z,o⟩
 cases e with
 |normal=>
  refine LV (LY E F o z) ?_;rintro e K σ2 ⟨f2,G,m⟩
  cases e with
  |normal=>exact m
  |ret=>exact⟨f,q,m⟩
  |exit id=>exact⟨f,q,m⟩
  |goto t=>exact m.elim
  |panic c=>exact m.elim
  |outgrown=>exact m.elim
 |exit id=>exact o.elim
 |goto t=>exact o.elim
 |ret=>exact o.elim
 |panic c=>exact o.elim
 |outgrown=>exact o.elim
end
end
section
open Go Go.RowKit Go.Shelf
section
variable {P:Program} {r:Option Nat} {n:Nat} {df:Nat} {N:Nat} {Q:eY} {a:List D} {σ:af} {w:World} {X:Nat->Prop} {ρ:Operand->D} {f:aM} {L:List Oper} {T:TypeId->Option TI}
theorem ar9{o:Oper}{t c:TypeId}{x y:Operand}{p q:Bool}(b:o.op= .binOp .neq t x y c)(hx:ρ x= .v (.bool p))(d:ρ y= .v (.bool q))(e:P.underlying t=some .bool):Yd P o ρ σ (.v (.bool (!(p==q)))):=by
 intro w X η h f;obtain⟨dst,m,l,pos,k,g⟩:=o;simp only at b;subst b;have j:=(h x (by simp[Op.operands])).val hx;have i:=(h y (by simp[Op.operands])).val d;refine dC (s:=do eqGuard .neq t x y (η x) (η y);binOp .neq t (η x) (η y)) (u:=.bool (!(p==q))) ?_ (Ex.refl w) (.v _);rw[j,i]
 show(do eqGuard .neq t x y (.bool p) (.bool q);(do pure (Value.bool (!(←Op.equal t (.bool p) (.bool q)))))).run P w=_;have a:(eqGuard .neq t x y (.bool p) (.bool q)).run P w= .ok () w:=rfl;simp only[Sem.run_bind,a,Result.andThen,run_equal_bool w t p q e,Sem.run_pure]
theorem MH{o:Oper}{t c:TypeId}{x y:Operand}{p q:Bool}(b:o.op= .binOp .eql t x y c)(hx:ρ x= .v (.bool p))(d:ρ y= .v (.bool q))(e:P.underlying t=some .bool):Yd P o ρ σ (.v (.bool (p==q))):=by
 intro w X η h f;obtain⟨dst,m,l,pos,k,g⟩:=o;simp only at b;subst b;have j:=(h x (by simp[Op.operands])).val hx;have i:=(h y (by simp[Op.operands])).val d;refine dC (s:=do eqGuard .eql t x y (η x) (η y);binOp .eql t (η x) (η y)) (u:=.bool (p==q)) ?_ (Ex.refl w) (.v _);rw[j,i]
 show(do eqGuard .eql t x y (.bool p) (.bool q);(do pure (Value.bool (←Op.equal t (.bool p) (.bool q))))).run P w=_;have a:(eqGuard .eql t x y (.bool p) (.bool q)).run P w= .ok () w:=rfl;simp only[Sem.run_bind,a,Result.andThen,run_equal_bool w t p q e,Sem.run_pure]
theorem ci.copy(hT:∀t i,T t=some i->aD P t=some i){o:Oper}{p x:Operand}{t t2 e:TypeId}{i j:TI}{ag:Bool}{by_ b d l dc jj:Nat}{tb:TypeId}{cs new:List D}{K:aM->af->Prop}
  (ho:o.op= .call { callee:=.builtin .copy,args:=#[p,x],argTypes:=#[t,t2] }) (hp:aK f p= .v (.slice (some ⟨b,d,none⟩) l dc)) (ht:T t=some i) (hs:i.sl=some (e,ag,1,by_)) (hj:T e=some j) (hjs:j.size=1)
  (hb:σ[jj]?=some (b,.cells tb cs)) (hfit:d+new.length<=cs.length) (Y:new.all dH=true) (hne:new≠[])
  (S:(∃s:List (List D),aK f x= .sl 1 s/\new=(s.take (Nat.min s.length l)).flatten/\new.length=Nat.min s.length l)\/(∃(J sl sc:Nat),aK f x= .v (.slice (some ⟨b,J,none⟩) sl sc)/\new=(cs.drop J).take (Nat.min sl l)/\new.length=Nat.min sl l))
  (kk:W (aR N o.dst (.v (.int .i64 new.length)) f (λf'=>K f' (σ.set jj (b,.cells tb (ft cs d new)))))):ci P r n df L N o f σ K:=by
 refine⟨λrest Q a E hw hk=>?_⟩;refine oM hw (by rw[ho];rfl) λw X fr m=>?_;have C:=E.le p _ _ _ (m.fr.eval p);rw[hp]at C;have C:=C.val rfl;have q:=E.le x _ _ _ (m.fr.eval x);obtain⟨hu,hsz,_⟩:=x7 (hT t i ht) hs;have R:(P.info? e).map (·.size)=some 1:=by
  obtain⟨inf,u,q1,_,_,q4,_⟩:=E2 (hT e j hj);rw[q1];simp[←q4,hjs]
 obtain⟨_,ob,F,vs,rfl,B⟩:=m.st.at_ b _ (zG hb);obtain⟨k,M,sl,sc,z,G,H,g⟩:∃(k:List Value)(M:Addr)(sl sc:Nat),fr.eval x= .slice (some M) sl sc/\bb w (ay σ X) new k/\k.length=Nat.min sl l/\∀(j:Nat)v,k[j]?=some v->w.cell? (M.add j)=some v:=by
  rcases S with⟨s,h1,I,h3⟩|⟨J,sl,sc,h1,I,h3⟩
  .rw[h1]at q;obtain⟨a0,c,O,z,hrd,H,hcl⟩:=mb q (by omega);have hys:s≠[]:=λh=>by subst h;simp at I;exact hne I
   obtain⟨M,rfl,g⟩:=hcl hys;have hysk:∀y∈s,y.length=1:=(q.sl_inv.choose_spec.choose_spec.choose_spec).2.2.1;have hfl:(s.take (Nat.min s.length l)).flatten=s.flatten.take (Nat.min s.length l):=by
    have h4:(s.take (Nat.min s.length l)).flatten.length=Nat.min s.length l:=by rw[←I];exact h3
    have h5:s.flatten=(s.take (Nat.min s.length l)).flatten++(s.drop (Nat.min s.length l)).flatten:=by rw[←vW,vF]
    rw[h5,List.take_left' h4]
   refine⟨O.take (Nat.min s.length l),M,s.length,c,z,by rw[I,hfl];exact hrd.take _,?_,λj v A=>?_⟩
   .rw[zR,H];have:=Nat.min_le_left s.length l;simp only[Nat.mul_one];exact vH this
   .rw[yX]at A;split at A
    .exact g j v A
    .cases A
  .rw[h1]at q;have z:=q.val rfl;have V:=(B.drop J).take (Nat.min sl l);refine⟨(vs.drop J).take (Nat.min sl l),⟨b,J,none⟩,sl,sc,z,by rw[I];exact V,by rw[V.len,←I,h3],λj v A=>?_⟩;rw[yX]at A;split at A
   .rw[xR]at A;have hlt:=(zE.1 A).1;rw[x4];simp[World.cell?,F,A]
   .cases A
 have Z:k.length=new.length:=G.len;have U:=run_copy_row (P:=P) w t t2 o.type e b d l dc M sl sc vs.toArray tb k hu R F H g (by simp[B.len];omega) (kA G Y);have ee:(execOp fr.eval o).run P w= .ok (.value (goInt k.length)) (w.setRow b (vs.take d++k++vs.drop (d+k.length)).toArray):=by
  simp only[execOp,ho,resolve,invoke,builtin,Sem.run_bind,Sem.run_pure,Result.andThen,vD,List.map_cons,List.map_nil,C,z,U]
 rw[ee];obtain⟨q1,q2⟩:=aP5 (cur':=(vs.take d++k++vs.drop (d+k.length)).toArray) F;have hnew:bb w (ay σ X) (ft cs d new) (vs.take d++k++vs.drop (d+k.length)):=by
  unfold ft;rw[Z];exact((B.take d).append G).append (B.drop _)
 obtain⟨g1,g2,g3,g4⟩:=m.st.upd hb (k':=.cells tb (ft cs d new)) q2 q1 ⟨_,rfl,hnew⟩;obtain⟨f',hs',h4⟩:=fE kk.h E;refine⟨.v (.int .i64 new.length),_,g2,?_,hk _ _ _ h4 hs'⟩;rw[←Z];exact(⟨m.fr.keep q2.size g3 g4,g1,m.df.keep q2.size g3 g4⟩:St _ X df a _ fr).put (.v _) o.dst
theorem Rs.c1(C:∀t i,T t=some i->aD P t=some i){fn:Func}{j b:Nat}{t tb:TypeId}{d:D}{c:TI}{K:D->Prop}(h:fn.results= #[.cell j t])(y:aK f (.tmp j)= .v (.pointer (some ⟨b,0,none⟩)))(A:(b,aE.cells tb [d])∈σ)(q:T t=some c)(m:c.agg=false)
  (k:W (K d)):Rs P N fn f σ K:=by
 refine⟨_,λa B=>?_,k.h⟩;intro w X E z e;obtain⟨_,F,g,vs,rfl,s⟩:=e.at_ b _ A;obtain⟨n,G⟩:=Mr (C t c q) w;rw[m]at n;have r:=(jR z j).val (B.eq y (λh=>by cases h));obtain⟨u,p,o⟩:=s.get (j:=0) rfl;have l:w.cell? ⟨b,0,none⟩=some u:=by simp[World.cell?,g,p]
 have x:(loadVar t ⟨b,0,none⟩).run P w= .ok u w:=by
  have:=QB (P:=P) (t:=t) n l;simp only[Instr.loadAt,Instr.sureAddr,Sem.run_bind,Sem.run_pure,Result.andThen]at this;exact this
 exact⟨u,by simp[results,h,r,asAddr,x,Result.andThen,-Array.getD_eq_getD_getElem?],o⟩
theorem Ld.cellm{o:Oper}{b f:Nat}{K:D->Prop}{tb:TypeId}{cs:List D}{d:D}(e:(b,aE.cells tb cs)∈σ)(c:cs[f]?=some d)(h:W (K d)):Ld P o ρ σ b f false 1 K:=by
 obtain⟨j,a⟩:=yO e;exact Ld.cell j a c h
theorem Sv.cellm{b o:Nat}{d:D}{K:af->Prop}{tb:TypeId}{cs cs':List D}{τ:af}(f:σ.Perm ((b,.cells tb cs)::τ))(a:o<cs.length)(e:dH d=true)(c:cs.set o d=cs')(h:W (K ((b,.cells tb cs')::τ))):Sv σ b o [d] 1 K:=by
 refine Sv.perm f rfl a (by simp[e]) ?_ h;subst c;unfold ft;rw[xW,if_pos a];simp
end
end
section
open Go
section
variable {P:Program} {σ:af} {ρ:Operand->D}
theorem cV{o:Oper}{b:BinOp}{t d:TypeId}{x y:Operand}{u v r:Value}(c:o.op= .binOp b t x y d)(hx:ρ x= .v u)(e:ρ y= .v v)
  (h:∀w:World,(do eqGuard b t x y u v;binOp b t u v).run P w= .ok r w):Yd P o ρ σ (.v r):=by
 intro w X η a f;obtain⟨dst,p,l,pos,k,g⟩:=o;simp only at c;subst c;have j:=(a x (by simp[Op.operands])).val hx;have i:=(a y (by simp[Op.operands])).val e;have:=h w;rw[←j,←i]at this;exact dC this (Ex.refl w) (.v _)
end
abbrev cB:=BitVec 32
abbrev wV(x:cB):Value:=.int .u32 ((x.toNat:Nat):Int)
abbrev wD(x:cB):D:=.v (wV x)
theorem QO(n:Nat)(x:BitVec n):BitVec.ofInt n ((x.toNat:Nat):Int)=x:=by
 rw[BitVec.ofInt_natCast];simp
theorem oS(x:cB):IntKind.u32.wrap ((x.toNat:Nat):Int)=((x.toNat:Nat):Int):=by
 have:=x.isLt;rw[IntKind.wrap_u32];omega
section
variable {P:Program} {t:TypeId} {p q:Operand} {w:World}
theorem xx(x y:cB):(do eqGuard .xor t p q (wV x) (wV y);binOp .xor t (wV x) (wV y)).run P w= .ok (wV (x ^^^ y)) w:=by
 show Result.ok (Value.int .u32 (IntKind.u32.wrap (((BitVec.ofInt 32 ((x.toNat:Nat):Int) ^^^ BitVec.ofInt 32 ((y.toNat:Nat):Int)).toNat:Nat):Int))) w=_;rw[QO,QO,oS]
theorem YT(x y:cB):(do eqGuard .and t p q (wV x) (wV y);binOp .and t (wV x) (wV y)).run P w= .ok (wV (x &&& y)) w:=by
 show Result.ok (Value.int .u32 (IntKind.u32.wrap (((BitVec.ofInt 32 ((x.toNat:Nat):Int) &&& BitVec.ofInt 32 ((y.toNat:Nat):Int)).toNat:Nat):Int))) w=_;rw[QO,QO,oS]
theorem rR(x y:cB):(do eqGuard .or t p q (wV x) (wV y);binOp .or t (wV x) (wV y)).run P w= .ok (wV (x |||y)) w:=by
 show Result.ok (Value.int .u32 (IntKind.u32.wrap (((BitVec.ofInt 32 ((x.toNat:Nat):Int) |||BitVec.ofInt 32 ((y.toNat:Nat):Int)).toNat:Nat):Int))) w=_;rw[QO,QO,oS]
theorem lQ(x y:cB):(do eqGuard .add t p q (wV x) (wV y);binOp .add t (wV x) (wV y)).run P w= .ok (wV (x+y)) w:=by
 have h:IntKind.u32.wrap (((x.toNat:Nat):Int)+((y.toNat:Nat):Int))=(((x+y).toNat:Nat):Int):=by
  rw[IntKind.wrap_u32,BitVec.toNat_add];omega
 show Result.ok (Value.int .u32 (IntKind.u32.wrap _)) w=_;rw[h]
theorem C9(a n:Nat):((a:Nat):Int).fdiv (2 ^ n)=((a/2 ^ n:Nat):Int):=by
 rw[Int.fdiv_eq_ediv_of_nonneg _ (by exact Int.pow_nonneg (by decide))];simp
theorem kq(kk:IntKind)(a:Nat)(k:IntKind)(n:Nat)(b:n<=kk.bits):(do eqGuard .shr t p q (.int kk (a:Int)) (.int k (n:Int));binOp .shr t (.int kk (a:Int)) (.int k (n:Int))).run P w= .ok (.int kk ((a/2 ^ n:Nat):Int)) w:=by
 have h:min n kk.bits=n:=by omega
 show(Op.shift .shr kk (a:Int) k (n:Int)).run P w=_;unfold Op.shift;rw[if_neg (by omega),Int.toNat_natCast,h]
 show Result.ok (Value.int kk ((a:Int).fdiv (2 ^ n))) w=_;rw[C9]
theorem km(x:cB)(k:IntKind)(n:Nat)(a:n<=32):(do eqGuard .shl t p q (wV x) (.int k (n:Int));binOp .shl t (wV x) (.int k (n:Int))).run P w= .ok (wV (x <<< n)) w:=by
 have m:min n IntKind.u32.bits=n:=by show min n 32=n;omega
 show(Op.shift .shl .u32 _ k (n:Int)).run P w=_;unfold Op.shift;rw[if_neg (by omega),Int.toNat_natCast,m]
 show Result.ok (Value.int .u32 (IntKind.u32.wrap (((x.toNat:Nat):Int)*2 ^ n))) w=_;have e:((x.toNat:Nat):Int)*2 ^ n=((x.toNat*2 ^ n:Nat):Int):=by simp
 rw[e,IntKind.wrap_u32];have h:(x <<< n).toNat=x.toNat*2 ^ n%4294967296:=by rw[BitVec.toNat_shiftLeft,Nat.shiftLeft_eq]
 unfold wV;rw[h]
 congr 2
theorem pf(x:cB)(k:IntKind)(n:Nat)(a:n<=32):(do eqGuard .shr t p q (wV x) (.int k (n:Int));binOp .shr t (wV x) (.int k (n:Int))).run P w= .ok (wV (x >>> n)) w:=by
 have h:=kq (P:=P) (t:=t) (p:=p) (q:=q) (w:=w) .u32 x.toNat k n a;rw[←Nat.shiftRight_eq_div_pow,←BitVec.toNat_ushiftRight]at h;exact h
def wO:=@Nat.mod_eq_of_lt
theorem DL{p:Prop}(h:p:=by
 simp[eqGuard,binOp,Op.intBits,h1,wO hx,wO hy,this]):p:=h
def wG:=@Bool.false_eq_true
theorem AM(kk:IntKind)(b:BinOp)(f:Nat->Nat->Nat)(d:(b= .xor/\f=λx y=>x ^^^ y)\/(b= .or/\f=λx y=>x |||y)\/(b= .and/\f=λx y=>x &&& y))(u:kk.signed=false)(x y:Nat)(hx:x<2 ^ kk.bits)(hy:y<2 ^ kk.bits) :
  (do eqGuard b t p q (.int kk (x:Int)) (.int kk (y:Int));binOp b t (.int kk (x:Int)) (.int kk (y:Int))).run P w= .ok (.int kk ((f x y:Nat):Int)) w:=by
 have a:∀z:Nat,z<2 ^ kk.bits->kk.wrap (z:Int)=z:=by
  intro z c;unfold IntKind.wrap;rw[u];simp only[Bool.false_and,wG,uC];rw[Int.emod_eq_of_lt (by omega) (by exact_mod_cast c)]
 have h1:∀z:Nat,BitVec.ofInt kk.bits (z:Int)=BitVec.ofNat kk.bits z:=λz=>BitVec.ofInt_natCast ..;rcases d with⟨rfl,rfl⟩|⟨rfl,rfl⟩|⟨rfl,rfl⟩
 .have:=a (x ^^^ y) (Nat.xor_lt_two_pow hx hy);exact DL
 .have:=a (x |||y) (Nat.or_lt_two_pow hx hy);exact DL
 .have:=a (x &&& y) (Nat.and_lt_two_pow x hy);exact DL
end
end
section
open Go Go.RowKit Go.Shelf
section
variable {P:Program} {σ:af} {ρ:Operand->D} {T:TypeId->Option TI}
theorem Fq(hT:∀t i,T t=some i->aD P t=some i){o:Oper}{t:TypeId}{x:Operand}{lo G:Option Operand}{k:Nat}{xs ys:List (List D)}{l h:Nat}{i:TI}{p:Nat×Bool×Nat×Nat}(R:o.op= .slice t x lo G none)(hx:ρ x= .sl k xs)(ht:T t=some i)(hs:i.sl=some p)(E:p.2.2.1=k)
  (L:(lo=none/\l=0)\/∃y I n,lo=some y/\ρ y= .v (.int I n)/\n=(l:Int)) (M:(G=none/\h=xs.length)\/∃y I n,G=some y/\ρ y= .v (.int I n)/\n=(h:Int)) (V:l<=h) (h2:h<=xs.length) (J:(xs.take h).drop l=ys):Yd P o ρ σ (.sl k ys):=by
 subst J;intro w X η a hst;obtain⟨dst,op,ty,pos,aft,g⟩:=o;simp only at R;subst R;obtain⟨e,ag,r,by_⟩:=p;simp only at E;subst E;have B:=a x (by simp[Op.operands]);rw[hx]at B;obtain⟨hu,K,_⟩:=x7 (hT t i ht) hs;have Z:=(qP K w).2;obtain⟨H,c,vs,hv,S,hk,hc,hr⟩:=B.sl_inv;have hb:(Instr.sliceBounds true xs.length c (lo.map η) (G.map η) none).run P w= .ok (l,h,c) w:=by
  have hh:((h:Int)).toNat=h:=rfl;have hl:((l:Int)).toNat=l:=rfl;have U:h<=c:=by omega
  rcases L with⟨rfl,rfl⟩|⟨N,kl,nl,rfl,z,rfl⟩<;>rcases M with⟨rfl,rfl⟩|⟨Q,kh,nh,rfl,A,rfl⟩
  .simp[Instr.sliceBounds,Result.andThen]
  .have:=(a Q (by simp[Op.operands])).val A;simp[Instr.sliceBounds,Instr.sliceBound,Result.andThen,this,asIntOf,U]
  .have:=(a N (by simp[Op.operands])).val z;simp[Instr.sliceBounds,Instr.sliceBound,Result.andThen,this,asIntOf,V]
  .have Y:=(a N (by simp[Op.operands])).val z;have W:=(a Q (by simp[Op.operands])).val A;simp[Instr.sliceBounds,Instr.sliceBound,Result.andThen,Y,W,asIntOf,V,U]
 have F:((xs.take h).drop l).length=h-l:=by rw[List.length_drop,zR];omega
 have m:∀(q:Nat)y,((xs.take h).drop l)[q]?=some y->xs[l+q]?=some y:=λq y d=>by
  rw[xR,yX]at d;split at d
  .exact d
  .cases d
 refine dC (s:=Instr.sliceAt t (η x) (lo.map η) (G.map η) ((none:Option Operand).map η)) (u:=.slice (if c=l then H else H.map (·.add (l*r))) (h-l) (c-l)) ?_ (Ex.refl w) ?_
 .rw[hv];simp only[Instr.sliceAt,Sem.run_bind,run_underlying hu,Result.andThen,Instr.slice,Option.map_none,hb,Z,Sem.run_pure]
 .have:=Rd.sl (w:=w) (O:=ay σ X) r ((xs.take h).drop l) (if c=l then H else H.map (·.add (l*r))) (c-l) (λq j=>vs (l+q) j) (by omega) (λy hy=>hk y (xG (List.mem_of_mem_drop hy)))
   (λq y d=>by
    have C:=m q y d;obtain⟨b,f,ha,g1,g2,g3⟩:=hc (l+q) y C;have hlt:=(zE.1 C).1;rw[if_neg (by omega),ha];refine⟨b,f+l*r,by simp[x4],g1,g2,λj hj=>?_⟩;have:=g3 j hj;rw[show f+l*r + q*r + j=f+(l+q)*r + j by rw[vC];omega];exact this) (λq y d=>hr (l+q) y (m q y d))
  rw[F]at this;exact this
end
end
end Go.Proofs.YtilnpcolgcmofaaGreatDoor
