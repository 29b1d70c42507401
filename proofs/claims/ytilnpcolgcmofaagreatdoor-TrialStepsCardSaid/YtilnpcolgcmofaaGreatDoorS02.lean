/- A part of the proof: D Op Aop. -/
import Derived.Test.YtilnpcolgcmofaaGreatDoorS01
import Derived.Sort.LoopGhostIn
import Derived.OrdersIn
import Derived.TacticsInMore
import Derived.StillTail
import Derived.Laws.Cells
import Derived.Shelf.Abstract
import Derived.IntWalk
set_option maxRecDepth 100000
set_option maxHeartbeats 20000000
set_option linter.all false
namespace Go.Proofs.YtilnpcolgcmofaaGreatDoor
open Tryz
section
open Go Go.RowKit
inductive D where
 |v (x:Value)
 |any
 |sl (k:Nat) (xs:List (List D))
 |ro (cs:List D)
 |agg (cs:List D)
 |tup (ds:List D)
 |clo (f:FuncId) (cs:List D)
 |gl (g:Nat)
 |ifc (t:TypeId) (d:D)
 |mth (n:String) (d:D)
inductive Rd(w:World)(O:Nat->Prop):D->Value->Prop
 |v (x:Value):Rd w O (.v x) x
 |any (x:Value):Rd w O .any x
 |sl (k:Nat) (xs:List (List D)) (a:Option Addr) (cap:Nat) (vs:Nat->Nat->Value) (hcap:xs.length<=cap) (hk:∀x∈xs,x.length=k)
   (hc:∀(i:Nat)x,xs[i]?=some x->∃b off,a=some ⟨b,off,none⟩/\¬O b/\b<w.heap.size/\∀j,j<k->w.cell? ⟨b,off+i*k+j,none⟩=some (vs i j))
   (hr:∀(i:Nat)x,xs[i]?=some x->∀(j:Nat)d,x[j]?=some d->Rd w O d (vs i j)):Rd w O (.sl k xs) (.slice a xs.length cap)
 |ro (cs:List D) (b off:Nat) (vs:Nat->Value) (hO:¬O b) (hb:b<w.heap.size)
   (hc:∀j,j<cs.length->w.cell? ⟨b,off+j,none⟩=some (vs j))
   (hr:∀(j:Nat)d,cs[j]?=some d->Rd w O d (vs j)):Rd w O (.ro cs) (.pointer (some ⟨b,off,none⟩))
 |agg (cs:List D) (vs:List Value) (hl:vs.length=cs.length) (hr:∀(j:Nat)d u,cs[j]?=some d->vs[j]?=some u->Rd w O d u):Rd w O (.agg cs) (.agg vs.toArray)
 |tup (cs:List D) (vs:List Value) (hl:vs.length=cs.length) (hr:∀(j:Nat)d u,cs[j]?=some d->vs[j]?=some u->Rd w O d u):Rd w O (.tup cs) (.tuple vs.toArray)
 |clo (f:FuncId) (cs:List D) (vs:List Value) (hl:vs.length=cs.length) (hr:∀(j:Nat)d u,cs[j]?=some d->vs[j]?=some u->Rd w O d u):Rd w O (.clo f cs) (.func (.func f) #[] vs.toArray)
 |gl (g:Nat) (q:Option Nat) (hO:¬O g) (hb:g<w.heap.size) (hc:w.cell? ⟨g,0,none⟩=some (.map q)):Rd w O (.gl g) (.map q)
 |ifc (t:TypeId) (d:D) (x:Value) (h:Rd w O d x):Rd w O (.ifc t d) (.iface t x)
 |mth (n:String) (d:D) (x:Value) (h:Rd w O d x):Rd w O (.mth n d) (.func (.method n) #[x] #[])
structure bb(w:World)(O:Nat->Prop)(cs:List D)(vs:List Value):Prop where
 len:vs.length=cs.length
 at_:∀(j:Nat)d u,cs[j]?=some d->vs[j]?=some u->Rd w O d u
theorem Rd.keep{w w':World}{O G:Nat->Prop}(z:w.heap.size<=w'.heap.size)(C:∀b,b<w.heap.size->¬O b->¬G b)
  (A:∀b,b<w.heap.size->¬O b->w'.heap[b]?=w.heap[b]?) {d:D} {x:Value} (h:Rd w O d x):Rd w' G d x:=by
 induction h with
 |v x=>exact .v x
 |any x=>exact .any x
 |sl k H a E vs r I u y e=>
  refine .sl k H a E vs r I (λi x hx=>?_) e;obtain⟨b,o,J,l,c,m⟩:=u i x hx;exact⟨b,o,J,C b c l,yI c z,λj B=>(World.cell?_of_block (w:=w) (A b c l)).trans (m j B)⟩
 |ro s b o vs l c u y e=>
  exact .ro s b o vs (C b c l) (yI c z) (λj B=>(World.cell?_of_block (w:=w) (A b c l)).trans (u j B)) e
 |agg s vs p y e=>exact .agg s vs p e
 |tup s vs p y e=>exact .tup s vs p e
 |clo f s vs p y e=>exact .clo f s vs p e
 |gl g q F l u=>exact .gl g q (C g l F) (yI l z) ((World.cell?_of_block (w:=w) (a:=⟨g,0,none⟩) (A g l F)).trans u)
 |ifc t d x h e=>exact .ifc t d x e
 |mth n d x h e=>exact .mth n d x e
theorem bb.keep{w w':World}{O a:Nat->Prop}(z:w.heap.size<=w'.heap.size)(e:∀b,b<w.heap.size->¬O b->¬a b)
  (c:∀b,b<w.heap.size->¬O b->w'.heap[b]?=w.heap[b]?) {s:List D} {x:List Value} (h:bb w O s x):bb w' a s x:=
 ⟨h.len,λj d u g f=>(h.at_ j d u g f).keep z e c⟩
theorem Rd.ex{w w':World}{O:Nat->Prop}(e:Ex w w'){d:D}{x:Value}(h:Rd w O d x):Rd w' O d x:=
 h.keep e.size (λ_ _ h=>h) (λb a _=>e.block b a)
theorem bb.ex{w w':World}{O:Nat->Prop}(e:Ex w w'){d:List D}{xs:List Value}(h:bb w O d xs):bb w' O d xs:=
 h.keep e.size (λ_ _ h=>h) (λb a _=>e.block b a)
theorem bb.nil{w:World}{O:Nat->Prop}:bb w O [] []:=⟨rfl,λj d u h=>by simp at h⟩
theorem bb.cons{w:World}{O:Nat->Prop}{d:D}{u:Value}{s:List D}{xs:List Value}(h:Rd w O d u)(t:bb w O s xs):bb w O (d::s) (u::xs):=
 ⟨by simp[t.len],λj e c b a=>by
  cases j with
  |zero=>simp at b a;subst b a;exact h
  |succ j=>simp at b a;exact t.at_ j e c b a⟩
theorem bb.get{w:World}{O:Nat->Prop}{s:List D}{xs:List Value}(h:bb w O s xs){j:Nat}{d:D}(b:s[j]?=some d):∃u,xs[j]?=some u/\Rd w O d u:=by
 have t:j<s.length:=(zE.1 b).1;have a:j<xs.length:=by rw[h.len];exact t
 exact⟨xs[j],zD a,h.at_ j d _ b (zD a)⟩
def qA:=@List.getElem?_map
theorem KO{w:World}{O:Nat->Prop}(xs:List Value):bb w O (xs.map .v) xs:=
 ⟨by simp,λj d u h a=>by
  rw[qA,a]at h;simp at h;subst h;exact .v u⟩
theorem Rd.val{w:World}{O:Nat->Prop}{d:D}{x u:Value}(h:Rd w O d x)(b:d= .v u):x=u:=by
 subst b;generalize a:D.v u=q at h
 cases h<;>cases a
 rfl
theorem Rd.sl_inv{w:World}{O:Nat->Prop}{k:Nat}{xs:List (List D)}{x:Value}(h:Rd w O (.sl k xs) x):∃(a:Option Addr)(c:Nat)(vs:Nat->Nat->Value),x= .slice a xs.length c/\xs.length<=c/\(∀y∈xs,y.length=k) /\
  (∀(i:Nat)y,xs[i]?=some y->∃b o,a=some ⟨b,o,none⟩/\¬O b/\b<w.heap.size/\∀j,j<k->w.cell? ⟨b,o+i*k+j,none⟩=some (vs i j))/\(∀(i:Nat)y,xs[i]?=some y->∀(j:Nat)d,y[j]?=some d->Rd w O d (vs i j)):=by
 generalize e:D.sl k xs=q at h
 cases h<;>cases e
 exact⟨_,_,_,rfl,by assumption,by assumption,by assumption,by assumption⟩
theorem Rd.ro_inv{w:World}{O:Nat->Prop}{cs:List D}{x:Value}(h:Rd w O (.ro cs) x):∃(b o:Nat)(vs:Nat->Value),x= .pointer (some ⟨b,o,none⟩)/\¬O b/\b<w.heap.size/\(∀j,j<cs.length->w.cell? ⟨b,o+j,none⟩=some (vs j))/\(∀(j:Nat)d,cs[j]?=some d->Rd w O d (vs j)):=by
 generalize a:D.ro cs=q at h
 cases h<;>cases a
 exact⟨_,_,_,rfl,by assumption,by assumption,by assumption,by assumption⟩
theorem Rd.agg_inv{w:World}{O:Nat->Prop}{cs:List D}{x:Value}(h:Rd w O (.agg cs) x):∃vs:List Value,x= .agg vs.toArray/\bb w O cs vs:=by
 generalize a:D.agg cs=q at h
 cases h<;>cases a
 rename_i vs l r;exact⟨vs,rfl,l,r⟩
theorem Rd.tup_inv{w:World}{O:Nat->Prop}{cs:List D}{x:Value}(h:Rd w O (.tup cs) x):∃vs:List Value,x= .tuple vs.toArray/\bb w O cs vs:=by
 generalize a:D.tup cs=q at h
 cases h<;>cases a
 rename_i vs l r;exact⟨vs,rfl,l,r⟩
theorem Rd.clo_inv{w:World}{O:Nat->Prop}{f:FuncId}{cs:List D}{x:Value}(h:Rd w O (.clo f cs) x):∃vs:List Value,x= .func (.func f) #[] vs.toArray/\bb w O cs vs:=by
 generalize a:D.clo f cs=q at h
 cases h<;>cases a
 rename_i vs l r;exact⟨vs,rfl,l,r⟩
theorem Rd.ifc_inv{w:World}{O:Nat->Prop}{t:TypeId}{d:D}{x:Value}(h:Rd w O (.ifc t d) x):∃u,x= .iface t u/\Rd w O d u:=by
 generalize a:D.ifc t d=q at h
 cases h<;>cases a
 exact⟨_,rfl,by assumption⟩
theorem Rd.mth_inv{w:World}{O:Nat->Prop}{n:String}{d:D}{x:Value}(h:Rd w O (.mth n d) x):∃u,x= .func (.method n) #[u] #[]/\Rd w O d u:=by
 generalize a:D.mth n d=q at h
 cases h<;>cases a
 exact⟨_,rfl,by assumption⟩
def gF:D->List D
 |.agg c=>c
 |.v (.agg vs)=>vs.toList.map .v
 |d=>[d]
theorem Rd.cells{w:World}{O:Nat->Prop}{d:D}{x:Value}(h:Rd w O d x)(i:d ≠ .any):bb w O (gF d) x.cells.toList:=by
 have one:∀{d:D}{x:Value},Rd w O d x->bb w O [d] [x]:=λh=>.cons h .nil
 cases h with
 |v x=>cases x<;>first|exact one (.v _)|exact KO _
 |any x=>exact absurd rfl i
 |sl k s a m vs p u e r=>exact one (.sl k s a m vs p u e r)
 |ro c b o vs y j e r=>exact one (.ro c b o vs y j e r)
 |agg c vs l r=>exact(⟨l,r⟩:bb w O c vs)
 |tup c vs l r=>exact one (.tup c vs l r)
 |clo f c vs l r=>exact one (.clo f c vs l r)
 |gl g q z j e=>exact one (.gl g q z j e)
 |ifc t d x h=>exact one (.ifc t d x h)
 |mth n d x h=>exact one (.mth n d x h)
inductive aE where
 |cells (t:TypeId) (cs:List D)
 |obj (ok:Obj->Prop)
 |mp (P:Program) (k:TypeId) (G:Value->Option D)
abbrev af:=List (Nat×aE)
def aQ(σ:af):List Nat:=σ.map Prod.fst
def ay(σ:af)(X:Nat->Prop)(b:Nat):Prop:=X b\/b∈aQ σ
def aE.ok(w:World)(O:Nat->Prop):aE->Obj->Prop
 |.cells t s,o=>∃vs:List Value,o= .cells vs.toArray t (0,0)/\bb w O s vs
 |.obj ok,o=>ok o
 |.mp P k G,o=>∃e c n F,o= .map e c/\fG P k e c n F/\∀y,(F y=none/\G y=none)\/∃v d,F y=some v/\G y=some d/\Rd w O d v
structure aU(w:World)(X:Nat->Prop)(σ:af):Prop where
 nodup:(aQ σ).Nodup
 at_:∀b k,(b,k)∈σ->¬X b/\∃o,w.heap[b]?=some o/\k.ok w (ay σ X) o
 xlt:∀b,X b->b<w.heap.size
 gok:qZ w (ay σ X)
def xM:=@List.mem_map
theorem aU.lt{w:World}{X:Nat->Prop}{σ:af}(h:aU w X σ){b:Nat}(c:b∈aQ σ):b<w.heap.size:=by
 obtain⟨⟨d,k⟩,m,rfl⟩:=xM.1 c;obtain⟨_,o,a,_⟩:=h.at_ d k m;exact(zX.1 a).1
theorem aU.own_lt{w:World}{X:Nat->Prop}{σ:af}(h:aU w X σ){b:Nat}(a:ay σ X b):b<w.heap.size:=by
 rcases a with a|a
 .exact h.xlt b a
 .exact h.lt a
theorem aU.ex{w w':World}{X:Nat->Prop}{σ:af}(h:aU w X σ)(e:Ex w w'):aU w' X σ:=
 ⟨h.nodup,λb k m=>by
  obtain⟨hx,o,i,a⟩:=h.at_ b k m;refine⟨hx,o,(e.block b (zX.1 i).1).trans i,?_⟩
  cases k with
  |cells t u=>obtain⟨vs,g,f⟩:=a;exact⟨vs,g,f.ex e⟩
  |obj ok=>exact a
  |mp P k G=>obtain⟨s,c,n,F,g,f,r⟩:=a;exact⟨s,c,n,F,g,f,λy=>(r y).imp id λ⟨v,d,l,j,q⟩=>⟨v,d,l,j,q.ex e⟩⟩,λb p=>yI (h.xlt b p) e.size,h.gok.ex e⟩
structure Mv(w:World)(σ:af)(w':World)(σ':af):Prop where
 keep:aW (λb=>b∈aQ σ) w w'
 new:∀b,b∈aQ σ'->b∈aQ σ\/w.heap.size<=b
theorem Mv.refl(w:World)(σ:af):Mv w σ w σ:=⟨aW.refl _ _,λ_ h=>Or.inl h⟩
theorem jx{w w':World}{σ:af}(h:Ex w w'):Mv w σ w' σ:=⟨h.keep,λ_ h=>Or.inl h⟩
theorem Mv.trans{a b c:World}{s t u:af}(h:Mv a s b t)(k:Mv b t c u):Mv a s c u:=by
 refine⟨⟨k.keep.os.trans h.keep.os,k.keep.tape.trans h.keep.tape,k.keep.output.trans h.keep.output,xH h.keep.size k.keep.size,λi e f=>?_⟩,λi e=>?_⟩
 .refine(k.keep.block i (yI e h.keep.size) (λm=>?_)).trans (h.keep.block i e f);rcases h.new i m with d|d
  .exact f d
  .omega
 .rcases k.new i e with d|d
  .exact h.new i d
  .exact Or.inr (xH h.keep.size d)
structure FR(w:World)(O:Nat->Prop)(a:List D)(t:Array Value):Prop where
 size:t.size=a.length
 at_:∀(i:Nat)d,a[i]?=some d->∃u,t[i]?=some u/\Rd w O d u
theorem FR.keep{w w':World}{O c:Nat->Prop}(z:w.heap.size<=w'.heap.size)(f:∀b,b<w.heap.size->¬O b->¬c b)
  (s:∀b,b<w.heap.size->¬O b->w'.heap[b]?=w.heap[b]?) {a:List D} {t:Array Value} (h:FR w O a t):FR w' c a t:=
 ⟨h.size,λi d e=>let ⟨u,h1,h2⟩:=h.at_ i d e;⟨u,h1,h2.keep z f s⟩⟩
theorem FR.ex{w w':World}{O:Nat->Prop}(e:Ex w w'){a:List D}{t:Array Value}(h:FR w O a t):FR w' O a t:=
 h.keep e.size (λ_ _ h=>h) (λb c _=>e.block b c)
def aF(a:List D)(dst:Option Tmp)(d:D):List D:=match dst with|some i=>a.set i d|none=>a
def xP:=@List.getElem?_set
theorem FR.put{w:World}{O:Nat->Prop}{a:List D}{fr:Act}(h:FR w O a fr.tmps){d:D}{u:Value}(f:Rd w O d u)(dst:Option Tmp):FR w O (aF a dst d) (fr.put dst u).tmps:=by
 cases dst with
 |none=>exact h
 |some i=>
  refine⟨by simp[aF,Act.put,h.size],λj l c=>?_⟩;simp only[aF,xP]at c;simp only[Act.put,Array.getElem?_setIfInBounds];split at c
  .rename_i b;subst b;split at c
   .rename_i t
    cases c
    have:i<fr.tmps.size:=by rw[h.size];exact t
    exact⟨u,by simp[this],f⟩
   .cases c
  .rename_i b;obtain⟨e,k,g⟩:=h.at_ j l c;exact⟨e,by simp[b,k],g⟩
def gV(a:List D):Operand->D
 |.tmp t=>a.getD t (.v undef)
 |.const v=>.v v
 |.global g=>.v (.pointer (some ⟨g,0,none⟩))
 |.func f=>.v (.func (.func f) #[] #[])
def yY:=@List.getElem?_eq_none_iff
theorem FR.eval{w:World}{O:Nat->Prop}{a:List D}{fr:Act}(h:FR w O a fr.tmps)(x:Operand):Rd w O (gV a x) (fr.eval x):=by
 cases x with
 |tmp t=>
  simp only[gV,Act.eval]
  cases b:a[t]? with
  |some d=>
   obtain⟨u,e,c⟩:=h.at_ t d b;simp[List.getD_eq_getElem?_getD,b,e];exact c
  |none=>
   have:fr.tmps[t]?=none:=by
    rw[Array.getElem?_eq_none];rw[h.size];exact yY.1 b
   simp[List.getD_eq_getElem?_getD,b,this];exact .v _
 |const v=>exact .v v
 |global g=>exact .v _
 |func f=>exact .v _
def Qn(b:Nat):Deferred:={ target:=.collected b,args:=#[] }
def EP(w:World)(O:Nat->Prop)(B:Nat)(l:List Deferred):Prop:=B<=w.heap.size/\∃s:List Nat,l=s.map Qn/\s.Nodup/\∀b∈s,B<=b/\¬O b/\w.heap[b]?=some (.deferred (some []))
theorem EP.nil{w:World}{O:Nat->Prop}{B:Nat}(a:B<=w.heap.size):EP w O B []:=⟨a,[],rfl,List.nodup_nil,λb h=>by cases h⟩
theorem EP.keep{w w':World}{O c:Nat->Prop}{B:Nat}{l:List Deferred}(h:EP w O B l)(z:w.heap.size<=w'.heap.size)(f:∀b,b<w.heap.size->¬O b->¬c b)
  (s:∀b,b<w.heap.size->¬O b->w'.heap[b]?=w.heap[b]?):EP w' c B l:=by
 obtain⟨m,n,j,i,g⟩:=h;refine⟨xH m z,n,j,i,λb e=>?_⟩;obtain⟨d,a,k⟩:=g b e;have t:=(zX.1 k).1;exact⟨d,f b t a,(s b t a).trans k⟩
theorem EP.ex{w w':World}{O:Nat->Prop}{B:Nat}{l:List Deferred}(h:EP w O B l)(e:Ex w w'):EP w' O B l:=h.keep e.size (λ_ _ h=>h) (λb a _=>e.block b a)
structure St(w:World)(X:Nat->Prop)(df:Nat)(a:List D)(σ:af)(ac:Act):Prop where
 fr:FR w (ay σ X) a ac.tmps
 st:aU w X σ
 df:EP w (ay σ X) df ac.defers
theorem St.ex{w w':World}{X:Nat->Prop}{df:Nat}{a:List D}{σ:af}{fr:Act}(h:St w X df a σ fr)(e:Ex w w'):St w' X df a σ fr:=⟨h.fr.ex e,h.st.ex e,h.df.ex e⟩
theorem St.put{w:World}{X:Nat->Prop}{df:Nat}{a:List D}{σ:af}{fr:Act}(h:St w X df a σ fr){d:D}{u:Value}(b:Rd w (ay σ X) d u)(dst:Option Tmp):St w X df (aF a dst d) σ (fr.put dst u):=
 ⟨h.fr.put b dst,h.st,by cases dst<;>exact h.df⟩
def FW(r:Option Nat):Fence:={ Fence.wide with round:=r }
abbrev eY:=Exit->List D->af->Prop
structure dQ(P:Program)(r:Option Nat)(n:Nat)(df:Nat)(c:Code)(Q:eY)(a:List D)(σ:af):Prop where
 run:∀(w:World)(X:Nat->Prop)(fr:Act),St w X df a σ fr ->
  c.wpIn (FW r) n P (λe fr' w'=>∃a' σ',Q e a' σ'/\St w' X df a' σ' fr'/\Mv w σ w' σ') fr w
def zq(n:List D->af->Prop)(Q:eY):eY
 |.normal,a,σ=>n a σ
 |e,a,σ=>Q e a σ
def qz(id:Nat)(Q:eY):eY
 |.exit i,a,σ=>if i=id then Q .normal a σ else Q (.exit i) a σ
 |e,a,σ=>Q e a σ
section
variable {P:Program} {r:Option Nat} {n:Nat} {df:Nat} {Q:eY} {a:List D} {σ:af}
theorem LV{c:Code}{Q':eY}(h:dQ P r n df c Q a σ)(q:∀e a σ,Q e a σ->Q' e a σ):dQ P r n df c Q' a σ:=
 ⟨λw X g s=>wpIn_mono (h.run w X g s) λe f j⟨i,σ',d,b⟩=>⟨i,σ',q _ _ _ d,b⟩⟩
theorem Ed(h:Q .normal a σ):dQ P r n df .skip Q a σ:=⟨λw X f s=>wpIn_skip ⟨a,σ,h,s,Mv.refl _ _⟩⟩
theorem I4(h:Q .ret a σ):dQ P r n df .ret Q a σ:=⟨λw X f s=>wpIn_ret ⟨a,σ,h,s,Mv.refl _ _⟩⟩
theorem Ee{id:Nat}(h:Q (.exit id) a σ):dQ P r n df (.exit id) Q a σ:=⟨λw X f s=>wpIn_exit ⟨a,σ,h,s,Mv.refl _ _⟩⟩
theorem I3{x y:Code}(h:dQ P r n df x (zq (dQ P r n df y Q) Q) a σ):dQ P r n df (.seq x y) Q a σ:=by
 refine⟨λw X t s=>?_⟩;refine wpIn_seq (wpIn_mono (h.run w X t s) ?_);rintro e g m ⟨f,σ',d,c,b⟩
 cases e with
 |normal=>exact wpIn_mono (d.run m X g c) λe j k⟨i,σ'',q,p,o⟩=>⟨i,σ'',q,p,b.trans o⟩
 |exit id=>exact⟨f,σ',d,c,b⟩
 |goto l=>exact⟨f,σ',d,c,b⟩
 |ret=>exact⟨f,σ',d,c,b⟩
 |panic u=>exact⟨f,σ',d,c,b⟩
 |outgrown=>exact⟨f,σ',d,c,b⟩
theorem wg{id:Nat}{c:Code}(h:dQ P r n df c (qz id Q) a σ):dQ P r n df (.block id c) Q a σ:=by
 refine⟨λw X m s=>?_⟩;refine wpIn_block (wpIn_mono (h.run w X m s) ?_);rintro e k o ⟨g,σ',b,f,d⟩
 cases e with
 |exit j=>
  simp only[qz]at b;simp only[Exit.inBlock];split at b
  .rename_i i;rw[if_pos i];exact⟨g,σ',b,f,d⟩
  .rename_i i;rw[if_neg i];exact⟨g,σ',b,f,d⟩
 |normal=>exact⟨g,σ',b,f,d⟩
 |goto l=>exact⟨g,σ',b,f,d⟩
 |ret=>exact⟨g,σ',b,f,d⟩
 |panic p=>exact⟨g,σ',b,f,d⟩
 |outgrown=>exact⟨g,σ',b,f,d⟩
theorem nX{c:Operand}{x y:Code}{t:Bool}(b:gV a c= .v (.bool t))(h:dQ P r n df (if t then x else y) Q a σ):dQ P r n df (.cond c x y) Q a σ:=by
 refine⟨λw X f s=>?_⟩;refine wpIn_cond (t:=t) ?_ (h.run w X f s);exact(s.fr.eval c).val b
theorem wb{c:Operand}{x y:Code}{t:Bool}(h:gV a c= .v (.bool t))(b:t=true->dQ P r n df x Q a σ)(f:t=false->dQ P r n df y Q a σ):dQ P r n df (.cond c x y) Q a σ:=by
 cases t
 .exact nX h (f rfl)
 .exact nX h (b rfl)
theorem bb3{c:Code}(I:Nat->List D->af->Prop)(d:Nat)(p:I d a σ)
  (f:∀m a σ,I m a σ->dQ P r n df c (zq (λo σ'=>∃s,s < m/\I s o σ') Q) a σ):dQ P r n df (.loop c) Q a σ:=by
 refine⟨λw X B v=>?_⟩;refine wpIn_loop_ghost (λm g q=>∃o σ',I m o σ'/\St q X df o σ' g/\Mv w σ q σ') d ⟨a,σ,p,v,Mv.refl _ _⟩ ?_;rintro m g q ⟨o,σ',A,z,j⟩;refine wpIn_mono ((f m o σ' A).run q X g z) ?_;rintro e t u ⟨b,σ'',i,h,k⟩
 cases e with
 |normal=>obtain⟨s,x,y⟩:=i;exact⟨s,x,b,σ'',y,h,j.trans k⟩
 |exit id=>exact⟨b,σ'',i,h,j.trans k⟩
 |goto l=>exact⟨b,σ'',i,h,j.trans k⟩
 |ret=>exact⟨b,σ'',i,h,j.trans k⟩
 |panic C=>exact⟨b,σ'',i,h,j.trans k⟩
 |outgrown=>exact⟨b,σ'',i,h,j.trans k⟩
end
end
section
open Go Go.RowKit
def iR:Op->Bool
 |.defer _=>false
 |.select _ _=>false
 |_=>true
theorem Z7{o:Oper}(h:iR o.op=true)(r:Option Nat)(ρ:Operand->Value):Oper.semAt r ρ o=execOp ρ o:=by
 cases r with
 |none=>rfl
 |some l=>exact Oper.semAt_some l ρ o (λc a=>by rw[a]at h;cases h)
def YU(P:Program)(w:World)(X:Nat->Prop)(σ:af)(d:D):Result Next->Prop
 |.ok (.value u) b=>Ex w b/\Rd b (ay σ X) d u
 |.ok (.enter f s) b=>b=w/\Calls P f s w (λe a=>∃u,e= .returned u/\Ex w a/\Rd a (ay σ X) d u)
 |_=>False
def Yd(P:Program)(o:Oper)(ρ:Operand->D)(σ:af)(d:D):Prop:=
 ∀(w:World)(X:Nat->Prop)(η:Operand->Value),(∀x∈o.op.operands,Rd w (ay σ X) (ρ x) (η x))->aU w X σ->YU P w X σ d ((execOp η o).run P w)
theorem Yd.congr{P:Program}{o:Oper}{ρ ρ':Operand->D}{σ:af}{d:D}(h:Yd P o ρ σ d)(e:∀x∈o.op.operands,ρ' x=ρ x):Yd P o ρ' σ d:=
 λw X η a s=>h w X η (λx hx=>by rw[←e x hx];exact a x hx) s
def gb(ops:Array Oper)(a:List D)(o:Oper):Option Bool:=
 match o.guard with
 |none=>some true
 |some (j,w)=>
  match(ops[j]?).bind (·.dst)with
  |some t=>(match a[t]? with|some (.v x)=>(match x with|.bool b=>some (b==w)|_=>some false)|_=>none)
  |none=>none
theorem L5{ops:Array Oper}{a:List D}{o:Oper}{t:Bool}{w:World}{O:Nat->Prop}{s:Array Value}(f:FR w O a s)(h:gb ops a o=some t):Region.wanted o (yielded ops s)=t:=by
 unfold gb at h;unfold Region.wanted;split at h
 .rename_i g;cases h;simp only[g]
 .rename_i j b g;simp only[g];split at h
  .rename_i l c;split at h
   .rename_i x d;obtain⟨u,i,e⟩:=f.at_ _ _ d;have:=e.val rfl;subst this;simp only[yielded,c,Option.bind_some,i]
    cases u<;>simp only at h<;>cases h<;>first|rfl|(rename_i k;cases k<;>cases b<;>rfl)
   .cases h
  .cases h
section
variable {P:Program} {r:Option Nat} {n:Nat} {df:Nat} {ops:Array Oper} {Q:eY} {a:List D} {σ:af}
def Pw(w:World)(X:Nat->Prop)(df:Nat)(σ:af)(Q:eY):Exit->Act->World->Prop:=λe f a=>∃b σ',Q e b σ'/\St a X df b σ' f/\Mv w σ a σ'
theorem pA2{w w':World}{X:Nat->Prop}{σ σ':af}(m:Mv w σ w' σ'){e:Exit}{fr:Act}{a:World}(h:Pw w' X df σ' Q e fr a):Pw w X df σ Q e fr a:=by
 obtain⟨f,s,d,c,b⟩:=h;exact⟨f,s,d,c,m.trans b⟩
theorem JM{F:Fence}{p Q:Exit->Act->World->Prop}(q:∀e a w,p e a w->Q e a w):∀(l:List Oper)(r:Act)(w:World),wpListIn F n P ops p l r w->wpListIn F n P ops Q l r w
 |[],_,_,h=>q _ _ _ h
 |o::l,r,w,h=>by
  unfold wpListIn at h⊢;split at h
  .rename_i i;rw[if_pos i];have m:=Oper.wpIn_mono (λa w h=>JM q l a w h) h;unfold Oper.wpIn at m⊢;refine⟨m.1,?_⟩;have m:=m.2;generalize(o.semAt F.round r.eval).run P w=s at *
   cases s with
   |ok x t=>
    cases x<;>simp only[Oper.uponIn]at m⊢ <;> try exact m
    case enter f args=>
     refine⟨m.1,m.2.mono λe g b=>?_⟩
     cases e with
     |returned v=>exact b
     |panicked c=>exact q _ _ _ b
     |outgrown=>obtain⟨k,d,j⟩:=b;exact⟨k,d,q _ _ _ j⟩
    case round=>
     refine⟨m.1,m.2.mono λe g b=>?_⟩
     cases e with
     |returned v=>exact b
     |panicked c=>exact q _ _ _ b
     |outgrown=>obtain⟨k,d,j⟩:=b;exact⟨k,d,q _ _ _ j⟩
   |halt x t=>cases x<;>simp only[Oper.uponIn]at m⊢ <;> first|exact q _ _ _ m|exact m
  .rename_i i;rw[if_neg i];exact⟨h.1,JM q l _ _ h.2⟩
structure bP(P:Program)(r:Option Nat)(n:Nat)(df:Nat)(ops:Array Oper)(Q:eY)(l:List Oper)(a:List D)(σ:af):Prop where
 run:∀(w:World)(X:Nat->Prop)(fr:Act),St w X df a σ fr->wpListIn (FW r) n P ops (Pw w X df σ Q) l fr w
theorem n6(h:Q .normal a σ):bP P r n df ops Q [] a σ:=⟨λw X f s=>⟨a,σ,h,s,Mv.refl _ _⟩⟩
theorem qC{id:Nat}(h:bP P r n df ops Q ops.toList a σ):dQ P r n df (.region id ops false) Q a σ:=⟨λw X f s=>wpIn_region_list (h.run w X f s)⟩
theorem LM(o:Oper)(w:World)(ρ:Operand->Value):∀f,o.about P w ρ=some f->(FW r).fn f:=λ_ _=>trivial
theorem wo{o:Oper}{t:List Oper}(b:gb ops a o=some false)(h:bP P r n df ops Q t (aF a o.dst (.v undef)) σ):bP P r n df ops Q (o::t) a σ:=by
 refine⟨λw X f s=>?_⟩;unfold wpListIn;rw[if_neg (by rw[L5 s.fr b];simp)];exact⟨LM o w _,h.run w X _ (s.put (.v _) o.dst)⟩
theorem oM{o:Oper}{t:List Oper}(z:gb ops a o=some true)(B:iR o.op=true)
  (h:∀w X g,St w X df a σ g->(match(execOp g.eval o).run P w with
   |.ok (.value u) b=>∃d σ',Mv w σ b σ'/\St b X df (aF a o.dst d) σ' (g.put o.dst u)/\bP P r n df ops Q t (aF a o.dst d) σ'
   |.ok .skip b=>∃σ',Mv w σ b σ'/\St b X df (aF a o.dst (.v undef)) σ' (g.put o.dst undef)/\bP P r n df ops Q t (aF a o.dst (.v undef)) σ'
   |.ok (.enter f args) b=>b=w/\Calls P f args w (λe c=>∃u,e= .returned u/\∃d σ',Mv w σ c σ'/\St c X df (aF a o.dst d) σ' (g.put o.dst u)/\bP P r n df ops Q t (aF a o.dst d) σ')
   |_=>False)):bP P r n df ops Q (o::t) a σ:=by
 refine⟨λw X g q=>?_⟩;have h:=h w X g q;unfold wpListIn;rw[if_pos (by rw[L5 q.fr z])];refine⟨LM o w _,?_⟩;rw[show(FW r).round=r from rfl,Z7 B];generalize(execOp g.eval o).run P w=s at h;have fin:∀{b:World}{l:Act}{y:List D}{σ':af},Mv w σ b σ'->St b X df y σ' l->bP P r n df ops Q t y σ'->wpListIn (FW r) n P ops (Pw w X df σ Q) t l b:=
  λC m E=>JM (λe a c A=>pA2 C A) t _ _ (E.run _ X _ m)
 cases s with
 |ok x b=>
  cases x<;>simp only at h<;>try exact h.elim
  case value u=>obtain⟨d,σ',k,j,i⟩:=h;exact fin k j i
  case skip=>obtain⟨σ',k,j,i⟩:=h;exact fin k j i
  case enter f args=>
   obtain⟨rfl,H⟩:=h;refine⟨λG=>by simp[FW,Fence.wide]at G,?_⟩;have p:CallsIn Fence.wide (n-1) P f args b _:=callsIn_wide.2 H;have:CallsIn (FW r) (n-1) P f args b _:=p;refine this.mono λe c F=>?_;obtain⟨u,rfl,d,σ',k,j,i⟩:=F;exact fin k j i
 |halt x b=>exact h.elim
theorem te{o:Oper}{t:List Oper}{d:D}(k:gb ops a o=some true)(m:iR o.op=true)(y:Yd P o (gV a) σ d)(h:bP P r n df ops Q t (aF a o.dst d) σ):bP P r n df ops Q (o::t) a σ:=by
 refine oM k m λw X g s=>?_;have b:=y w X g.eval (λx _=>s.fr.eval x) s.st;generalize(execOp g.eval o).run P w=c at b
 cases c with
 |ok x j=>
  cases x<;>simp only[YU]at b
  case value u=>exact⟨d,σ,jx b.1,(s.ex b.1).put b.2 o.dst,h⟩
  case enter f args=>exact⟨b.1,b.2.mono λe i⟨u,p,hx,l⟩=>⟨u,p,d,σ,jx hx,(s.ex hx).put l o.dst,h⟩⟩
 |halt x j=>simp only[YU]at b
theorem Y4(a:List D){x y:Option Tmp}(d e:D)(h:∀i,x=some i->y≠some i):aF (aF a x d) y e=aF (aF a y e) x d:=by
 cases x with
 |none=>rfl
 |some i=>
  cases y with
  |none=>rfl
  |some j=>
   have:i≠j:=λb=>h i rfl (by rw[b]);simp only[aF];exact List.set_comm _ _ this
theorem bb0{a:List D}{dst:Option Tmp}{d:D}{x:Operand}(h:∀i,dst=some i->x ≠ .tmp i):gV (aF a dst d) x=gV a x:=by
 cases dst with
 |none=>rfl
 |some i=>
  cases x with
  |tmp t=>
   have:i≠t:=λe=>h i rfl (by rw[e]);simp[gV,aF,List.getD_eq_getElem?_getD,xP,this]
  |_=>rfl
def yW:=@List.mem_append_right
theorem aC6{o:Oper}{dst:Option Tmp}{d:D}(h:∀i,dst=some i->i ∉ o.looksAt ops):gb ops (aF a dst d) o=gb ops a o:=by
 cases dst with
 |none=>rfl
 |some i=>
  unfold gb;split
  .rfl
  .rename_i j w g;split
   .rename_i t b;have:i≠t:=λe=>h i rfl (by
     subst e;unfold Oper.looksAt;refine yW _ ?_;simp[g,b])
    simp[aF,xP,this]
   .rfl
def qk(al:Option (Nat×TypeId))(o:Oper):Bool:=match al with
 |none=>false
 |some (s,_)=>match o.dst with|some i=>Nat.beq i s|none=>false
def Hd(al:Option (Nat×TypeId))(P:Program)(o:Oper)(ρ:Operand->D)(σ:af)(d:D):Prop:=
 (qk al o=false/\Yd P o ρ σ d)\/(qk al o=true/\(∃s t,al=some (s,t)/\o.op= .alloc t/\o.dst=some s)/\d= .any)
theorem Hd.congr{al:Option (Nat×TypeId)}{P:Program}{o:Oper}{ρ ρ':Operand->D}{σ:af}{d:D}(h:Hd al P o ρ σ d)(e:∀x∈o.op.operands,ρ' x=ρ x):Hd al P o ρ' σ d:=by
 rcases h with⟨b,a⟩|h
 .exact .inl ⟨b,a.congr e⟩
 .exact .inr h
theorem Hd.yd{P:Program}{o:Oper}{ρ:Operand->D}{σ:af}{d:D}(h:Hd none P o ρ σ d):Yd P o ρ σ d:=by
 rcases h with⟨_,h⟩|⟨h,_⟩
 .exact h
 .cases h
theorem Hd.of{P:Program}{o:Oper}{ρ:Operand->D}{σ:af}{d:D}(h:Yd P o ρ σ d):Hd none P o ρ σ d:=.inl ⟨rfl,h⟩
variable {al:Option (Nat×TypeId)}
def aOp(al:Option (Nat×TypeId))(P:Program)(ops:Array Oper)(σ:af)(i:Nat)(K:List D->Prop)(a:List D):Prop:=
 match ops[i]? with
 |none=>K a
 |some o=>(gb ops a o=some true/\iR o.op=true/\∃d,Hd al P o (gV a) σ d/\K (aF a o.dst d))\/(gb ops a o=some false/\K (aF a o.dst (.v undef)))
theorem EF{i:Nat}{K g:List D->Prop}(h:∀a,K a->g a)(b:aOp al P ops σ i K a):aOp al P ops σ i g a:=by
 unfold aOp at *;split
 .rename_i c;simp only[c]at b;exact h _ b
 .rename_i o c;simp only[c]at b;rcases b with⟨f,e,d,k,j⟩|⟨f,e⟩
  .exact .inl ⟨f,e,d,k,h _ j⟩
  .exact .inr ⟨f,h _ e⟩
def cd(al:Option (Nat×TypeId))(P:Program)(ops:Array Oper)(σ:af)(o:Oper)(d:D)(a:List D):Prop:=
 (gb ops a o=some true/\iR o.op=true/\Hd al P o (gV a) σ d)\/(gb ops a o=some false/\d= .v undef)
theorem cd.aOp{i:Nat}{o:Oper}{d:D}(c:ops[i]?=some o)(y:cd al P ops σ o d a){K:List D->Prop}(h:K (aF a o.dst d)):aOp al P ops σ i K a:=by
 unfold Proofs.YtilnpcolgcmofaaGreatDoor.aOp;simp only[c];rcases y with⟨b,f,e⟩|⟨b,rfl⟩
 .exact .inl ⟨b,f,d,e,h⟩
 .exact .inr ⟨b,h⟩
theorem aM3{i:Nat}{o:Oper}{K:List D->Prop}(e:ops[i]?=some o)(h:aOp al P ops σ i K a):∃d,cd al P ops σ o d a/\K (aF a o.dst d):=by
 unfold aOp at h;simp only[e]at h;rcases h with⟨c,b,d,g,f⟩|⟨c,b⟩
 .exact⟨d,.inl ⟨c,b,g⟩,f⟩
 .exact⟨_,.inr ⟨c,rfl⟩,b⟩
def xK:=@List.mem_append_left
theorem as7{o:Oper}{i:Nat}(h:i ∉ o.looksAt ops):∀x∈o.op.operands,x ≠ .tmp i:=by
 intro x hx e;subst e;exact h (xK _ (List.mem_filterMap.2 ⟨.tmp i,by simpa using hx,rfl⟩))
theorem cd.put{o:Oper}{d:D}(y:cd al P ops σ o d a){dst:Option Tmp}{e:D}(h:∀i,dst=some i->i ∉ o.looksAt ops):cd al P ops σ o d (aF a dst e):=by
 unfold cd at *;rw[aC6 h];rcases y with⟨b,g,f⟩|b
 .exact .inl ⟨b,g,f.congr λx hx=>bb0 λi c=>as7 (h i c) x hx⟩
 .exact .inr b
theorem JY{j:Nat}{o c:Oper}{d:D}(r:ops[j]?=some c)(p:o.apart ops c=true){K:List D->Prop}
  (y:cd al P ops σ o d a) (h:aOp al P ops σ j K (aF a o.dst d)):aOp al P ops σ j (λm=>cd al P ops σ o d m/\K (aF m o.dst d)) a:=by
 obtain⟨l,g,f⟩:=Oper.apart_spec p;unfold aOp at *;simp only[r]at *;rw[aC6 l]at h;rcases h with⟨b,k,e,q,n⟩|⟨b,k⟩
 .refine .inl ⟨b,k,e,q.congr (λx hx=>(bb0 λi s=>as7 (l i s) x hx).symm),y.put f,?_⟩;rw[←Y4 a d e g];exact n
 .refine .inr ⟨b,y.put f,?_⟩;rw[←Y4 a d _ g];exact k
variable {md:Region.Mode}
def iM(al:Option (Nat×TypeId))(P:Program)(md:Region.Mode)(ops:Array Oper)(σ:af)(m:Nat)(L:Array Bool->List D->Prop):Nat->Array Bool->List D->Prop
 |0,l,a=>L l a
 |f+1,l,a=>Region.ready md ops l≠[]/\∀i∈Region.ready md ops l,i<m/\aOp al P ops σ i (iM al P md ops σ m L f (l.setIfInBounds i true)) a
theorem DM{p:Prop}(h:p:=by
 by_cases hjk:j=k
 .subst hjk;exact hjun
 .rw[getD_set_ne true hjk]at hunk;exact hunk):p:=h
theorem aR1{m i:Nat}{z:Oper}{d:D}{L:Array Bool->List D->Prop}(F:ops[i]?=some z)
  (u:∀l,HeadInv md ops m l->l.getD i true=false->∀t,m<=t->t ∉ Region.ready md ops l) (M:i<m)
  (q:∀l a,L l a->∀j∈Region.ready md ops l,m<=j) :
  ∀(f:Nat)(l:Array Bool)(a:List D),HeadInv md ops m l ->
   (∀j s,ops[j]?=some s->j≠i->l.getD j true=false->(∀e∈s.after,Region.binds md e=true->e.on≠i)->z.apart ops s=true) ->
   i∈Region.ready md ops l->cd al P ops σ z d a ->
   iM al P md ops σ m L f (l.setIfInBounds i true) (aF a z.dst d)->iM al P md ops σ m L (f+1) l a:=by
 intro f
 induction f with
 |zero=>
  intro l a v _ r A H;have n:=(mem_ready.1 r).1;refine⟨λh=>(by rw[h]at r;cases r),λj o=>?_⟩;have g:j<m:=Nat.lt_of_not_le λh=>u l v n j h o;refine⟨g,?_⟩;by_cases b:j=i
  .subst b;exact A.aOp F H
  .have:=q _ _ H j (ready_mono o b);omega
 |succ f J=>
  intro l a v c r A H;have n:=(mem_ready.1 r).1;refine⟨λh=>(by rw[h]at r;cases r),λj o=>?_⟩;have g:j<m:=Nat.lt_of_not_le λh=>u l v n j h o;refine⟨g,?_⟩;by_cases b:j=i
  .subst b;exact A.aOp F H
  .obtain⟨hjun,s,w,y⟩:=mem_ready.1 o;have x:∀e∈s.after,Region.binds md e=true->e.on≠i:=λe N O E=>by
    have I:=y e N O;rw[E,getD_both n]at I
    cases I
   have Q:=JY w (c j s w b hjun x) A (H.2 j (ready_mono o b)).2;refine EF (λR G=>J (l.setIfInBounds j true) R (v.set o g) (λk ok K C hunk B=>c k ok K C ?_ B) (ready_mono r (Ne.symm b)) G.1 ?_) Q
   .exact DM
   .rw[Array.setIfInBounds_comm _ _ b];exact G.2
def qT(al:Option (Nat×TypeId))(P:Program)(ops:Array Oper)(σ:af)(L:List D->Prop):List Oper->List D->Prop
 |[],a=>L a
 |o::r,a=>(gb ops a o=some true/\iR o.op=true/\∃d,Hd al P o (gV a) σ d/\qT al P ops σ L r (aF a o.dst d))\/(gb ops a o=some false/\qT al P ops σ L r (aF a o.dst (.v undef)))
structure Qa(P:Program)(ops:Array Oper)(σ:af)(L:List D->Prop)(l:List Oper)(a:List D):Prop where
 run:qT none P ops σ L l a
def vQ:=@Nat.add_assoc
theorem aR0{m g:Nat}{L:List D->Prop}(e:∀i b,i<m->HeadInv md ops m b->b.getD i true=false->∀t,m<=t->t ∉ Region.ready md ops b) :
  ∀(l:List Oper)(k:Nat)(b:Array Bool)(a:List D),(∀j,j<l.length->l[j]?=ops[k+j]?)->k+l.length=m->HeadInv md ops m b ->
  Region.lexHead md ops g l.length k b=true->qT al P ops σ L l a ->
  iM al P md ops σ m (λc u=>Region.seqB md ops g m c=true/\L u) l.length b a
 |[],k,b,a,_,q,_,B,h=>by
  obtain rfl:k=m:=by simpa using q
  exact⟨by simpa [Region.lexHead]using B,h⟩
 |o::l,k,b,a,s,q,v,B,h=>by
  have n:ops[k]?=some o:=by simpa using(s 0 (by simp)).symm
  simp only[List.length_cons,Region.lexHead,zJ]at B q;obtain⟨⟨A,C⟩,r⟩:=B;have f:k∈Region.ready md ops b:=by simpa using A
  have p:aOp al P ops σ k (qT al P ops σ L l) a:=by unfold aOp;simp only[n];exact h
  obtain⟨d,z,K⟩:=aM3 n p;exact aR1 n (λw y x=>e k w (by omega) y x) (by omega) (λc u E=>seqB_ready E.1) l.length b a v (Region.free_spec n C) f z
   (aR0 e l (k+1) _ _ (λj F=>by have:=s (j+1) (by simp;omega);simpa [vQ,Nat.add_comm 1 j]using this) (by omega) (v.set f (by omega)) r K)
theorem au6{F:Fence}{Q':Exit->Act->World->Prop}:∀(l:List Oper)(k:Nat)(d:Array Bool)(f:Act)(w:World),(∀j,l[j]?=ops[k+j]?) ->
  Region.seqB md ops l.length k d=true->wpListIn F n P ops Q' l f w->wpAnyIn F n P md ops Q' l.length d f w
 |[],_,_,_,_,_,B,h=>⟨by simpa [Region.seqB]using B,h⟩
 |o::l,k,d,f,w,b,B,h=>by
  have p:ops[k]?=some o:=by simpa using(b 0).symm
  simp only[List.length_cons,Region.seqB,zJ,zQ]at B;refine⟨λe=>(by rw[B.1]at e;cases e),λi c=>?_⟩;rw[B.1]at c;have a:i=k:=by simpa using c
  subst a;have m:wpOpIn F n P ops Q' i (wpListIn F n P ops Q' l) f w:=by unfold wpOpIn;simp only[p];exact h
  exact wpOpIn_mono (λr g q=>au6 l (i+1) _ r g (λj=>by have:=b (j+1);simpa [vQ,Nat.add_comm 1 j]using this) B.2 q) m
def xD:=@Nat.zero_add
theorem QA{m g:Nat}{L:Array Bool->List D->Prop}{Q':Exit->Act->World->Prop}{X:Nat->Prop}{w0:World}
  (k:∀l a b w,Ex w0 w->St w X df a σ b->L l a->wpAnyIn (FW r) n P md ops Q' g l b w) :
  ∀(f:Nat)(l:Array Bool)(a:List D)(b:Act)(w:World),Ex w0 w->St w X df a σ b->iM none P md ops σ m L f l a->wpAnyIn (FW r) n P md ops Q' (f+g) l b w
 |0,l,a,b,w,hx,s,h=>by rw[xD];exact k _ _ _ _ hx s h
 |f+1,l,a,b,w,hx,s,h=>by
  rw[show f+1+g=(f+g)+1 by omega];refine⟨λM=>absurd M h.1,λi H=>?_⟩;have p:=(h.2 i H).2;unfold aOp at p;unfold wpOpIn;split
  .rename_i B;simp only[B]at p;exact QA k f _ a b w hx s p
  .rename_i o B;simp only[B]at p;rcases p with⟨z,y,d,G,E⟩|⟨z,y⟩
   .rw[if_pos (by rw[L5 s.fr z])];refine⟨LM o w _,?_⟩;rw[show(FW r).round=r from rfl,Z7 y];have c:=G.yd w X b.eval (λx _=>s.fr.eval x) s.st;generalize(execOp b.eval o).run P w=t at c
    cases t with
    |ok x q=>
     cases x<;>simp only[YU]at c
     case value u=>exact QA k f _ _ _ _ (hx.trans c.1) ((s.ex c.1).put c.2 o.dst) E
     case enter fn args=>
      obtain⟨rfl,K⟩:=c;refine⟨λJ=>by simp[FW,Fence.wide]at J,?_⟩;have C:CallsIn Fence.wide (n-1) P fn args q _:=callsIn_wide.2 K;have:CallsIn (FW r) (n-1) P fn args q _:=C;refine this.mono λe F I=>?_;obtain⟨u,rfl,j,A⟩:=I;exact QA k f _ _ _ _ (hx.trans j) ((s.ex j).put A o.dst) E
    |halt x q=>simp only[YU]at c
   .rw[if_neg (by rw[L5 s.fr z];simp)];exact⟨LM o w _,QA k f _ _ _ _ hx (s.put (.v _) o.dst) y⟩
theorem Pf(w:World):Ex w { w with drawn:=w.drawn+1 }:=(Ex.refl w).drew
def xR:=@List.getElem?_drop
theorem bb4{id:Nat}{l:List Oper}(m:Nat)(N:P.follows .mixedOrders=true)(C:Region.lexTailB .any l.toArray m=true)
  (h:Qa P l.toArray σ (λD=>bP P r n df l.toArray Q (l.drop m) D σ) (l.take m) a):dQ P r n df (.region id l.toArray true) Q a σ:=by
 refine⟨λw X S J=>?_⟩;simp only[Region.lexTailB,zJ,zQ]at C;obtain⟨⟨⟨⟨y,z⟩,q⟩,R⟩,x⟩:=C;have M:m<l.length:=by simpa using z
 have b:(l.take m).length=m:=by simp;omega
 have k:(l.drop m).length=l.toArray.size-m:=by simp
 have c:HeadInv .any l.toArray m (Array.replicate l.toArray.size false):=
  ⟨by simp,λj T _ A=>(by rw[getD_replicate_false]at A;cases A),λt _ I=>getD_in (by simpa using I) (getD_replicate_false _ _)⟩
 have H:=aR0 (md:=.any) (g:=l.toArray.size-m) (λi U O G F=>tail_waits q R z G _ i rfl O F) (l.take m) 0 _ a (λj B=>by
  have u:j<m:=by rw[b]at B;exact B
  simp[u]) (by simpa using b) c (by rw[b];exact x) h.run
 refine wpIn_region_any N ?_;have f:=Pf w;have:=QA (r:=r) (n:=n) (df:=df) (Q':=Pw w X df σ Q) (g:=l.toArray.size-m) (X:=X) (w0:={ w with drawn:=w.drawn+1 }) (λd D o v p s L=>by
  have:=au6 (md:=.any) (Q':=Pw w X df σ Q) (l.drop m) m d o v (λj=>by simp[xR]) (by rw[k];exact L.1)
   (JM (λe a E K=>pA2 (jx (f.trans p)) K) _ _ _ (L.2.run v X o s))
  rwa [k]at this) _ _ _ S _ (Ex.refl _) (J.ex f) H
 rw[b,show m+(l.toArray.size-m)=l.toArray.size by omega]at this;exact this
theorem au0:∀(f k:Nat)(l:Array Bool),Region.lexFrom md ops f k l=true->Region.lexHead md ops 0 f k l=true
 |0,k,l,h=>h
 |f+1,k,l,h=>by
  simp only[Region.lexFrom,Region.lexHead,zJ]at h⊢;exact⟨h.1,au0 f (k+1) _ h.2⟩
theorem Eg{id:Nat}{l:List Oper}(x:P.follows .mixedOrders=true)(B:Region.lexB .any l.toArray=true)
  (h:Qa P l.toArray σ (λk=>Q .normal k σ) l a):dQ P r n df (.region id l.toArray true) Q a σ:=by
 refine⟨λw X z s=>?_⟩;simp only[Region.lexB,zJ]at B;have b:HeadInv .any l.toArray l.toArray.size (Array.replicate l.toArray.size false):=
  ⟨by simp,λj C _ q=>(by rw[getD_replicate_false]at q;cases q),λt _ p=>getD_in (by simpa using p) (getD_replicate_false _ _)⟩
 have H:=aR0 (md:=.any) (m:=l.toArray.size) (g:=0) (λi D I F E t p u=>by
   obtain⟨_,o,v,_⟩:=mem_ready.1 u;have:=(zX.1 v).1;omega) l 0 _ a (λj G=>by simp) (by simp) b (au0 _ _ _ (by simpa using B.2)) h.run
 refine wpIn_region_any x ?_;have c:=Pf w;have:=QA (r:=r) (n:=n) (df:=df) (Q':=Pw w X df σ Q) (g:=0) (X:=X) (w0:={ w with drawn:=w.drawn+1 }) (λd k y A e f L=>
  ⟨by simpa [Region.seqB]using L.1,k,σ,L.2,f,jx (c.trans e)⟩) _ _ _ z _ (Ex.refl _) (s.ex c) H
 rw[show l.length+0=l.toArray.size by simp]at this;exact this
end
end
section
open Go Go.RowKit Go.Shelf
inductive ZV where
 |int (k:IntKind)|bool|str|ptr|sl|map|fn|ifc
 deriving DecidableEq
def zv:ZV->Value
 |.int k=>.int k 0|.bool=>.bool false|.str=>.string ⟨#[]⟩|.ptr=>.pointer none|.sl=>.slice none 0 0|.map=>.map none|.fn=>.nilFunc|.ifc=>.nilIface
def tC:Value->Option ZV
 |.int k n=>if n=0 then some (.int k)else none
 |.bool b=>if b=false then some .bool else none
 |.string s=>if s.data.size=0 then some .str else none
 |.pointer none=>some .ptr
 |.slice none 0 0=>some .sl
 |.map none=>some .map
 |.nilFunc=>some .fn
 |.nilIface=>some .ifc
 |_=>none
theorem Fo{v:Value}{z:ZV}(h:tC v=some z):v=zv z:=by
 unfold tC at h;split at h<;>(try(split at h))<;>(try cases h)<;>first
  |(rename_i a;subst a;rfl)
  |(rename_i s a;cases s;simp at a;subst a;rfl)
  |rfl
  |skip
structure TI where
 agg:Bool
 size:Nat
 fs:List (Nat×Bool×Nat):=[]
 sl:Option (Nat×Bool×Nat×Nat):=none
 arr:Option (Nat×Bool×Nat):=none
 zero:List ZV:=[]
 str:Bool:=false
 deriving DecidableEq
def ql:TypeDesc->Bool
 |.struct _|.array _ _=>true
 |_=>false
def er(P:Program)(t:TypeId):Option (Bool×Nat):=
 match P.info? t,P.underlying t with
 |some i,some u=>some (ql u,i.size)
 |_,_=>none
def aD(P:Program)(t:TypeId):Option TI:=
 match P.info? t,P.underlying t with
 |some i,some u=>some {
   agg:=ql u,size:=i.size,
   fs:=match u with|.struct fs=>(fs.toList.mapM λf=>(er P f.type).map λs=>(f.offset,s.1,s.2)).getD []|_=>[],
   sl:=match u with|.slice e=>(er P e).map λs=>(e,s.1,s.2,P.bytesOf e)|_=>none,
   arr:=match u with|.array n e=>(er P e).map λs=>(n,s.1,s.2)|_=>none,
   zero:=(i.zero.bind λv=>v.cells.toList.mapM tC).getD [],
   str:=match u with|.string=>true|_=>false }
 |_,_=>none
theorem E2{P:Program}{t:TypeId}{i:TI}(h:aD P t=some i):∃a u,P.info? t=some a/\P.underlying t=some u/\i.agg=ql u/\i.size=a.size /\
  i.fs=(match u with|.struct d=>(d.toList.mapM λf=>(er P f.type).map λs=>(f.offset,s.1,s.2)).getD []|_=>[]) /\
  i.sl=(match u with|.slice e=>(er P e).map λs=>(e,s.1,s.2,P.bytesOf e)|_=>none) /\
  i.arr=(match u with|.array n e=>(er P e).map λs=>(n,s.1,s.2)|_=>none) /\
  i.zero=(a.zero.bind λv=>v.cells.toList.mapM tC).getD []/\i.str=(match u with|.string=>true|_=>false):=by
 unfold aD at h;split at h
 .rename_i a u c b
  cases h
  exact⟨a,u,c,b,rfl,rfl,rfl,rfl,rfl,rfl,rfl⟩
 .cases h
theorem qP{P:Program}{t:TypeId}{b:Bool}{n:Nat}(h:er P t=some (b,n))(w:World):(isAgg t).run P w= .ok b w/\(sizeOf t).run P w= .ok n w:=by
 unfold er at h;split at h
 .rename_i i u c a
  cases h
  refine⟨?_,by simp[sizeOf,typeInfo,program,Sem.run,c]⟩;simp only[isAgg,Sem.run_bind,run_underlying a,Result.andThen]
  cases u<;>rfl
 .cases h
theorem Mr{P:Program}{t:TypeId}{i:TI}(h:aD P t=some i)(w:World):(isAgg t).run P w= .ok i.agg w/\(sizeOf t).run P w= .ok i.size w:=by
 obtain⟨f,u,d,c,b,a,_⟩:=E2 h;exact qP (by simp[er,d,c,b,a]) w
theorem x4(b o n:Nat):(⟨b,o,none⟩:Addr).add n=⟨b,o+n,none⟩:=by
 unfold Addr.add;split
 .rename_i h;subst h;rfl
 .rfl
section
variable {P:Program} {σ:af} {w:World} {X:Nat->Prop}
def tk:D->D->D->Option (Prop×D)
 |.v (.bool true),x,_=>some (True,x)
 |.v (.bool false),_,y=>some (True,y)
 |_,_,_=>none
def xc:D->Option (Prop×D)
 |.any=>none
 |d=>some (True,.ro (gF d))
def PN:D->Option (Prop×D)
 |.ro c=>some (True,.ro c)
 |.clo f c=>some (True,.clo f c)
 |.v (.pointer (some a))=>some (True,.v (.pointer (some a)))
 |.v (.func (.func f) x y)=>some (True,.v (.func (.func f) x y))
 |_=>none
structure cA(n:Int):Prop where
 lo:-9223372036854775808<=n
 hi:n<=9223372036854775807
def tM:BinOp->Value->Value->Option (Prop×Value)
 |.add,.int .i64 x,.int .i64 y=>some (cA (x+y),.int .i64 (x+y))
 |.sub,.int .i64 x,.int .i64 y=>some (cA (x-y),.int .i64 (x-y))
 |.mul,.int .i64 x,.int .i64 y=>some (cA (x*y),.int .i64 (x*y))
 |.lss,.int .i64 x,.int .i64 y=>some (True,.bool (decide (x<y)))
 |.leq,.int .i64 x,.int .i64 y=>some (True,.bool (decide (x<=y)))
 |.gtr,.int .i64 x,.int .i64 y=>some (True,.bool (decide (y<x)))
 |.geq,.int .i64 x,.int .i64 y=>some (True,.bool (decide (y<=x)))
 |.eql,.int .i64 x,.int .i64 y=>some (True,.bool (decide (x=y)))
 |.neq,.int .i64 x,.int .i64 y=>some (True,.bool (!decide (x=y)))
 |.lss,.int .u8 x,.int .u8 y=>some (True,.bool (decide (x<y)))
 |.leq,.int .u8 x,.int .u8 y=>some (True,.bool (decide (x<=y)))
 |.gtr,.int .u8 x,.int .u8 y=>some (True,.bool (decide (y<x)))
 |.geq,.int .u8 x,.int .u8 y=>some (True,.bool (decide (y<=x)))
 |.eql,.int .u8 x,.int .u8 y=>some (True,.bool (decide (x=y)))
 |.neq,.int .u8 x,.int .u8 y=>some (True,.bool (!decide (x=y)))
 |.gtr,.int .u64 x,.int .u64 y=>some (True,.bool (decide (y<x)))
 |.rem,.int .i64 x,.int .i64 y=>some (y≠0,.int .i64 (x.tmod y))
 |.quo,.int .i64 x,.int .i64 y=>some (y≠0/\cA (x.tdiv y),.int .i64 (x.tdiv y))
 |.eql,.string x,.string y=>some (True,.bool (x.toList==y.toList))
 |.neq,.string x,.string y=>some (True,.bool (!(x.toList==y.toList)))
 |.add,.string x,.string y=>some (x.size+y.size<=9223372036854775807,.string (x++y))
 |_,_,_=>none
def PS(b:BinOp):D->D->Option (Prop×D)
 |.v x,.v y=>(tM b x y).map λp=>(p.1,.v p.2)
 |_,_=>none
def ZM:UnOp->Value->Option (Prop×Value)
 |.not,.bool b=>some (True,.bool (!b))
 |.neg,.int .i64 n=>some (cA (-n),.int .i64 (-n))
 |_,_=>none
def aUn(u:UnOp):D->Option (Prop×D)
 |.v x=>(ZM u x).map λp=>(p.1,.v p.2)
 |_=>none
def m4(agg:Bool)(cs:List D):D:=bif agg then .agg cs else cs.headD .any
def tl:Option TI->D->Option (Prop×D)
 |some i,.ro c=>bif Nat.ble i.size c.length&&(i.agg||i.size==1)then some (True,m4 i.agg (c.take i.size))else none
 |_,_=>none
def J2:Option TI->Nat->D->Option (Prop×D)
 |some i,f,.ro c=>match i.fs[f]? with
  |some (a,_,n)=>bif Nat.ble a c.length && !(n==0)then some (True,.ro (c.drop a))else none
  |none=>none
 |some i,f,.v (.pointer (some ⟨b,o,none⟩))=>match i.fs[f]? with
  |some (a,_,n)=>bif !(n==0)then some (True,.v (.pointer (some ⟨b,o+a,none⟩)))else none
  |none=>none
 |_,_,_=>none
def iK:Option TI->Nat->D->Option (Prop×D)
 |some i,f,.agg c=>match i.fs[f]? with
  |some (o,a,n)=>bif Nat.ble (o+n) c.length&&(a||n==1)then some (True,m4 a ((c.drop o).take n))else none
  |none=>none
 |_,_,_=>none
def J5:Nat->D->Option (Prop×D)
 |i,.tup s=>match s[i]? with|some d=>some (True,d)|none=>none
 |i,.v (.tuple vs)=>match vs[i]? with|some d=>some (True,.v d)|none=>none
 |_,_=>none
def EH:Option TI->D->Option (Prop×D)
 |some i,.sl _ x=>bif i.sl.isSome then some (True,.v (.int .i64 x.length))else none
 |some i,.v (.slice _ n _)=>bif i.sl.isSome then some (True,.v (.int .i64 n))else none
 |some i,.v (.string s)=>bif i.str then some (True,.v (.int .i64 s.size))else none
 |_,_=>none
def w3:Option TI->D->D->Option (Prop×D)
 |some i,.ro c,.v (.int _ (.ofNat j))=>match i.arr with
  |some (n,_,k)=>bif Nat.blt j n&&Nat.ble (j*k) c.length then some (True,.ro (c.drop (j*k)))else none
  |none=>none
 |some i,.v (.slice (some ⟨b,off,none⟩) n _),.v (.int _ j)=>match i.sl with
  |some (_,_,k,_)=>some (0<=j/\j<n,.v (.pointer (some ⟨b,off+j.toNat*k,none⟩)))
  |none=>none
 |_,_,_=>none
def EI(T:TypeId->Option TI)(c:Call)(ρ:Operand->D):Option (Prop×D):=
 match c.callee,c.args.toList,c.argTypes.toList with
 |.builtin .len,[x],[t]=>EH (T t) (ρ x)
 |_,_,_=>none
def hJ(T:TypeId->Option TI)(o:Op)(ρ:Operand->D):Option (Prop×D):=
 match o with
 |.move x=>some (True,ρ x)
 |.assign x=>some (True,ρ x)
 |.pick c x y=>tk (ρ c) (ρ x) (ρ y)
 |.box _ x=>xc (ρ x)
 |.nilCheck x=>PN (ρ x)
 |.binOp b _ x y _=>PS b (ρ x) (ρ y)
 |.unOp u _ x=>aUn u (ρ x)
 |.load t x=>tl (T t) (ρ x)
 |.fieldAddr s x f=>J2 (T s) f (ρ x)
 |.field s x f=>iK (T s) f (ρ x)
 |.extract x i=>J5 i (ρ x)
 |.indexAddr t x i=>w3 (T t) (ρ x) (ρ i)
 |.call c=>EI T c ρ
 |_=>none
theorem QN(t:aU w X σ){b:Nat}(a:w.heap.size<=b):¬ay σ X b:=λh=>by have:=t.own_lt h;omega
theorem NC(b:aU w X σ){d:D}{u:Value}(h:Rd w (ay σ X) d u)(e:d ≠ .any)(t:TypeId):Rd (w.alloc (.cells u.cells t)) (ay σ X) (.ro (gF d)) (.pointer (some ⟨w.heap.size,0,none⟩)):=by
 have g:=(h.ex ((Ex.refl w).alloc (o:=.cells u.cells t))).cells e;refine .ro _ _ _ (λj=>u.cells.toList.getD j undef) (QN b (zT _)) (by simp) (λj i=>?_) (λj n f=>?_)
 .have c:j<u.cells.toList.length:=by rw[g.len];exact i
  rw[xD,World.cell?_alloc_new];have a:j<u.cells.size:=by simpa using c
  simp[a]
 .obtain⟨m,l,k⟩:=g.get f;simp only[List.getD_eq_getElem?_getD,l];exact k
theorem aV4{n:Int}(h:cA n):IntKind.i64.wrap n=n:=IntWalk.i64_in _ ⟨h.lo,h.hi⟩
theorem FP{b:BinOp}{x y:Value}{s:Prop}{u:Value}(h:tM b x y=some (s,u))(a:s)(t:TypeId)(p q:Operand)(w:World) :
  (do eqGuard b t p q x y;binOp b t x y).run P w= .ok u w:=by
 unfold tM at h;split at h<;>cases h<;>first
  |rfl
  |(simp[eqGuard,binOp,Op.intArith,aV4 a];done)
  |(simp[eqGuard,binOp,Op.intCmp];done)
  |(simp[eqGuard,binOp,Op.intDiv,a];done)
  |(simp[eqGuard,binOp,Op.intDiv,a.1,aV4 a.2];done)
  |(simp[eqGuard,binOp,Op.stringOp];done)
  |(show(Op.stringOp .add _ _).run P w=_;simp only[Op.stringOp];rw[if_neg (by rw[show IntKind.i64.max=9223372036854775807 from rfl];omega)];rfl)
theorem MR{b:UnOp}{x:Value}{s:Prop}{u:Value}(h:ZM b x=some (s,u))(a:s)(w:World):(Op.unary b x).run P w= .ok u w:=by
 unfold ZM at h;split at h<;>cases h
 .simp[Op.unary]
 .simp only[Op.unary,Op.intArith,Int.zero_sub,aV4 a];rfl
theorem ay3{t:TypeId}{n b o:Nat}{f:Nat->Value}(d:(isAgg t).run P w= .ok true w)(a:(sizeOf t).run P w= .ok n w)(c:∀j,j<n->w.cell? ⟨b,o+j,none⟩=some (f j)) :
  (Instr.loadAt t (.pointer (some ⟨b,o,none⟩))).run P w= .ok (.agg ((List.range n).map f).toArray) w:=by
 have:=run_loadCells (P:=P) (w:=w) ⟨b,o,none⟩ n f (λj h=>by rw[x4];exact c j h);simp[Instr.loadAt,Instr.sureAddr,loadVar,d,a,this,Result.andThen]
theorem QB{t:TypeId}{b o:Nat}{v:Value}(a:(isAgg t).run P w= .ok false w)(h:w.cell? ⟨b,o,none⟩=some v) :
  (Instr.loadAt t (.pointer (some ⟨b,o,none⟩))).run P w= .ok v w:=by
 simp[Instr.loadAt,Instr.sureAddr,loadVar,a,Result.andThen,load,Sem.run,h]
end
end
end Go.Proofs.YtilnpcolgcmofaaGreatDoor
