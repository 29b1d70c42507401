/- A part of the proof. -/
import Derived.Test.YtilnpcolgcmofaaGreatDoorC02
import Derived.Maps.AppendAt
import Derived.RangeFuncLeaves
import Derived.RangeFuncRecord
import Derived.RangeFuncSeq
import Derived.RangeFuncOwn
import Derived.Laws.CopyRow
import Derived.ArgAppend
import Derived.Laws.Tables
set_option maxRecDepth 100000
set_option maxHeartbeats 20000000
set_option linter.all false
namespace Go.Proofs.YtilnpcolgcmofaaGreatDoor
open Tryz
section
open Go Go.RowKit Go.Shelf
structure az(P:Program)(f:FuncId)(args:List D)(σ:ae)(R:D->ae->Prop):Prop where
 ent:Enters P f
 run:∀(w:World)(X:Nat->Prop)(vs:List Value),bj w (ay σ X) args vs->aW w X σ ->
  Calls P f vs.toArray w λe w'=>∃u d σ',e= .returned u/\R d σ'/\Rd w' (ay σ' X) d u/\aW w' X σ'/\Mv w σ w' σ'
structure APure(P:Program)(f:FuncId)(args:List D)(d:D):Prop where
 ent:Enters P f
 run:∀(w:World)(O:Nat->Prop)(vs:List Value),bj w O args vs->sF w O ->
  Calls P f vs.toArray w λe w'=>∃u,e= .returned u/\Rd w' O d u/\Ex w w'
structure bH(P:Program)(f:FuncId)(args:List D)(R:D->Prop):Prop where
 ent:Enters P f
 run:∀(w:World)(O:Nat->Prop)(vs:List Value),bj w O args vs->sF w O ->
  Calls P f vs.toArray w λe w'=>∃u d,e= .returned u/\R d/\Rd w' O d u/\Ex w w'
section
variable {P:Program} {r:Option Nat} {n:Nat} {df:Nat} {ops:Array Oper} {Q:fG} {a:List D} {σ:ae} {w:World} {X:Nat->Prop} {ρ:Operand->D}
def lN{O:Nat->Prop}{η:Operand->Value}:∀(l:List Operand),(∀x∈l,Rd w O (ρ x) (η x))->bj w O (l.map ρ) (l.map η)
 |[],_=>.nil
 |x::l,h=>.cons (h x (by simp)) (lN l λy a=>h y (by simp[a]))
def la(op:Op)(ρ:Operand->D):Option (FuncId×List D):=
 match op with
 |.call c=>match c.callee with
  |.value x=>match ρ x with
   |.v (.func (.func f) t p)=>bif t.toList.isEmpty then some (f,c.args.toList.map ρ++p.toList.map .v)else none
   |.clo f s=>some (f,c.args.toList.map ρ++s)
   |_=>none
  |_=>none
 |_=>none
def yP:=@List.getElem?_append_left
def yK:=@List.getElem?_append_right
variable{O:Nat->Prop}{s:List D}{vs:List Value}
def bj.append{e:List D}{c:List Value}(h:bj w O s c)(k:bj w O e vs):bj w O (s++e) (c++vs):=by
 refine⟨by simp[h.len,k.len],λj d u b a=>?_⟩;by_cases hj:j<s.length
 .rw[yP hj]at b;rw[yP (by rw[h.len];exact hj)]at a;exact h.at_ j d u b a
 .rw[yK (by omega)]at b;rw[yK (by rw[h.len];omega),h.len]at a;exact k.at_ _ d u b a
variable{f:FuncId}
def pg{o:Oper}(h:la o.op ρ=some (f,s))(i:Enters P f){η:Operand->Value}(d:∀x∈o.op.operands,Rd w O (ρ x) (η x)) :
  ∃vs:List Value,bj w O s vs/\(execOp η o).run P w= .ok (.enter f vs.toArray) w:=by
 obtain⟨dst,op,E,pos,C,g⟩:=o;simp only at h d
 cases op<;>simp only[la]at h<;>try cases h
 rename_i c;obtain⟨b,a,at_⟩:=c
 cases b<;>simp only at h<;>try cases h
 rename_i x;have hx:=d x (by simp[Op.operands,Call.operands]);have j:bj w O (a.toList.map ρ) (a.toList.map η):=lN _ λy k=>d y (by simp[Op.operands,Call.operands];exact Or.inr (by simpa using k));split at h
 .rename_i A t p e
  rw[e]at hx;have v:=hx.val rfl
  cases m:t.toList.isEmpty with
  |false=>rw[m]at h;cases h
  |true=>
   rw[m]at h
   cases h
   have z:t= #[]:=by simpa using m
   subst z;refine⟨a.toList.map η++p.toList,j.append (My _),?_⟩;have:=i (a.map η++p) w;simp only[execOp,resolve,v,Deferred.ofValue,Sem.run_bind,Sem.run_pure,Result.andThen,invoke];rw[show(List.map η a.toList++p.toList).toArray=Array.map η a++p by apply wJ;simp]
   simpa using this
 .rename_i A B e
  cases h
  rw[e]at hx;generalize v:η x=u at hx;generalize l:D.clo f B=q at hx
  cases hx<;>cases l
  rename_i vs n r;refine⟨a.toList.map η++vs,j.append ⟨n,r⟩,?_⟩;have:=i (a.map η++vs.toArray) w;simp only[execOp,resolve,v,Deferred.ofValue,Sem.run_bind,Sem.run_pure,Result.andThen,invoke];rw[show(List.map η a.toList++vs).toArray=Array.map η a++vs.toArray by apply wJ;simp]
  simpa using this
 .cases h
def en(s t:ae):aT (s++t)=aT s++aT t:=by simp[aT]
variable{s:ae}
def RT{b:Nat}{k:ax}(h:(b,k)∈s):b∈aT s:=xM.2 ⟨_,h,rfl⟩
variable{w':World}
def tK{w:World}{g:Nat->Prop}(z:w.heap.size<=w'.heap.size)(f:∀b,b<w.heap.size->¬O b->¬g b)
  (s:∀b,b<w.heap.size->¬O b->w'.heap[b]?=w.heap[b]?) {k:ax} {o:Obj} (h:k.ok w O o):k.ok w' g o:=by
 cases k with
 |cells t p=>obtain⟨vs,e,a⟩:=h;exact⟨vs,e,a.keep z f s⟩
 |obj ok=>exact h
 |mp P k G=>obtain⟨m,c,n,F,e,a,l⟩:=h;exact⟨m,c,n,F,e,a,λy=>(l y).imp id λ⟨v,d,j,i,q⟩=>⟨v,d,j,i,q.keep z f s⟩⟩
def RV(s t:ae)(b:Nat):ay (s++t) X b↔ay s (λb=>X b\/b∈aT t) b:=by
 simp only[ay,en,zO];constructor
 .rintro(h|h|h)
  .exact .inl (.inl h)
  .exact .inr h
  .exact .inl (.inr h)
 .rintro((h|h)|h)
  .exact .inl h
  .exact .inr (.inr h)
  .exact .inr (.inl h)
def wR:=@List.nodup_append
variable{t:ae}
def aW.left(h:aW w X (s++t)):aW w (λb=>X b\/b∈aT t) s:=by
 have d:=h.nodup;rw[en,wR]at d;refine⟨d.1,λb k m=>?_,λb a=>?_,h.gok.mono (λb a=>(RV s t b).2 a)⟩
 .obtain⟨f,o,e,c⟩:=h.at_ b k (xK _ m);refine⟨?_,o,e,tK (zT _) (λb _ a=>?_) (λ_ _ _=>rfl) c⟩
  .rintro(hx|hx)
   .exact f hx
   .exact d.2.2 b (RT m) b hx rfl
  .rw[RV]at a;exact a
 .rcases a with a|a
  .exact h.xlt b a
  .exact h.lt (by rw[en];exact yW _ a)
def stays{s':ae}(h:aW w X (s++t))(j:aW w' (λb=>X b\/b∈aT t) s')(m:Mv w s w' s') :
  aW w' X (s'++t)/\Mv w (s++t) w' (s'++t)/\(∀b,b<w.heap.size->¬ay (s++t) X b->¬ay (s'++t) X b)/\(∀b,b<w.heap.size->¬ay (s++t) X b->w'.heap[b]?=w.heap[b]?):=by
 have i:=h.nodup;rw[en,wR]at i;have O:∀b,b<w.heap.size->¬ay (s++t) X b->¬ay (s'++t) X b:=by
  intro b d n u;simp only[ay,en,zO,not_or]at n;rcases u with a|a
  .exact n.1 a
  .rw[en,zO]at a;rcases a with a|a
   .rcases m.new b a with f|f
    .exact n.2.1 f
    .omega
   .exact n.2.2 a
 have S:∀b,b<w.heap.size->¬ay (s++t) X b->w'.heap[b]?=w.heap[b]?:=by
  intro b d n;simp only[ay,en,zO,not_or]at n;exact m.keep.block b d n.2.1
 refine⟨⟨?_,?_,λb d=>yI (h.xlt b d) m.keep.size,j.gok.mono (λb d=>(RV s' t b).1 d)⟩,⟨m.keep.mono (λb _ d=>by rw[en];exact xK _ d),λb d=>?_⟩,O,S⟩
 .rw[en,wR];refine⟨j.nodup,i.2.1,λb a c f e=>?_⟩;subst e;obtain⟨⟨x,k⟩,v,rfl⟩:=xM.1 a;exact(j.at_ x k v).1 (.inr f)
 .intro b k p;rcases zO.1 p with g|g
  .obtain⟨a,o,f,q⟩:=j.at_ b k g;refine⟨λhx=>a (.inl hx),o,f,tK (zT _) (λb _ d=>?_) (λ_ _ _=>rfl) q⟩;rw[RV];exact d
  .obtain⟨a,o,f,q⟩:=h.at_ b k (yW _ g);have l:=(zX.1 f).1;refine⟨a,o,(m.keep.block b l (λr=>i.2.2 b r b (RT g) rfl)).trans f,tK m.keep.size O S q⟩
 .rw[en,zO]at d;rcases d with d|d
  .rcases m.new b d with a|a
   .exact .inl (by rw[en];exact xK _ a)
   .exact .inr a
  .exact .inl (by rw[en];exact yW _ d)
variable{d:D}{u:Value}
def tD(h:Rd w (ay (s++t) X) d u):Rd w (ay s (λb=>X b\/b∈aT t)) d u:=
 h.keep (zT _) (λb _ a=>by rw[RV]at a;exact a) (λ_ _ _=>rfl)
def IK(h:Rd w (ay s (λb=>X b\/b∈aT t)) d u):Rd w (ay (s++t) X) d u:=
 h.keep (zT _) (λb _ a=>by rw[RV];exact a) (λ_ _ _=>rfl)
def dW(P:Program)(f:Func)(a:List D)(σ:ae)(d:D):Prop:=
 ∀(w:World)(X:Nat->Prop)(t:Array Value),FR w (ay σ X) a t->aW w X σ->∃u,(results f t).run P w= .ok u w/\Rd w (ay σ X) d u
def bt0(P:Program)(f:Func)(R:D->ae->Prop):fG
 |.ret,a,σ=>∃d,dW P f a σ d/\R d σ
 |.normal,a,σ=>∃d,dW P f a σ d/\R d σ
 |_,_,_=>False
def B0{f:Func}(h:f.results= #[]):dW P f a σ (.v (.tuple #[])):=λw X t _ _=>⟨_,results_none h t P w,.v _⟩
variable{t:Array Value}
def lp(h:FR w O a t)(i:Nat):Rd w O (a.getD i (.v undef)) (t.getD i undef):=(FR.eval (fr:=⟨t,[]⟩) h (.tmp i))
variable{i:Tmp}
def IG{f:Func}(h:f.results= #[.tmp i]):dW P f a σ (a.getD i (.v undef)):=λw X t b _=>⟨_,results_tmp h t P w,lp b i⟩
def BZ{n:Func}{j:Tmp}(h:n.results= #[.tmp i,.tmp j]):dW P n a σ (.tup [a.getD i (.v undef),a.getD j (.v undef)]):=λw X t f _=>by
 refine⟨_,results_tmp2 h t P w,?_⟩;have:=bj.cons (lp f i) (bj.cons (lp f j) bj.nil);exact .tup _ _ this.len this.at_
def vV:=@Array.getElem?_append_left
def wF:=@List.getElem?_replicate
variable{args:List D}
def Er(h:bj w O args vs)(m:Nat):FR w O (args++List.replicate (m-args.length) (.v undef)) (vs.toArray++Array.replicate (m-vs.toArray.size) undef):=by
 refine⟨by simp[h.len],λi d a=>?_⟩;by_cases hi:i<args.length
 .rw[yP hi]at a;obtain⟨u,e,c⟩:=h.get a;refine⟨u,?_,c⟩;have:i<vs.length:=by rw[h.len];exact hi
  rw[vV (by simpa using this)]
  simpa using e
 .rw[yK (by omega),wF]at a;split at a
  .rename_i t
   cases a
   refine⟨undef,?_,.v _⟩;rw[Array.getElem?_append_right (by simp[h.len];omega)];have b:i-vs.toArray.size<m-vs.toArray.size:=by simp[h.len];exact t
   rw[Array.getElem?_replicate,if_pos b]
  .cases a
def Rd.of_cells{w:World}(z:w.heap.size<=w'.heap.size)(B:∀a v,w.cell? a=some v->w'.cell? a=some v){x:Value}(h:Rd w O d x):Rd w' O d x:=by
 induction h with
 |v x=>exact .v x
 |any x=>exact .any x
 |sl k E a C vs r F l y c=>
  refine .sl k E a C vs r F (λi x hx=>?_) c;obtain⟨b,o,G,u,e,m⟩:=l i x hx;exact⟨b,o,G,u,yI e z,λj A=>B _ _ (m j A)⟩
 |ro s b o vs u e l y c=>exact .ro s b o vs u (yI e z) (λj A=>B _ _ (l j A)) c
 |agg s vs p y c=>exact .agg s vs p c
 |tup s vs p y c=>exact .tup s vs p c
 |clo f s vs p y c=>exact .clo f s vs p c
 |gl g q H u l=>exact .gl g q H (yI u z) (B _ _ l)
 |ifc t d x h c=>exact .ifc t d x c
 |mth n d x h c=>exact .mth n d x c
def bj.of_cells{w:World}(z:w.heap.size<=w'.heap.size)(c:∀a v,w.cell? a=some v->w'.cell? a=some v){s:List D}{xs:List Value}(h:bj w O s xs):bj w' O s xs:=
 ⟨h.len,λj d u e b=>(h.at_ j d u e b).of_cells z c⟩
variable{o o':Obj}
def aH9{D:Nat}(d:w.heap[D]?=some o)(b:o.isCells=false)(a:Addr)(v:Value)(h:w.cell? a=some v):(w.putObj D o').cell? a=some v:=by
 refine(World.cell?_of_block (w:=w) (World.putObj_heap_other (λe=>?_))).trans h;have t:=World.block_lt_of_cell? w a h;have c:w.heap[a.block]?=some o:=by rw[e];exact d
 simp only[World.cell?,c]at h
 cases o<;>simp[Obj.isCells]at b h
def QV(D:Nat)(o:Obj):(w.putObj D o).heap.size=w.heap.size:=by simp[World.putObj]
def aW.turn(h:aW w X σ){D:Nat}(L:6<=D)(O:¬ay σ X D)(C:w.heap[D]?=some o)(J:o.isCells=false)(m:∀p c,o ≠ .map p c):aW (w.putObj D o') X σ:=by
 have z:w.heap.size<=(w.putObj D o').heap.size:=Nat.le_of_eq (QV _ _).symm;have l:=aH9 (w:=w) C J (o':=o');have a:∀b,b≠D->(w.putObj D o').heap[b]?=w.heap[b]?:=λb f=>World.putObj_heap_other f;refine⟨h.nodup,λb k m=>?_,λb f=>yI (h.xlt b f) z,?_⟩
 .obtain⟨x,o,u,g⟩:=h.at_ b k m;refine⟨x,o,(a b (λe=>by subst e;exact O (.inr (RT m)))).trans u,?_⟩
  cases k with
  |cells t M=>obtain⟨vs,B,A⟩:=g;exact⟨vs,B,A.of_cells z l⟩
  |obj ok=>exact g
  |mp P k G=>obtain⟨p,c,n,F,B,A,K⟩:=g;exact⟨p,c,n,F,B,A,λy=>(K y).imp id λ⟨v,d,I,H,E⟩=>⟨v,d,I,H,E.of_cells z l⟩⟩
 .refine⟨λb f=>yI (h.gok.lt b f) z,xH h.gok.sz z,h.gok.no,?_,?_,?_,λi n r=>l _ _ (h.gok.rc i n r)⟩
  .exact np (λb f=>a b (by omega)) h.gok.pow
  .exact λi s r=>l _ _ (h.gok.words i s r)
  .obtain⟨q,x,u,g⟩:=h.gok.checks;refine⟨q,l _ _ x,u,g.same (a q (λe=>?_))⟩;obtain⟨p,ck,j,_⟩:=g;subst e;rw[C]at j
   cases j
   exact m _ _ rfl
def FR.of_cells{w:World}(z:w.heap.size<=w'.heap.size)(c:∀a v,w.cell? a=some v->w'.cell? a=some v)(h:FR w O a t):FR w' O a t:=
 ⟨h.size,λi d b=>let ⟨u,h1,h2⟩:=h.at_ i d b;⟨u,h1,h2.of_cells z c⟩⟩
def wZ:=@List.nodup_cons
def aK6{r:Func}{t:Array Value}{w0:World}{s':ae}{d:D}{F:Fence}{m:Nat}{R:Ending->World->Prop}(E:6<=w0.heap.size)(s:dW P r a s' d)
  (q:∀w u,Rd w (ay s' X) d u->aW w X s'->Mv w0 σ w s'->R (.returned u) w) :
  ∀(k:List Nat)(w:World),FR w (ay s' X) a t->aW w X s'->Mv w0 σ w s'->k.Nodup->(∀b∈k,w0.heap.size<=b/\¬ay s' X b/\w.heap[b]?=some (.deferred (some [])))->LeavesInM F m P r t R (k.map RO) .returning w
 |[],w,o,l,f,_,_=>by
  obtain⟨u,H,G⟩:=s w X t o l;exact⟨u,H,q w u G l f⟩
 |b::k,w,o,l,f,g,j=>by
  obtain⟨I,A,n⟩:=j b (by simp);rw[wZ]at g;have z:w.heap.size<=(w.putObj b (.deferred none)).heap.size:=Nat.le_of_eq (QV _ _).symm;refine⟨(λh=>by cases h),.inl ⟨b,_,rfl,run_takeDeferred n,aK6 E s q k _ (o.of_cells z (aH9 n rfl)) (l.turn (by omega) A n rfl (λ_ _ h=>by cases h)) ⟨⟨f.keep.os,f.keep.tape,f.keep.output,xH f.keep.size z,λi C B=>?_⟩,f.new⟩ g.2 (λc p=>?_)⟩⟩
  .exact(World.putObj_heap_other (λe=>by omega)).trans (f.keep.block i C B)
  .obtain⟨y,x,v⟩:=j c (by simp[p]);exact⟨y,x,(World.putObj_heap_other (λe=>by subst e;exact g.1 p)).trans v⟩
def mL{g:Func}{c:Code}{R:D->ae->Prop}(x:P.funcs[f]?=some g)(i:(g.name == "runtime.NumGoroutine")=false)(y:g.body=some c)
  (h:∀B,ey P none 9 B c (bt0 P g R) (args++List.replicate (g.ntmps-args.length) (.v undef)) σ):az P f args σ R:=by
 refine⟨enters_of x i y,λw X vs E t=>?_⟩;refine callsIn_wide (n:=9)|>.1 (callsIn_of_wp_marks x y trivial ?_ rfl);refine wpIn_mono ((h w.heap.size).run w X _ ⟨Er E g.ntmps,t,Gg.nil (zT _)⟩) ?_;have fin:∀{p:List D}{s:ae}{b:Act}{a:World}{d:D},dW P g p s d->R d s->St a X w.heap.size p s b->Mv w σ a s ->
   LeavesInM Fence.wide 9 P g b.tmps (λe a=>∃u d σ',e= .returned u/\R d σ'/\Rd a (ay σ' X) d u/\aW a X σ'/\Mv w σ a σ') b.defers .returning a:=by
  intro p s b a d m l j o;obtain⟨_,F,e,q,r⟩:=j.df;rw[e];exact aK6 t.gok.sz m (λa u C A z=>⟨u,d,s,rfl,l,C,A,z⟩) F a j.fr j.st o q r
 rintro e b a ⟨p,s,k,j,o⟩
 cases e with
 |ret=>obtain⟨d,m,l⟩:=k;exact fin m l j o
 |normal=>obtain⟨d,m,l⟩:=k;exact fin m l j o
 |exit _=>exact k.elim
 |goto _=>exact k.elim
 |panic _=>exact k.elim
 |outgrown=>exact k.elim
def bH.of_call{R:D->Prop}(h:az P f args [] (λd _=>R d)):bH P f args R:=
 ⟨h.ent,λw O vs v o=>(h.run w O vs ⟨v.len,λj d u c g=>(v.at_ j d u c g).keep (zT _) (λb _ a=>by simpa [ay,aT]using a) (λ_ _ _=>rfl)⟩
  ⟨by simp[aT],by simp,o.lt,o.mono (λb a=>by simpa [ay,aT]using a)⟩).mono λe m⟨u,d,s,c,g,l,n,k⟩=>⟨u,d,c,g,l.keep (zT _) (λb _ a i=>a (.inl i)) (λ_ _ _=>rfl),k.keep.mono (λb _ a=>by simp[aT]at a)⟩⟩
def APure.of_call(h:az P f args [] (λd' _=>d'=d)):APure P f args d:=
 ⟨h.ent,λw O vs v o=>((bH.of_call h).run w O vs v o).mono λe i⟨u,d',c,b,a,g⟩=>⟨u,c,by rw[←b];exact a,g⟩⟩
inductive Wk:List D->List D->Prop
 |nil:Wk [] []
 |same {d:D} {a b:List D} (h:Wk a b):Wk (d::a) (d::b)
 |any {d:D} {a b:List D} (h:Wk a b):Wk (d::a) (.any::b)
def Wk.get{a b:List D}(h:Wk a b):a.length=b.length/\∀(i:Nat)d,b[i]?=some d->d= .any\/a[i]?=some d:=by
 induction h with
 |nil=>exact⟨rfl,λi d h=>by simp at h⟩
 |same h e=>exact⟨by simp[e.1],λi d c=>by cases i with|zero=>simp at c;simp[c]|succ i=>simp at c;simpa using e.2 i d c⟩
 |any h e=>exact⟨by simp[e.1],λi d c=>by cases i with|zero=>simp at c;simp[c]|succ i=>simp at c;simpa using e.2 i d c⟩
end
end
section
open Go Go.RowKit Go.Shelf
section
variable {P:Program} {r:Option Nat} {n:Nat} {df:Nat} {ops:Array Oper} {Q:fG} {a:List D} {σ:ae} {w:World} {X:Nat->Prop} {ρ:Operand->D}
def zU:=@List.mem_cons
def aW.new(h:aW w X σ)(o:Obj)(k:ax)(l:k.ok w (ay σ X) o) :
  aW (w.alloc o) X ((w.heap.size,k)::σ)/\Mv w σ (w.alloc o) ((w.heap.size,k)::σ)/\(∀b,b<w.heap.size->¬ay σ X b->¬ay ((w.heap.size,k)::σ) X b):=by
 have O:∀b,b<w.heap.size->¬ay σ X b->¬ay ((w.heap.size,k)::σ) X b:=by
  intro b a n j;rcases j with c|c
  .exact n (.inl c)
  .simp only[aT,List.map_cons,zU]at c;rcases c with c|c
   .omega
   .exact n (.inr c)
 have hx:Ex w (w.alloc o):=(Ex.refl w).alloc;have d:sF (w.alloc o) (ay ((w.heap.size,k)::σ) X):=h.gok.keep hx.size O (λb a _=>hx.block b a) (λb a=>by
  rcases a with a|a
  .exact yI (h.xlt b a) hx.size
  .simp only[aT,List.map_cons,zU]at a;rcases a with rfl|a
   .simp
   .exact yI (h.lt a) hx.size)
 refine⟨⟨?_,?_,λb a=>yI (h.xlt b a) hx.size,d⟩,⟨hx.keep,λb a=>?_⟩,O⟩
 .simp only[aT,List.map_cons,wZ];exact⟨λm=>by have:=h.lt m;omega,h.nodup⟩
 .intro b i m;rcases zU.1 m with e|m
  .cases e
   exact⟨λp=>by have:=h.xlt _ p;omega,o,by unfold World.alloc;exact Array.getElem?_push_size,tK hx.size O (λb a _=>hx.block b a) l⟩
  .obtain⟨c,g,f,q⟩:=h.at_ b i m;exact⟨c,g,(hx.block b (zX.1 f).1).trans f,tK hx.size O (λb a _=>hx.block b a) q⟩
 .simp only[aT,List.map_cons,zU]at a;rcases a with rfl|a
  .exact .inr (zT _)
  .exact .inl a
variable{b:Nat}
def aN7{i:Nat}{k k':ax}(h:σ[i]?=some (b,k)):aT (σ.set i (b,k'))=aT σ:=by
 unfold aT;apply xY;intro j;rw[qA,qA,xP];split
 .rename_i e;subst e;split
  .rw[h];rfl
  .rename_i l;have:=(zE.1 h).1;omega
 .rfl
def aW.upd(h:aW w X σ){i:Nat}{k k':ax}(d:σ[i]?=some (b,k)){w':World}{o':Obj}(a:ba (λx=>x=b) w w')(l:w'.heap[b]?=some o')(D:k'.ok w (ay σ X) o') :
  aW w' X (σ.set i (b,k'))/\Mv w σ w' (σ.set i (b,k'))/\(∀x,x<w.heap.size->¬ay σ X x->¬ay (σ.set i (b,k')) X x)/\(∀x,x<w.heap.size->¬ay σ X x->w'.heap[x]?=w.heap[x]?):=by
 have m:b∈aT σ:=RT (zG d);have O:∀x,x<w.heap.size->¬ay σ X x->¬ay (σ.set i (b,k')) X x:=by
  intro x _ n l;rcases l with f|f
  .exact n (.inl f)
  .rw[aN7 d]at f;exact n (.inr f)
 have S:∀x,x<w.heap.size->¬ay σ X x->w'.heap[x]?=w.heap[x]?:=λx hx n=>a.block x hx (λe=>n (.inr (e ▸ m)));have r:sF w' (ay (σ.set i (b,k')) X):=h.gok.keep a.size O S (λx hx=>yI (h.own_lt (by
  rcases hx with hx|hx
  .exact .inl hx
  .rw[aN7 d]at hx;exact .inr hx)) a.size)
 refine⟨⟨by rw[aN7 d];exact h.nodup,?_,λx hx=>yI (h.xlt x hx) a.size,r⟩,⟨a.mono (λx _ e=>by subst e;exact m),λx hx=>.inl (by rw[aN7 d]at hx;exact hx)⟩,O,S⟩;intro x B C;obtain⟨j,c⟩:=yO C;rw[xP]at c;split at c
 .split at c
  .cases c
   exact⟨(h.at_ _ k (zG d)).1,o',l,tK a.size O S D⟩
  .cases c
 .rename_i p;obtain⟨f,o,y,E⟩:=h.at_ x B (zG c);have g:x≠b:=by
   intro e;subst e;have q:=h.nodup;have G:(aT σ)[i]?=some x:=by simp[aT,qA,d]
   have F:(aT σ)[j]?=some x:=by simp[aT,qA,c]
   obtain⟨u,A⟩:=zE.1 G;obtain⟨s,z⟩:=zE.1 F;have v:=wS.1 q;rcases Nat.lt_or_gt_of_ne p with t|t
   .exact v i j u s t (A.trans z.symm)
   .exact v j i s u t (z.trans A.symm)
  exact⟨f,o,(a.block x (zX.1 y).1 g).trans y,tK a.size O S E⟩
def N4:D->Bool
 |.any=>false
 |_=>true
variable{d:D}
def kG(h:N4 d=true):d ≠ .any:=by rintro rfl;cases h
def cY:D->Bool
 |.v x=>x.oneCell'
 |.sl _ _=>true
 |.ro _=>true
 |.clo _ _=>true
 |_=>false
variable{O:Nat->Prop}
def I6{u:Value}(h:Rd w O d u)(a:cY d=true):u.oneCell'=true:=by
 cases h<;>first|exact a|rfl|cases a
def yA:=@List.all_eq_true
variable{vs:List Value}{cs:List D}
def aZ6(h:bj w O cs vs)(c:cs.all cY=true):∀v∈vs,v.oneCell'=true:=by
 intro v b;obtain⟨j,a⟩:=yO b;have t:j<cs.length:=by rw[←h.len];exact(zE.1 a).1
 exact I6 (h.at_ j cs[j] v (zD t) a) (yA.1 c _ (wE t))
variable{t:TypeId}{i:TI}
def QK(h:aH P t=some i)(d:i.zero.length=i.size)(p:0<i.size)(w:World):∃z,(zeroValue t).run P w= .ok z w/\z.cells.toList=i.zero.map zv:=by
 obtain⟨f,u,k,q,_,o,_,_,_,a,_⟩:=FC h
 cases b:f.zero with
 |none=>rw[b]at a;simp at a;rw[a]at d;simp at d;omega
 |some z=>
  refine⟨z,by simp[zeroValue,typeInfo,program,Sem.run,k,b],?_⟩;rw[b]at a
  cases m:z.cells.toList.mapM u6 with
  |none=>simp[m]at a;rw[a]at d;simp at d;omega
  |some n=>
   simp[m]at a;rw[a];have:∀(l:List Value)(r:List ZV),l.mapM u6=some r->l=r.map zv:=by
    intro l
    induction l with
    |nil=>intro r c;simp at c;subst c;rfl
    |cons x l g=>
     intro r c;simp only[List.mapM_cons,Option.bind_eq_bind,Option.bind_eq_some_iff,Option.pure_def,xB]at c;obtain⟨y,j,e,s,rfl⟩:=c;rw[List.map_cons,←GZ j,←g e s]
   exact this _ _ m
def vA:=@List.map_map
variable{o:Oper}{T:TypeId->Option TI}
def r9(s:∀t i,T t=some i->aH P t=some i){c:List Oper}(m:gK ops a o=some true)(f:o.op= .alloc t)(p:T t=some i)(l:i.zero.length=i.size)(q:0<i.size)
  (k:∀b,bW P r n df ops Q c (aK a o.dst (.v (.pointer (some ⟨b,0,none⟩)))) ((b,.cells t (i.zero.map λz=>.v (zv z)))::σ)):bW P r n df ops Q (o::c) a σ:=by
 refine nc m (by rw[f];rfl) λw X j h=>?_;obtain⟨z,x,u⟩:=QK (s t i p) l q w;have e:(execOp j.eval o).run P w= .ok (.value (.pointer (some ⟨w.heap.size,0,none⟩))) (w.alloc (.cells z.cells t)):=by
  simp only[execOp,f,Sem.run_bind,Instr.alloc,x,Result.andThen,newVar,newRow,newObj]
  rfl
 rw[e];obtain⟨A,y,g⟩:=h.st.new (.cells z.cells t) (.cells t (i.zero.map λz=>.v (zv z))) ⟨z.cells.toList,by simp,by rw[u];have:=My (w:=w) (O:=ay σ X) (i.zero.map zv);rw[vA]at this;exact this⟩;exact⟨_,_,y,(⟨h.fr.keep (by simp) g (λb d _=>((Ex.refl w).alloc).block b d),A,h.df.keep (by simp) g (λb d _=>((Ex.refl w).alloc).block b d)⟩:St (w.alloc (.cells z.cells t)) X df a _ j).put (.v _) o.dst,k _⟩
def dQ(cs:List D)(o:Nat)(new:List D):List D:=cs.take o++new++cs.drop (o+new.length)
def bj.take{O:Nat->Prop}{cs:List D}{vs:List Value}(h:bj w O cs vs)(m:Nat):bj w O (cs.take m) (vs.take m):=
 ⟨by simp[h.len],λj d u a b=>by
  rw[yX]at a b;split at a
  .rename_i c;rw[if_pos c]at b;exact h.at_ j d u a b
  .cases a⟩
def bj.drop(h:bj w O cs vs)(m:Nat):bj w O (cs.drop m) (vs.drop m):=
 ⟨by simp[h.len],λj d u b a=>by
  rw[xR]at b a;exact h.at_ _ d u b a⟩
def aD4{c cur':Array Value}{f:Nat×Nat}(h:w.heap[b]?=some (.cells c t f)):(w.setRow b cur').heap[b]?=some (.cells cur' t f)/\ba (λx=>x=b) w (w.setRow b cur'):=by
 refine⟨setRow_heap w b c cur' t f h,rfl,rfl,rfl,by simp[World.setRow],λx hx n=>?_⟩;simp only[World.setRow,Array.getElem?_modify];rw[if_neg (λe=>n e.symm)]
variable{p:Operand}{tb:TypeId}
def r8(U:∀t i,T t=some i->aH P t=some i){g:List Oper}{x:Operand}{i j f:Nat}{y:TI}(L:gK ops a o=some true)(G:o.op= .store t p x)(M:T t=some y)
  (R:iy a p= .v (.pointer (some ⟨b,f,none⟩))) (hx:iy a x=d) (H:σ[j]?=some (b,.cells tb cs)) (E:N4 d=true) (S:(gX d).length=i) (N:y.size=i) (hf:f+i<=cs.length) (V:(gX d).all cY=true)
  (k:bW P r n df ops Q g (aK a o.dst (.v undef)) (σ.set j (b,.cells tb (dQ cs f (gX d))))):bW P r n df ops Q (o::g) a σ:=by
 refine nc L (by rw[G];rfl) λw X c h=>?_;have F:=h.fr.eval x;rw[hx]at F;have C:=(h.fr.eval p).val R;have z:=F.cells (kG E);obtain⟨_,Z,q,vs,rfl,s⟩:=h.st.at_ b _ (zG H);have B:=(N6 (U t y M) w).2;have l:(c.eval x).cells.toList.length=i:=by rw[z.len,S]
 have m:=run_storeCells_at P b f tb (c.eval x).cells.toList 0 vs.toArray w q (by rw[l];simp[s.len];omega) (aZ6 z V);have e:(execOp c.eval o).run P w= .ok .skip (w.setRow b (vs.take f++(c.eval x).cells.toList++vs.drop (f+(c.eval x).cells.toList.length)).toArray):=by
  have O:¬(c.eval x).cells.size≠y.size:=by
   have:(c.eval x).cells.size=i:=by simpa using l
   rw[this,N];simp
  simp only[execOp,G,Sem.run_bind,Instr.storeAt,C,Instr.sureAddr,Sem.run_pure,Result.andThen,storeVar,B,if_neg O,m];simp
 rw[e];obtain⟨K,A⟩:=aD4 (cur':=(vs.take f++(c.eval x).cells.toList++vs.drop (f+(c.eval x).cells.toList.length)).toArray) q;have u:bj w (ay σ X) (dQ cs f (gX d)) (vs.take f++(c.eval x).cells.toList++vs.drop (f+(c.eval x).cells.toList.length)):=by
  unfold dQ;rw[z.len];exact((s.take f).append z).append (s.drop _)
 obtain⟨Y,W,J,I⟩:=h.st.upd H (k':=.cells tb (dQ cs f (gX d))) A K ⟨_,rfl,u⟩;exact⟨_,W,(⟨h.fr.keep A.size J I,Y,h.df.keep A.size J I⟩:St _ X df a _ c).put (.v _) o.dst,k⟩
def Oe(M:∀t i,T t=some i->aH P t=some i){j a:Nat}{c:TI}(B:o.op= .load t p)(I:T t=some c)
  (K:ρ p= .v (.pointer (some ⟨b,a,none⟩))) (L:σ[j]?=some (b,.cells tb cs)) (U:a+c.size<=cs.length) (F:c.agg=true\/c.size=1):Yd P o ρ σ (oC c.agg ((cs.drop a).take c.size)):=by
 intro w X η y z;obtain⟨dst,op,R,pos,Q,g⟩:=o;simp only at B;subst B;have q:=(y p (by simp[Op.operands])).val K;obtain⟨_,S,A,vs,rfl,k⟩:=z.at_ b _ (zG L);obtain⟨x,N⟩:=N6 (M t c I) w;have l:∀m,m<cs.length->w.cell? ⟨b,m,none⟩=some (vs.getD m undef):=by
  intro m C;have:m<vs.length:=by rw[k.len];exact C
  simp[World.cell?,A,this]
 have e:=B3 (w:=w) (O:=ay σ X) (cs:=cs.drop a) (f:=λm=>vs.getD (a+m) undef) (n:=c.size) c.agg (by simp;omega) F (λm d E=>by
  rw[xR]at E;obtain⟨u,H,G⟩:=k.get E
  simpa [List.getD_eq_getElem?_getD,H]using G)
 cases r:c.agg with
 |true=>
  rw[r]at x e;refine ev (s:=Instr.loadAt t (η p)) ?_ (Ex.refl w) e;rw[q];exact az1 x N (λm C=>l (a+m) (by omega))
 |false=>
  rw[r]at x e;have J:c.size=1:=by rcases F with h|h<;>simp_all
  refine ev (s:=Instr.loadAt t (η p)) (u:=vs.getD (a+0) undef) ?_ (Ex.refl w) e;rw[q];exact R0 x (l a (by omega))
end
end
section
open Go Go.RowKit Go.Shelf
section
variable {P:Program} {r:Option Nat} {n:Nat} {df:Nat} {ops:Array Oper} {Q:fG} {a:List D} {σ:ae} {w:World} {X:Nat->Prop} {ρ:Operand->D}
variable{c:Code}{τ:ae}
def aO1{b:List D}(h:∀w X fr,St w X df a σ fr->St w X df b τ fr)(d:∀x,x∈aT τ->x∈aT σ)(k:ey P r n df c Q b τ):ey P r n df c Q a σ:=
 ⟨λw X fr g=>wpIn_mono (k.run w X fr (h w X fr g)) λe l o⟨m,s,j,i,f⟩=>⟨m,s,j,i,⟨f.keep.mono (λx _ hx=>d x hx),λx hx=>(f.new x hx).imp (d x) id⟩⟩⟩
def aW.sub(h:aW w X σ)(s:τ.Sublist σ):aW w X τ:=
 ⟨(s.map Prod.fst).nodup h.nodup,λb k m=>by
  obtain⟨e,o,d,c⟩:=h.at_ b k (s.subset m);exact⟨e,o,d,tK (zT _) (λx _ n a=>n (a.imp id λhx=>(s.map Prod.fst).subset hx)) (λ_ _ _=>rfl) c⟩,h.xlt,h.gok.mono (λx a=>a.imp id λhx=>(s.map Prod.fst).subset hx)⟩
def sg(h:τ.Sublist σ)(x:Nat)(n:¬ay σ X x):¬ay τ X x:=λo=>n (o.imp id λhx=>(h.map Prod.fst).subset hx)
def Fx(s:τ.Sublist σ)(k:ey P r n df c Q a τ):ey P r n df c Q a σ:=
 aO1 (λw X f h=>⟨h.fr.keep (zT _) (λx _ b=>sg s x b) (λ_ _ _=>rfl),h.st.sub s,h.df.keep (zT _) (λx _ b=>sg s x b) (λ_ _ _=>rfl)⟩) (λx hx=>(s.map Prod.fst).subset hx) k
def vC:=@Nat.add_mul
def aN9{α:Type}{k:Nat}:∀{s:List (List α)}{i:Nat}{x:List α}{j:Nat},(∀x∈s,x.length=k)->s[i]?=some x->j<k->s.flatten[i*k+j]?=x[j]?
 |[],i,x,j,_,h,_=>by simp at h
 |y::s,0,x,j,a,h,c=>by
  simp at h;subst h;have:=a y (by simp);rw[List.flatten_cons,Nat.zero_mul,xD,yP (by omega)]
 |y::s,i+1,x,j,a,h,c=>by
  simp at h;have b:=a y (by simp);rw[List.flatten_cons,yK (by rw[b,vC];omega),b,show(i+1)*k+j-k=i*k+j by rw[vC];omega];exact aN9 (λz d=>a z (by simp[d])) h c
def zI:=@List.length_append
def Al{α:Type}{k:Nat}:∀{s:List (List α)},(∀x∈s,x.length=k)->s.flatten.length=s.length*k
 |[],_=>by simp
 |y::s,h=>by
  rw[List.flatten_cons,zI,Al (λz a=>h z (by simp[a])),h y (by simp),List.length_cons,vC];omega
structure ab(e:TypeId)(k:Nat)(xs:List (List D))(v:Value)(s:ae):Prop where
 len:∀x∈xs,x.length=k
 is:((∃a,v= .slice a 0 0)/\xs=[]/\s=[])\/∃(b cap:Nat)(junk:List D),v= .slice (some ⟨b,0,none⟩) xs.length cap/\s=[(b,.cells e (xs.flatten++junk))]/\xs.length<=cap/\cap<=maxLen/\xs.length*k+junk.length=cap*k/\∀d∈junk,d=D.any
def ab.nil(e:TypeId)(k:Nat):ab e k [] (.slice none 0 0) []:=⟨by simp,.inl ⟨⟨none,rfl⟩,rfl,rfl⟩⟩
def ab.e0(e:TypeId)(k:Nat)(a:Option Addr):ab e k [] (.slice a 0 0) []:=⟨by simp,.inl ⟨⟨a,rfl⟩,rfl,rfl⟩⟩
variable{s:ae}{e:TypeId}{k:Nat}{xs:List (List D)}{v:Value}
def ab.slice(h:ab e k xs v s):∃a c,v= .slice a xs.length c:=by
 rcases h.is with⟨⟨d,rfl⟩,rfl,_⟩|⟨b,p,_,rfl,_⟩
 .exact⟨d,0,rfl⟩
 .exact⟨_,_,rfl⟩
def yB:=@List.map_append
def wI:=@List.sublist_append_right
def xZ:=@Nat.mul_le_mul_right
def LB(h:ab e k xs v s)(y:aW w X (s++τ)):Rd w (ay τ X) (.sl k xs) v:=by
 rcases h.is with⟨⟨J,rfl⟩,rfl,_⟩|⟨b,p,a,rfl,rfl,l,_,H,_⟩
 .exact .sl k [] J 0 (λ_ _=>undef) (zT _) (by simp) (λi x hx=>by simp at hx) (λi x hx=>by simp at hx)
 .obtain⟨I,o,B,vs,rfl,A⟩:=y.at_ b (.cells e (xs.flatten++a)) (xK _ (by simp));have g:=y.nodup;simp only[aT,yB,List.map_cons,List.map_nil,List.cons_append,List.nil_append,wZ]at g;have O:¬ay τ X b:=λf=>by
   rcases f with f|f
   .exact I f
   .exact g.1 f
  have r:=Al h.len;have c:τ.Sublist ([(b,ax.cells e (xs.flatten++a))]++τ):=wI _ _;refine .sl k xs _ p (λi j=>vs.getD (i*k+j) undef) l h.len (λi x hx=>⟨b,0,rfl,O,(zX.1 B).1,λj G=>?_⟩) (λi x hx j d z=>?_)
  .have K:i<xs.length:=(zE.1 hx).1;have:i*k+j<vs.length:=by
    rw[A.len,zI,r,H];have:(i+1)*k<=p*k:=xZ _ (by omega);rw[vC]at this;omega
   simp[World.cell?,B,this]
  .have m:j<k:=by rw[←h.len x (zG hx)];exact(zE.1 z).1
   have q:=aN9 h.len hx m;rw[z]at q;have t:=(zE.1 q).1;have n:(xs.flatten++a)[i*k+j]?=some d:=by rw[yP t];exact q
   obtain⟨u,E,C⟩:=A.get n;simp only[List.getD_eq_getElem?_getD,E];exact C.keep (zT _) (λx _ F=>sg c x F) (λ_ _ _=>rfl)
def vM:=@Nat.mod_lt
def xS:=@List.length_pos_iff
variable{O:Nat->Prop}{u:Value}{ys:List (List D)}
def nK(h:Rd w O (.sl k ys) u)(p:0<k):∃a c n,u= .slice a ys.length c/\bj w O ys.flatten n/\n.length=ys.length*k/\(ys≠[]->∃z:Addr,a=some z/\∀(j:Nat)v,n[j]?=some v->w.cell? (z.add j)=some v):=by
 obtain⟨a,c,vs,rfl,B,r,s,A⟩:=h.sl_inv;have l:=Al r;refine⟨a,c,(List.range (ys.length*k)).map (λq=>vs (q/k) (q%k)),rfl,⟨by simp[l],λj d v y x=>?_⟩,by simp,λg=>?_⟩
 .have t:j<ys.length*k:=by rw[←l];exact(zE.1 y).1
  simp only[qA,xV t,Option.map_some,xB]at x;subst x;have e:j/k<ys.length:=Nat.div_lt_of_lt_mul (by rw[Nat.mul_comm];exact t);have m:j%k<k:=vM _ p;have hx:ys[j/k]?=some ys[j/k]:=zD e;have:=aN9 r hx m;rw[show j/k*k+j%k=j by rw[Nat.mul_comm];exact Nat.div_add_mod j k,y]at this;exact A _ _ hx _ d this.symm
 .have E:0<ys.length:=xS.2 g;obtain⟨b,o,rfl,_⟩:=s 0 ys[0] (zD E);refine⟨⟨b,o,none⟩,rfl,λj v f=>?_⟩;have t:j<ys.length*k:=by simpa using(zE.1 f).1
  simp only[qA,xV t,Option.map_some,xB]at f;subst f;have e:j/k<ys.length:=Nat.div_lt_of_lt_mul (by rw[Nat.mul_comm];exact t);have m:j%k<k:=vM _ p;obtain⟨G,i,F,_,_,C⟩:=s (j/k) _ (zD e)
  cases F
  have:=C (j%k) m;rw[vQ,show j/k*k+j%k=j by rw[Nat.mul_comm];exact Nat.div_add_mod j k]at this;rw[y3];exact this
def zM:=@congrArg
variable{t:TypeId}
def H0{i:TI}(h:aH P t=some i)(c:i.zero.length=i.size)(p:0<i.size):∃f z,P.info? t=some f/\f.zero=some z/\f.size=i.size/\z.cells.size=i.size:=by
 obtain⟨f,u,b,_,_,d,_,_,_,_,_⟩:=FC h;obtain⟨z,g,e⟩:=QK h c p default;refine⟨f,z,b,?_,d.symm,?_⟩
 .cases a:f.zero with
  |none=>simp[zeroValue,typeInfo,program,Sem.run,b,a,unsupported]at g
  |some j=>simp[zeroValue,typeInfo,program,Sem.run,b,a]at g;rw[g]
 .have:=zM List.length e
  simpa [c]using this
def lO(vs:List Value):bj w O (List.replicate vs.length .any) vs:=
 ⟨by simp,λj d u h _=>by
  rw[wF]at h;split at h
  .cases h;exact .any u
  .cases h⟩
def xz{ty:TypeId}{i:TypeInfo}{z:Value}{o d:Addr}{m c b g cap n:Nat}{s:List Value}{w':World}(a:P.underlying t=some (.slice e))(q:P.info? e=some i)(p:i.zero=some z)
  (l:s.length=m*k) (h:∀j u,s[j]?=some u->w.cell? (d.add j)=some u) (B:0<m) (v:i.size=k) (y:i.bytes=b) (A:(0+m)*b<=140737488355328) (x:m<=maxLen)
  (f:(Builtin.append_ #[t,t] ty #[.slice (some o) 0 0,.slice (some d) m c]).run P w= .ok (.slice (some ⟨g,0,none⟩) n cap) w'):g=w.heap.size:=by
 subst v;subst y;have r:=run_append_grow (P:=P) w t ty e i z a q p o 0 0 [] (by simp) (by simp) d m c s l h (by omega) (by unfold maxLen at x;omega) (growslice_fits (by omega) A);rw[r]at f
 cases f
 rfl
def Y3{p:Prop}(h:p:=by
 intro x hx hn ho;rcases ho with ho|ho
 .exact hn (.inl ho)
 .simp only[aT,List.map_cons,List.map_nil,zN]at ho;subst ho;rcases hg' with h|h
  .exact hn (.inr h)
  .omega):p:=h
def zZ:=@List.append_nil
def zR:=@List.length_take
def vH:=@Nat.min_eq_left
def wX:=@List.length_eq_zero_iff
def vW:=@List.flatten_append
def vF:=@List.take_append_drop
def aX6{ty:TypeId}{i j:TI}{ag:Bool}{O:Nat}(ht:aH P t=some i)(hi:i.sl=some (e,ag,k,O))(he:aH P e=some j)(hz:j.zero.length=j.size)(hp:0<k)(hk:j.size=k)
  (hr:ab e k xs v s) (hs:aW w X s) (hu:Rd w (ay s X) (.sl k ys) u) (h1:∀y∈ys,y.all cY=true) (R:(xs.length+ys.length)*O<=140737488355328) (hm:xs.length+ys.length<=maxLen) :
  ∃I r s',(Builtin.append_ #[t,t] ty #[v,u]).run P w= .ok I r/\ab e k (xs++ys) I s'/\aW r X s'/\Mv w s r s':=by
 obtain⟨A,hsz,hby⟩:=sq ht hi;obtain⟨ad0,c,F,rfl,L,hnl,U⟩:=nK hu hp;have hysk:∀y∈ys,y.length=k:=(hu.sl_inv.choose_spec.choose_spec.choose_spec).2.2.1;have hone:∀v∈F,v.oneCell'=true:=aZ6 L (by
  rw[yA];intro d hd;obtain⟨y,hy,hdy⟩:=List.mem_flatten.1 hd;exact yA.1 (h1 y hy) d hdy)
 by_cases T:ys=[]
 ·-- nothing comes
  subst T;rw[zZ];have n:(Builtin.append_ #[t,t] ty #[v,.slice ad0 0 c]).run P w= .ok v w:=by
   have G:=(sj hsz w).2;rcases hr.is with⟨⟨a0,rfl⟩,rfl,_⟩|⟨b,l,J,rfl,_,q,_⟩
   .cases a0<;>cases ad0 with
    |none=>simp[Builtin.append_,run_underlying A,G,Builtin.lenOf,Builtin.firstCells,Result.andThen,storeCells]
    |some ad=>simp[Builtin.append_,run_underlying A,G,Builtin.lenOf,Builtin.firstCells,Result.andThen,loadCells,loadCellsFrom,storeCells]
   .cases ad0 with
    |none=>simp[Builtin.append_,run_underlying A,G,Builtin.lenOf,Builtin.firstCells,Result.andThen,q,storeCells]
    |some ad=>simp[Builtin.append_,run_underlying A,G,Builtin.lenOf,Builtin.firstCells,Result.andThen,loadCells,loadCellsFrom,q,storeCells]
  exact⟨v,w,s,n,hr,hs,Mv.refl _ _⟩
 .obtain⟨ad,rfl,C⟩:=U T;obtain⟨Y,z,k1,k2,k3,k4⟩:=H0 he hz (by omega);have m:Y.bytes=O:=by rw[←hby];simp[Program.bytesOf,k1]
  obtain⟨S,I,r,Z,n,B,a,N⟩:∃S I r,bj w (ay s X) xs.flatten S/\(Builtin.append_ #[t,t] ty #[v,.slice (some ad) ys.length c]).run P w= .ok I r/\r.ownsRow 0 e k I (xs.length+ys.length) (S++F) /\
    ba (λb=>b∈aT s) w r/\(∀g,I.ownBlock=some g->g∈aT s\/g=w.heap.size):=by
   by_cases hsome:∃a1,v= .slice (some a1) 0 0/\xs=[]/\s=[]
   .obtain⟨a1,rfl,rfl,rfl⟩:=hsome;have h0:0<ys.length:=xS.2 T;obtain⟨I,r,g1,g2,W⟩:=run_append_arg_grows (P:=P) w t ty e Y z k O A k1 k2 (by rw[k3];exact hk) m (by rw[k4];exact hk) hp a1 0 0 [] (by simp) (by simp) ad ys.length c F hnl C (by omega) (by simpa using hm) (by simpa using R);refine⟨[],I,r,by simpa using bj.nil,g1,?_,⟨W.os,W.tape,W.output,W.size,λb hb' _=>W.block b hb' (λe=>by cases e)⟩,λg Q=>?_⟩
    .exact⟨by simpa using g2.1,by
      rcases g2.2 with h|⟨b',l,E,q1,q2,q3,q4,q5,q6,q7⟩
      .exact .inl (by simpa using h)
      .exact .inr ⟨b',l,E,by simpa using q1,zW _,q3,by simpa using q4,q5,q6,by simpa using q7⟩⟩
    .right;rcases g2.2 with⟨h,_⟩|⟨b',l,E,q1,q2,q3,q4,q5,q6,q7⟩
     .rw[h]at Q;cases Q
     .rw[q1]at Q
      cases Q
      rw[q1]at g1;exact xz A k1 k2 hnl C h0 (by rw[k3];exact hk) m (by simpa using R) (by simpa using hm) g1
   .obtain⟨S,Z,hown⟩:∃S:List Value,bj w (ay s X) xs.flatten S/\w.ownsRow 0 e k v xs.length S:=by
     rcases hr.is with⟨⟨a0,rfl⟩,rfl,rfl⟩|⟨b,l,J,rfl,rfl,q,M,hj,_⟩
     .cases a0 with
      |none=>exact⟨[],by simpa using bj.nil,by simp,.inl ⟨rfl,rfl⟩⟩
      |some a1=>exact absurd ⟨a1,rfl,rfl,rfl⟩ hsome
     .obtain⟨_,o,g2,vs,rfl,W⟩:=hs.at_ b (.cells e (xs.flatten++J)) (by simp);have H:=Al hr.len;have hl:vs.length=l*k:=by rw[W.len,zI,H,hj]
      have ht':=W.take (xs.length*k);rw[←H,List.take_left]at ht';have hx:xs.length*k<=l*k:=xZ _ q;refine⟨vs.take xs.flatten.length,ht',by rw[zR,H,hl];exact vH hx,.inr ⟨b,l,vs.toArray,rfl,zW _,g2,q,M,by simpa using hl,by simp[H]⟩⟩
    obtain⟨I,r,n,B,f,_,N⟩:=run_append_own_at (P:=P) (w:=w) 0 t ty e Y z k O A k1 k2 (by rw[k3];exact hk) m (by rw[k4];exact hk) hp v xs.length S hown ad ys.length c F hnl C hone hm R (zW _);have K:∀b,v.ownBlock=some b->b∈aT s:=by
     intro b K;rcases hr.is with⟨⟨a0,rfl⟩,rfl,rfl⟩|⟨b',l,J,rfl,rfl,_⟩
     .cases a0 with
      |none=>cases K
      |some a1=>exact absurd ⟨a1,rfl,rfl,rfl⟩ hsome
     .cases K;simp[aT]
    refine⟨S,I,r,Z,n,B,⟨f.os,f.tape,f.output,f.size,λb R hn=>f.block b R (λe=>hn (K b e.symm))⟩,λg Q=>?_⟩;rcases N with h|h
    .rw[Q]at h;exact .inl (K g h.symm)
    .rw[Q]at h;cases h;exact .inr rfl
  rcases B.2 with⟨_,h0⟩|⟨g,l,E,rfl,_,Q,q,M,hcs,htk⟩
  .have:ys.length=0:=by omega
   exact absurd (wX.1 this) T
  .have hg':g∈aT s\/g=w.heap.size:=N g rfl;have hlk:∀y∈xs++ys,y.length=k:=λy hy=>by
    rcases zO.1 hy with h|h
    .exact hr.len y h
    .exact hysk y h
   have H:=Al hlk;rw[zI]at H;have hle':(xs.length+ys.length)*k<=l*k:=xZ _ q;refine⟨_,r,[(g,.cells e ((xs++ys).flatten++List.replicate (E.toList.drop ((xs.length+ys.length)*k)).length .any))],n,⟨hlk,.inr ⟨g,l,_,by rw[zI],rfl,by simpa using q,M,?_,λd hd=>(List.mem_replicate.1 hd).2⟩⟩,⟨by simp[aT],?_,λb R=>yI (hs.xlt b R) a.size,?_⟩,⟨a,?_⟩⟩
   .simp[hcs];omega
   .intro b kk hbk;simp only[zN,vY]at hbk;obtain⟨rfl,rfl⟩:=hbk;have hXb:¬X b:=by
     rcases hg' with h|h
     .obtain⟨⟨b',k'⟩,q1,rfl⟩:=xM.1 h;exact(hs.at_ b' k' q1).1
     .intro hx;have:=hs.xlt b hx;omega
    have hO:∀x,x<w.heap.size->¬ay s X x->¬ay [(b,ax.cells e ((xs++ys).flatten++List.replicate (E.toList.drop ((xs.length+ys.length)*k)).length .any))] X x:=Y3;have hS:∀x,x<w.heap.size->¬ay s X x->r.heap[x]?=w.heap[x]?:=λx hx hn=>a.block x hx (λhm=>hn (.inr hm));refine⟨hXb,_,Q,E.toList,by simp,?_⟩;have V:=((Z.append L).keep a.size hO hS).append (lO (w:=r) (E.toList.drop ((xs.length+ys.length)*k)));rw[←vW,←htk,vF]at V;exact V
   .have hgs:g<r.heap.size:=(zX.1 Q).1;refine hs.gok.keep a.size ?_ (λx hx hn=>a.block x hx (λhm=>hn (.inr hm))) ?_
    .exact Y3
    .intro x ho;rcases ho with ho|ho
     .exact yI (hs.xlt x ho) a.size
     .simp only[aT,List.map_cons,List.map_nil,zN]at ho;subst ho;exact hgs
   .intro b R;simp only[aT,List.map_cons,List.map_nil,zN]at R;subst R;rcases hg' with h|h
    .exact .inl h
    .exact .inr (by omega)
end
end
section
open Go
def KC(c:UInt8):Bool:=decide (97<=(c.toNat:Int))&&decide ((c.toNat:Int)<=122)
def o5(c:UInt8):Bool:=decide (48<=(c.toNat:Int))&&decide ((c.toNat:Int)<=57)
def fw(c:UInt8):Bool:=KC c||o5 c
def cF(n a b:Int):Bool:=decide (a<=n)&&decide (n<=b)
def lg(lo h a b:Int):Bool:=decide (a<=lo)&&(decide (lo<=h)&&decide (h<=b))
def bytes(s:ByteArray):List UInt8:=s.data.toList
def bf(s:ByteArray):Bool:=cF s.size 1 12&&(match bytes s with|c::_=>KC c|[]=>false)&&(bytes s).all fw
def dz(s:ByteArray):Bool:=s.toList.isEmpty
def seq(a b:ByteArray):Bool:=a.toList==b.toList
def na(ws:List ByteArray)(gs:List Int):Bool:=
 gs.all (λn=>cF n 0 1048576)&&cF ws.length 1 12&&decide (ws.length=gs.length)&&decide (0<gs.sum)&&ws.all bf
def yw(r:cH):Bool:=bf r.name&&bf r.kind&&(dz r.a||bf r.a)&&(dz r.b||bf r.b) && !(dz r.a&&dz r.b)&&cF r.n (-1048576) 1048576
def ch(n:Nat)(m:Int×Int):Bool:=cF m.1 0 (n-1)&&cF m.2 0 (n-1)
def jL(x:bG):Bool:=bf x.name&&cF x.tz.length 1 12&&x.tz.all bf&&decide (x.mz.length<=32)&&x.mz.all (ch x.tz.length)
def iU(k:Int):Bool:=k==1||k==4||k==5||k==6||k==7||k==8
def iV(k:Int):Bool:=k==7||k==8
def iT(k:Int):Bool:=k==1||k==2||k==4||k==5||k==7
def jC(k:Int):Bool:=iT k||k==0
def eO(k:Int):Bool:=k==3
def m9(f:an):Bool:=(iU f.kind||dz f.of)&&(iV f.kind||dz f.up)&&(jC f.kind||f.lo==0)&&(iT f.kind||f.hi==0)&&(eO f.kind||(f.words.isEmpty&&f.wz.isEmpty))
def fy(f:an):Bool:=
 if f.kind=0 then cF f.lo (-1048576) 1048576
 else if f.kind=1 then bf f.of&&lg f.lo f.hi 0 65536
 else if f.kind=2 then lg f.lo f.hi (-1048576) 1048576
 else if f.kind=3 then na f.words f.wz
 else if f.kind=4 then(dz f.of||bf f.of)&&lg f.lo f.hi (-1048576) 1048576
 else if f.kind=5 then bf f.of&&lg f.lo f.hi 0 32
 else if f.kind=6 then bf f.of
 else if f.kind=7 then bf f.of&&bf f.up&&lg f.lo f.hi 0 1048576
 else if f.kind=8 then bf f.of&&bf f.up
 else false
def dV(f:an):Bool:=bf f.name&&m9 f&&fy f
def jK(k:aq):Bool:=bf k.name&&lg k.lo k.hi 0 65536&&decide (k.fields.length<=10)&&k.fields.all dV
def iS(x:ak):Bool:=cF x.vz 0 1048576&&decide (x.kz.length<=6)&&decide (x.lz.length<=6)&&decide (x.rules.length<=16)&&x.kz.all jK&&x.lz.all jL&&x.rules.all yw
def FD(a b:ByteArray):seq a b=true↔a=b:=by
 unfold seq;rw[beq_iff_eq,ByteArray.toList_eq,ByteArray.toList_eq];constructor
 .intro h;cases a;cases b;simp at h;simp[h]
 .intro h;rw[h]
def QM(a:ByteArray):seq a a=true:=(FD a a).2 rfl
def eY(s:ByteArray):Prop:=s.size<=1000000
structure SmF(f:an):Prop where
 name:eY f.name
 of:eY f.of
 up:eY f.up
 words:∀s,s∈f.words->eY s
 nwords:f.words.length<=1000000
 nweights:f.wz.length<=1000000
structure SmK(k:aq):Prop where
 name:eY k.name
 fields:∀f,f∈k.fields->SmF f
 nfields:k.fields.length<=1000000
structure SmL(x:bG):Prop where
 name:eY x.name
 tz:∀s,s∈x.tz->eY s
 nstates:x.tz.length<=1000000
 nmoves:x.mz.length<=1000000
structure SmR(r:cH):Prop where
 name:eY r.name
 kind:eY r.kind
 a:eY r.a
 b:eY r.b
structure bi9(x:ak):Prop where
 kz:∀k,k∈x.kz->SmK k
 lz:∀l,l∈x.lz->SmL l
 rules:∀r,r∈x.rules->SmR r
 nkinds:x.kz.length<=1000000
 nlives:x.lz.length<=1000000
 nrules:x.rules.length<=1000000
def eY.le{s:ByteArray}(h:eY s):s.size<=9223372036854775807:=by unfold eY at h;omega
end
section
open Go Go.RowKit Go.Shelf
section
variable {P:Program} {r:Option Nat} {n:Nat} {df:Nat} {ops:Array Oper} {Q:fG} {a:List D} {σ:ae} {w:World} {X:Nat->Prop} {ρ:Operand->D}
def y8(p:Nat->Option (Nat×Nat))(cs:List D):List (Nat×D)->Option (List D)
 |[]=>some cs
 |(i,d)::r=>match p i with
  |none=>none
  |some (o,size)=>bif N4 d&&((gX d).length==size)&&Nat.ble (o+size) cs.length then y8 p (dQ cs o (gX d)) r else none
def Iw(l:List Value):∀(o s:Nat)(c:Array Value),o+s+l.length<=c.size ->
  ((l.zipIdx s).foldl (λc p=>c.setIfInBounds (o+p.2) p.1) c).toList=c.toList.take (o+s)++l++c.toList.drop (o+s+l.length):=by
 induction l with
 |nil=>intro o s c _;simp
 |cons v l i=>
  intro o s c h;simp only[List.length_cons]at h;rw[List.zipIdx_cons,List.foldl_cons,i o (s+1) _ (by simp;omega)];simp only[Array.toList_setIfInBounds];have e:=list_seg_step c.toList (o+s) v l (by simp;omega)
  simpa [vQ]using e
def bc9{O:Nat->Prop}{e:Nat->Option (Nat×Nat)}:∀(s:List (Nat×Operand))(η:Operand->Value)(c:List D)(vs:Array Value)(t:List D),(∀p∈s,Rd w O (ρ p.2) (η p.2))->bj w O c vs.toList ->
  y8 e c (s.map λp=>(p.1,ρ p.2))=some t->∃a,Instr.fill e vs (s.map λp=>(p.1,η p.2))=some a/\bj w O t a.toList
 |[],η,c,vs,t,_,r,h=>by cases h;exact⟨vs,rfl,r⟩
 |(i,x)::s,η,c,vs,t,g,r,h=>by
  simp only[List.map_cons,y8]at h
  cases l:e i with
  |none=>rw[l]at h;cases h
  |some q=>
   obtain⟨o,size⟩:=q;rw[l]at h;simp only at h
   cases d:(N4 (ρ x)&&((gX (ρ x)).length==size)&&Nat.ble (o+size) c.length)with
   |false=>rw[d]at h;cases h
   |true=>
    rw[d]at h;simp only[zJ,beq_iff_eq,vL]at d;obtain⟨⟨c1,v⟩,y⟩:=d;have hx:=(g (i,x) (by simp)).cells (kG c1);have b:(η x).cells.size=size:=by have:=hx.len;simpa [v]using this
    have k:o+size<=vs.size:=by have:=r.len;simp at this;omega
    have j:¬((η x).cells.size≠size||o+(η x).cells.size > vs.size)=true:=by simp[b];omega
    have f:((η x).cells.zipIdx.foldl (λc(p:Value×Nat)=>c.setIfInBounds (o+p.2) p.1) vs).toList=vs.toList.take o++(η x).cells.toList++vs.toList.drop (o+(η x).cells.toList.length):=by
     have:=Iw (η x).cells.toList o 0 vs (by simp[b];omega);rw[Nat.add_zero]at this;rw[←this,←Array.foldl_toList];simp
    obtain⟨a,u,n⟩:=bc9 s η (dQ c o (gX (ρ x))) ((η x).cells.zipIdx.foldl (λc(p:Value×Nat)=>c.setIfInBounds (o+p.2) p.1) vs) t (λp m=>g p (by simp[m])) (by
     rw[f];unfold dQ;rw[hx.len];exact((r.take o).append hx).append (r.drop _)) h
    refine⟨a,?_,n⟩;simp only[List.map_cons,Instr.fill,l];rw[if_neg j];exact u
def Ms(i:TI)(f:Nat):Option (Nat×Nat):=match i.arr with
 |some (_,_,k)=>some (f*k,k)
 |none=>match i.fs[f]? with|some (o,_,m)=>some (o,m)|none=>none
variable{t:TypeId}{i:TI}
def sS(h:aH P t=some i)(c:i.zero.length=i.size)(p:0<i.size):∃f z,P.info? t=some f/\f.zero=some z/\f.size=i.size/\z.cells.toList=i.zero.map zv:=by
 obtain⟨f,u,b,_,_,d,_,_,_,_,_⟩:=FC h;obtain⟨z,g,e⟩:=QK h c p default;refine⟨f,z,b,?_,d.symm,e⟩
 cases a:f.zero with
 |none=>simp[zeroValue,typeInfo,program,Sem.run,b,a,unsupported]at g
 |some j=>simp[zeroValue,typeInfo,program,Sem.run,b,a]at g;rw[g]
def bh9:∀(b:List Field)(r:List (Nat×Bool×Nat)),(b.mapM λf=>(eQ P f.type).map λs=>(f.offset,s.1,s.2))=some r ->
  b.mapM (λf=>(P.info? f.type).map λi=>(f.offset,i.size))=some (r.map λq=>(q.1,q.2.2))
 |[],r,h=>by simp at h;subst h;rfl
 |f::b,r,h=>by
  simp only[List.mapM_cons,Option.bind_eq_bind,Option.bind_eq_some_iff,Option.pure_def,xB,xN]at h;obtain⟨y,⟨s,a,rfl⟩,d,c,rfl⟩:=h;have g:=bh9 b d c;unfold eQ at a;split at a
  .rename_i e u j k
   cases a
   simp[List.mapM_cons,j,g]
  .cases a
def Fm(h:aH P t=some i)(B:i.zero.length=i.size)(C:0<i.size)(g:i.arr.isSome=true\/i.fs≠[]) :
  ∃z:Array Value,z.toList=i.zero.map zv/\∀parts,P.built t parts=Instr.fill (Ms i) z parts:=by
 obtain⟨A,z,k,n,F,y⟩:=sS h B C;obtain⟨o,u,x,w,_,_,c,_,a,_,_⟩:=FC h;rw[k]at x
 cases x
 refine⟨z.cells,y,λparts=>?_⟩;unfold Program.built
 cases u with
 |array m e=>
  simp only at a
  cases d:eQ P e with
  |none=>rw[d]at a;rw[a,c]at g;simp at g
  |some q=>
   rw[d]at a;unfold eQ at d;split at d
   .rename_i p E D G
    cases d
    simp only[k,w,n,D];have l:(Ms i)=(λf=>some (f*p.size,p.size)):=by funext f;simp[Ms,a]
    rw[l]
   .cases d
 |struct b=>
  simp only at c a
  cases j:b.toList.mapM (λf=>(eQ P f.type).map λs=>(f.offset,s.1,s.2))with
  |none=>rw[j]at c;rw[c,a]at g;simp at g
  |some r=>
   rw[j]at c;simp only[k,w,n,bh9 _ _ j];have l:(Ms i)=(λf=>(r.map λq=>(q.1,q.2.2)).toArray[f]?):=by
    funext f
    simp only[Ms,a,c,Option.getD_some]
    cases v:r[f]? with
    |none=>simp[v]
    |some q=>simp[v]
   rw[l]
 |_=>rw[c,a]at g;simp at g
variable{p:Nat×Operand}{ps:Array (Nat×Operand)}
def xk(h:p∈ps.toList):p.2∈(Op.build t ps).operands:=List.mem_toArray.2 (xM.2 ⟨p,h,rfl⟩)
def JB{m:Nat}(h:p∈ps.toList):p.2∈(Op.buildSlice t m ps).operands:=List.mem_toArray.2 (xM.2 ⟨p,h,rfl⟩)
variable{o:Oper}{T:TypeId->Option TI}{out:List D}
def AC(E:∀t i,T t=some i->aH P t=some i)(l:o.op= .build t ps)(u:T t=some i)(s:i.zero.length=i.size)(A:Nat.blt 0 i.size=true)(C:(i.arr.isSome || !i.fs.isEmpty)=true)
  (h:y8 (Ms i) (i.zero.map λz=>.v (zv z)) (ps.toList.map λp=>(p.1,ρ p.2))=some out):Yd P o ρ σ (.agg out):=by
 intro w X η b x;obtain⟨dst,op,y,pos,f,g⟩:=o;simp only at l;subst l;have c:0<i.size:=by simpa [wT]using A
 obtain⟨z,q,m⟩:=Fm (E t i u) s c (by simpa using C);have r:bj w (ay σ X) (i.zero.map λz=>.v (zv z)) z.toList:=by rw[q];have:=My (w:=w) (O:=ay σ X) (i.zero.map zv);rw[vA]at this;exact this
 obtain⟨a,j,k⟩:=bc9 ps.toList η _ z out (λp B=>b p.2 (xk B)) r h;have d:=Rd.agg (w:=w) (O:=ay σ X) out a.toList k.len k.at_;rw[Array.toArray_toList]at d;have n:=run_build w t (ps.map λp=>(p.1,η p.2)) a (by rw[m,Array.toList_map];exact j);clear j k h r q m;have e:(execOp η ⟨dst,.build t ps,y,pos,f,g⟩)=(do pure (Next.value (←Instr.build t (ps.map λp=>(p.1,η p.2)))):Sem Next):=by
  unfold execOp
  rfl
 rw[e];exact ev n (Ex.refl w) d
def GP(z:List ZV)(k m:Nat):List D:=(List.range (m*k)).map λq=>.v (zv (z.getD (q%k) .bool))
def Aq(k m:Nat)(cs:List D):List (List D):=(List.range m).map λi=>(cs.drop (i*k)).take k
def ZJ{p:Prop}(h:p:=by
 refine⟨by simp[GP],λq d u h1 h2=>?_⟩;have hq:q<m*k:=by simpa [GP]using(zE.1 h1).1
 simp only[GP,qA,xV hq,Option.map_some,xB]at h1;simp[hq,hzl]at h2;subst h1 h2;have hmod:q%k<k:=vM _ hp';have:z.cells[q%k]! =zv (j.zero.getD (q%k) .bool):=by
  have h3:z.cells.toList[q%k]?=(j.zero.map zv)[q%k]?:=by rw[g2]
  have h4:q%k<j.zero.length:=by omega
  simp[h4,hzl,hmod]at h3;simp[hzl,hmod,h4];exact h3
 rw[this];exact .v _):p:=h
def xT:=@List.mem_range
def Oh(R:∀t i,T t=some i->aH P t=some i){e:TypeId}{j:TI}{ag:Bool}{k J m:Nat}(Q:o.op= .buildSlice t m ps)(W:T t=some i)(Y:i.sl=some (e,ag,k,J))(he:T e=some j)(M:j.zero.length=j.size)(hk:j.size=k)(Z:Nat.blt 0 k=true)
  (E:Nat.ble (m*k) 1000=true) (h:y8 (λq=>some (q*k,k)) (GP j.zero k m) (ps.toList.map λp=>(p.1,ρ p.2))=some out) (hl:(out.length==m*k)=true):Yd P o ρ σ (.sl k (Aq k m out)):=by
 intro w X η s B;obtain⟨dst,op,ty,pos,aft,g⟩:=o;simp only at Q;subst Q;have hp':0<k:=by simpa [wT]using Z
 have hm':m*k<=1000:=by simpa [vL]using E
 have G:out.length=m*k:=by simpa using hl
 obtain⟨N,A,_⟩:=sq (R t i W) Y;have b:=(sj A w).2;obtain⟨z,g1,g2⟩:=QK (R e j he) M (by omega) w;have hzl:z.cells.size=k:=by have:=zM List.length g2;simpa [M,hk]using this
 have y:bj w (ay σ X) (GP j.zero k m) ((Array.range (m*k)).map (z.cells[· % z.cells.size]!)).toList:=ZJ;obtain⟨a,L,K⟩:=bc9 ps.toList η _ _ out (λp E=>s p.2 (JB E)) y h;have hal:a.size=m*k:=by have:=K.len;simpa [G]using this
 have n:(Instr.buildSlice t m (ps.map λp=>(p.1,η p.2))).run P w= .ok (.slice (some ⟨w.heap.size,0,none⟩) m m) (w.alloc (.cells a e)):=by
  have I:¬m*k > 2 ^ 24:=by omega
  have f:(Array.range 0:Array Nat)= #[]:=rfl;by_cases h0:m*k=0
  .have C:m=0:=by rcases Nat.mul_eq_zero.1 h0 with h|h<;>omega
   subst C;have r:Instr.fill (λq=>some (q*k,k)) #[] (ps.toList.map λp=>(p.1,η p.2))=some a:=by simpa [f]using L
   simp[Instr.buildSlice,run_underlying N,b,Result.andThen,newRow,newObj,Sem.run,f,r]
  .have h0':¬(m=0\/k=0):=λh=>h0 (Nat.mul_eq_zero.2 h);simp only[Instr.buildSlice,Sem.run_bind,run_underlying N,b,Result.andThen,if_neg I,if_neg h0,g1,Sem.run_pure,Array.toList_map,L,newRow,newObj,Sem.run]
   rfl
 refine ev n ((Ex.refl w).alloc) ?_;have V:=K.ex ((Ex.refl w).alloc (o:=.cells a e));have H:(Aq k m out).length=m:=by simp[Aq]
 have:=Rd.sl (w:=w.alloc (.cells a e)) (O:=ay σ X) k (Aq k m out) (some ⟨w.heap.size,0,none⟩) m (λq c=>a.toList.getD (q*k+c) undef) (by omega) (λx hx=>by
  simp only[Aq,xM,xT]at hx;obtain⟨q,hq,rfl⟩:=hx;have:(q+1)*k<=m*k:=xZ _ hq;rw[vC]at this;simp;omega) (λq x hx=>⟨w.heap.size,0,rfl,Se B (zT _),by simp,λc hc=>by
   have hq:q<m:=by simpa [Aq]using(zE.1 hx).1
   have:(q+1)*k<=m*k:=xZ _ hq;rw[vC]at this;have F:q*k+c<a.size:=by omega
   rw[xD,World.cell?_alloc_new];simp[F]⟩) (λq x hx c d l=>by
   have hq:q<m:=by simpa [Aq]using(zE.1 hx).1
   simp only[Aq,qA,xV hq,Option.map_some,xB]at hx;subst hx;rw[yX]at l;split at l
   .rw[xR]at l;obtain⟨u,U,S⟩:=V.get l;simp only[List.getD_eq_getElem?_getD,U];exact S
   .cases l)
 rw[H]at this;exact this
end
end
end Go.Proofs.YtilnpcolgcmofaaGreatDoor
