/- A part of the proof. -/
import Derived.Test.YtilnpcolgcmofaaGreatDoorC05
set_option maxRecDepth 100000
set_option maxHeartbeats 20000000
set_option linter.all false
namespace Go.Proofs.YtilnpcolgcmofaaGreatDoor
open Tryz
section
open Go Go.RowKit Go.Shelf
def J6(L:List Oper)(f:aP)(o:Oper)(K:Bool->Prop):Prop:=
 match o.guard with
 |none=>K true
 |some (j,w)=>match L[j]? with
  |none=>False
  |some a=>match a.dst with
   |none=>False
   |some t=>match gV f t with
    |some (.v x)=>match x with
     |.bool b=>(match w with|true=>Br b (K true) (K false)|false=>Br b (K false) (K true))
     |.tuple _=>K false
     |_=>False
    |_=>False
def Lw(P:Program)(T:TypeId->Option TI)(N:Nat)(L:List Oper)(σ:ae):List Oper->(aP->Prop)->aP->Prop
 |[],K,f=>K f
 |o::r,K,f=>J6 L f o λgo=>match go with
  |true=>bif jM o.op then gR P T o f σ (λd=>aX N o.dst d f (Lw P T N L σ r K))else False
  |false=>aX N o.dst (.v undef) f (Lw P T N L σ r K)
def NK(P:Program)(T:TypeId->Option TI)(N:Nat)(L:List Oper)(σ:ae)(s:Nat)(t0:TypeId):List Oper->(aP->Prop)->aP->Prop
 |[],K,f=>K f
 |o::r,K,f=>J6 L f o λgo=>match go with
  |true=>bif jM o.op then
    (bif rG (some (s,t0)) o then(match o.op with
     |.alloc t=>bif Nat.beq t t0 then aX N o.dst .any f (NK P T N L σ s t0 r K)else False
     |_=>False)
    else gR P T o f σ (λd=>aX N o.dst d f (NK P T N L σ s t0 r K)))else False
  |false=>aX N o.dst (.v undef) f (NK P T N L σ s t0 r K)
def lC(s idx:Nat):List Oper->Nat->Bool
 |[],_=>true
 |o::l,c=>(match o.dst with|some i=>bif Nat.beq i s then Nat.beq c idx else true|none=>true)&&lC s idx l (c+1)
def Fj(d:D)(K:List D->Prop):Prop:=match d with
 |.any=>False
 |.agg c=>m6 c K
 |.v x=>match x with
  |.agg vs=>m6 (vs.toList.map .v) K
  |y=>K [.v y]
 |d=>K [d]
structure Sv(σ:ae)(b off:Nat)(new:List D)(sz:Nat)(K:ae->Prop):Prop where
 run:∃(j:Nat)(tb:TypeId)(cs:List D)(σ':ae),σ[j]?=some (b,.cells tb cs)/\new.length=sz/\off+sz<=cs.length/\new.all cY=true/\(σ.set j (b,.cells tb (dQ cs off new))).Perm σ'/\K σ'
structure CE(P:Program)(g:FuncId)(args:List D)(σ:ae)(K:D->ae->Prop):Prop where
 run:∃(s t:ae)(R:D->ae->Prop),σ.Perm (s++t)/\az P g args s R/\∀d s',R d s'->∃σ',(s'++t).Perm σ'/\K d σ'
structure Ap(P:Program)(T:TypeId->Option TI)(σ:ae)(p x:D)(t:TypeId)(K:D->ae->Prop):Prop where
 run:∃(e:TypeId)(i j:TI)(ag:Bool)(k by_:Nat)(xs ys:List (List D))(v:Value)(s s2 τ:ae),T t=some i/\i.sl=some (e,ag,k,by_)/\T e=some j/\j.zero.length=j.size/\0<k/\j.size=k /\
  p= .v v/\((x= .sl k ys/\s2=[])\/∃v2,x= .v v2/\ab e k ys v2 s2)/\ab e k xs v s/\σ.Perm (s++(s2++τ))/\(∀y∈ys,y.all cY=true)/\(xs.length+ys.length)*by_<=140737488355328/\xs.length+ys.length<=1000000000 /\
  ((∀v' s',ab e k (xs++ys) v' s'->∃σ',(s'++τ).Perm σ'/\K (.v v') σ')\/K (.sl k (xs++ys)) τ)
structure Mk(T:TypeId->Option TI)(σ:ae)(t:TypeId)(x y:D)(K:D->ae->Prop):Prop where
 run:∃(e:TypeId)(i j:TI)(ag:Bool)(by_ m:Nat)(z:ZV),T t=some i/\i.sl=some (e,ag,1,by_)/\T e=some j/\j.zero=[z]/\j.size=1/\x= .v (.int .i64 m)/\y= .v (.int .i64 m)/\by_*m<=281474976710656/\m<=1000000000 /\
  ∀b,K (.v (.slice (some ⟨b,0,none⟩) m m)) ((b,.cells e (List.replicate m (.v (zv z))))::σ)
structure ce(P:Program)(r:Option Nat)(n:Nat)(df:Nat)(L:List Oper)(N:Nat)(o:Oper)(f:aP)(σ:ae)(K:aP->ae->Prop):Prop where
 run:∀(rest:List Oper)(Q:fG)(a:List D),Sp N a f->gK L.toArray a o=some true->(∀f' σ' a',K f' σ'->Sp N a' f'->bW P r n df L.toArray Q rest a' σ')->bW P r n df L.toArray Q (o::rest) a σ
def J5(P:Program)(T:TypeId->Option TI)(r:Option Nat)(n:Nat)(df:Nat)(N:Nat)(L:List Oper)(o:Oper)(f:aP)(σ:ae)(K:aP->ae->Prop):Prop:=
 match o.op with
 |.alloc t=>match T t with
  |none=>False
  |some i=>bif Nat.beq i.zero.length i.size&&Nat.blt 0 i.size then m6 (i.zero.map λz=>.v (zv z)) λA=>∀b,aX N o.dst (.v (.pointer (some ⟨b,0,none⟩))) f (λa=>K a ((b,.cells t A)::σ))else False
 |.store t p x=>match T t with
  |none=>False
  |some i=>match aN f p with
   |.v (.pointer (some ⟨b,off,none⟩))=>Fj (aN f x) λnew=>Sv σ b off new i.size λσ'=>aX N o.dst (.v undef) f (λa=>K a σ')
   |_=>False
 |.makeSlice t x y=>bY (aN f x) λh=>bY (aN f y) λu=>Mk T σ t h u λd σ'=>aX N o.dst d f (λa=>K a σ')
 |.call c=>match c.callee with
  |.builtin .append=>match c.args.toList,c.argTypes.toList with
   |[p,x],[t,l]=>bif Nat.beq t l then Bx (bY (aN f p) λw=>bY (aN f x) λh=>Ap P T σ w h t λd σ'=>aX N o.dst d f (λa=>K a σ')) (ce P r n df L N o f σ K)else ce P r n df L N o f σ K
   |_,_=>False
  |.builtin .copy=>ce P r n df L N o f σ K
  |.value _=>match la o.op (aN f)with
   |some (g,s)=>m6 s λs=>CE P g s σ λd σ'=>bY d λd=>aX N o.dst d f (λa=>K a σ')
   |none=>False
  |_=>gR P T o f σ (λd=>aX N o.dst d f (λa=>K a σ))
 |.buildSlice t m q=>match m with
  |0=>match T t with
   |none=>False
   |some i=>match i.sl with
    |none=>False
    |some (e,_,k,_)=>match T e with
     |none=>False
     |some j=>bif Nat.beq j.zero.length j.size&&Nat.beq j.size k&&Nat.blt 0 k&&q.toList.isEmpty then ∀b,aX N o.dst (.v (.slice (some ⟨b,0,none⟩) 0 0)) f (λa=>K a σ)else False
  |_=>Bx (gR P T o f σ (λd=>aX N o.dst d f (λa=>K a σ))) (ce P r n df L N o f σ K)
 |.binOp b _ _ y _=>match b with
  |.eql=>match aN f y with
   |.v (.slice none 0 0)=>ce P r n df L N o f σ K
   |_=>gR P T o f σ (λd=>aX N o.dst d f (λa=>K a σ))
  |_=>gR P T o f σ (λd=>aX N o.dst d f (λa=>K a σ))
 |.makeMap _ _=>ce P r n df L N o f σ K
 |.mapUpdate _ _ _ _=>ce P r n df L N o f σ K
 |.mapEntry _ _ _=>ce P r n df L N o f σ K
 |.entryStore _ _ _ _=>ce P r n df L N o f σ K
 |.insert _ _ _ _=>ce P r n df L N o f σ K
 |.lookup _ _ _ _=>ce P r n df L N o f σ K
 |.box _ _=>Bx (gR P T o f σ (λd=>aX N o.dst d f (λa=>K a σ))) (ce P r n df L N o f σ K)
 |_=>gR P T o f σ (λd=>aX N o.dst d f (λa=>K a σ))
def y7(P:Program)(T:TypeId->Option TI)(r:Option Nat)(n:Nat)(df:Nat)(N:Nat)(L:List Oper):List Oper->(aP->ae->Prop)->aP->ae->Prop
 |[],K,f,σ=>K f σ
 |o::t,K,f,σ=>J6 L f o λgo=>match go with
  |true=>bif jM o.op then J5 P T r n df N L o f σ (y7 P T r n df N L t K)else False
  |false=>aX N o.dst (.v undef) f (λa=>y7 P T r n df N L t K a σ)
abbrev ik:=Exit->aP->ae->Prop
def tX(N:Nat)(Q:ik):fG:=λe a σ=>∃f,Sp N a f/\Q e f σ
def nA(n:aP->ae->Prop)(Q:ik):ik
 |.normal,f,σ=>n f σ
 |e,f,σ=>Q e f σ
def Fq(id:Nat)(Q:ik):ik
 |.exit i,f,σ=>bif Nat.beq i id then Q .normal f σ else Q (.exit i) f σ
 |e,f,σ=>Q e f σ
structure Lp(P:Program)(r:Option Nat)(n:Nat)(df:Nat)(N:Nat)(c:Code)(Q:ik)(f:aP)(σ:ae):Prop where
 run:∀a,Sp N a f->ey P r n df c (tX N Q) a σ
structure Dr(b:Bool)(A B:Prop):Prop where
 run:(b=true/\A)\/B
def MF:List Oper->Nat->List Nat->List Nat
 |[],_,a=>a
 |o::l,i,a=>MF l (i+1) (bif YJ o.op||o.after.toList.any (λe=>Region.binds .any e&&a.any (Nat.beq e.on))then i::a else a)
def jn(L:List Oper):List Nat:=(MF L 0 []).reverse
def RN(L:List Oper)(i:Nat):Bool:=(jn L).any (Nat.beq i)
def Jy(L:List Oper):List Nat:=(List.range L.length).filter λi=>!RN L i
def mxB(L:List Oper):Bool:=Nat.beq ((Jy L).length+(jn L).length) L.length&&DH .any L.toArray (RN L) (jn L) (Jy L) (Array.replicate L.length false)
def jY(L:List Tmp):aP->aP
 |[]=>[]
 |(i,d)::f=>bif L.any (Nat.beq i)then(i,d)::jY L f else jY L f
def tM(o:Oper)(f:aP):Bool:=match o.op with
 |.load _ p=>match aN f p with|.v _=>true|_=>false
 |.lookup _ _ _ _=>true
 |_=>false
structure Cb(b:Bool)(A:Prop):Prop where
 s:b=true
 k:A
def iw(P:Program)(T:TypeId->Option TI)(N:Nat)(L:List Oper)(E:Nat->Bool)(σ:ae):List Nat->(aP->Prop)->aP->Prop
 |[],K,f=>K f
 |i::h,K,f=>match L[i]? with
  |none=>False
  |some o=>J6 L f o λgo=>match go with
   |true=>bif jM o.op then
     (match tM o f with
     |true=>Cb (Ky .any L.toArray E i) (gR P T o f σ (λd=>aX N o.dst d f (iw P T N L E σ h K)))
     |false=>gR P T o f [] (λd=>aX N o.dst d f (iw P T N L E σ h K)))else False
   |false=>aX N o.dst (.v undef) f (iw P T N L E σ h K)
def ju(P:Program)(T:TypeId->Option TI)(r:Option Nat)(n:Nat)(df:Nat)(N:Nat)(L:List Oper):List Nat->(aP->ae->Prop)->aP->ae->Prop
 |[],K,f,σ=>K f σ
 |k::l,K,f,σ=>match L[k]? with
  |none=>False
  |some o=>y7 P T r n df N L [o] (λa σ'=>match o.dst with
    |none=>ju P T r n df N L l K f σ'
    |some i=>match gV a i with
     |none=>False
     |some d=>bif Nat.blt i N then ju P T r n df N L l K ((i,d)::f) σ' else False) (jY (o.looksAt L.toArray) f) σ
structure Dm(b:Bool)(A B:Prop):Prop where
 run:(b=true/\A)\/B
def oZ(P:Program)(T:TypeId->Option TI)(r:Option Nat)(n:Nat)(df:Nat)(N:Nat)(L:List Oper)(K:aP->ae->Prop)(B:Prop)(f:aP)(σ:ae):Prop:=
 Dm (mxB L) (iw P T N L (RN L) σ (Jy L) (λa=>ju P T r n df N L (jn L) K a σ) f) B
def GS(P:Program)(T:TypeId->Option TI)(r:Option Nat)(n:Nat)(df:Nat)(N:Nat)(L:List Oper)(k:Nat)(K:aP->ae->Prop)(f:aP)(σ:ae):Prop:=match L[k]? with
  |none=>False
  |some o=>y7 P T r n df N L [o] (λa σ'=>match o.dst with
    |none=>K f σ'
    |some i=>match gV a i with
     |none=>False
     |some d=>bif Nat.blt i N then K ((i,d)::f) σ' else False) (jY (o.looksAt L.toArray) f) σ
def Kt(P:Program)(T:TypeId->Option TI)(r:Option Nat)(n:Nat)(df:Nat)(N:Nat)(L:List Oper)(K:aP->ae->Prop):ne->aP->ae->Prop
 |.done,f,σ=>K f σ
 |.one i t,f,σ=>GS P T r n df N L i (Kt P T r n df N L K t) f σ
 |.two i t j u,f,σ=>GS P T r n df N L i (Kt P T r n df N L K t) f σ/\GS P T r n df N L j (Kt P T r n df N L K u) f σ
 |.three i t j u k v,f,σ=>GS P T r n df N L i (Kt P T r n df N L K t) f σ/\GS P T r n df N L j (Kt P T r n df N L K u) f σ/\GS P T r n df N L k (Kt P T r n df N L K v) f σ
def m5(P:Program)(T:TypeId->Option TI)(r:Option Nat)(n:Nat)(df:Nat)(N:Nat):Code->ik->aP->ae->Prop
 |.skip,Q,f,σ=>Q .normal f σ
 |.ret,Q,f,σ=>Q .ret f σ
 |.exit id,Q,f,σ=>Q (.exit id) f σ
 |.seq x y,Q,f,σ=>m5 P T r n df N x (nA (m5 P T r n df N y Q) Q) f σ
 |.cond c x y,Q,f,σ=>match aN f c with
  |.v (.bool t)=>Bc t (m5 P T r n df N x Q f σ) (m5 P T r n df N y Q f σ) (Lp P r n df N (.cond c x y) Q f σ)
  |_=>False
 |.block id b,Q,f,σ=>m5 P T r n df N b (Fq id Q) f σ
 |.region id o d,Q,f,σ=>match d with
  |false=>y7 P T r n df N o.toList o.toList (Q .normal) f σ
  |true=>match EN o.toList with
   |none=>Dr (Region.lexB .any o) (Lw P T N o.toList σ o.toList (λa=>Q .normal a σ) f) (Lp P r n df N (.region id o true) Q f σ)
   |some m=>match o.toList[m]? with
    |none=>False
    |some e=>match e.op with
     |.alloc t0=>(match EN (o.toList.drop (m+1))with
      |none=>Dr (Region.lexTailB .any o m) (Lw P T N o.toList σ (o.toList.take m) (λa=>y7 P T r n df N o.toList (o.toList.drop m) (Q .normal) a σ) f) (oZ P T r n df N o.toList (Q .normal) (Lp P r n df N (.region id o true) Q f σ) f σ)
      |some g=>match e.dst with
       |none=>False
       |some s=>match T t0 with
        |none=>False
        |some i=>bif Nat.beq i.zero.length i.size&&Nat.blt 0 i.size&&Nat.blt s N&&lC s m o.toList 0&&e.guard.isNone then
          Dr (Region.lexTailB .any o (m+1+g)) (NK P T N o.toList σ s t0 (o.toList.take (m+1+g)) (λa=>m6 (i.zero.map λz=>.v (zv z)) λh=>∀b,y7 P T r n df N o.toList (o.toList.drop (m+1+g)) (Q .normal) ((s,.v (.pointer (some ⟨b,0,none⟩)))::a) ((b,.cells t0 h)::σ)) f) (oZ P T r n df N o.toList (Q .normal) (Lp P r n df N (.region id o true) Q f σ) f σ)
         else False)
     |_=>Dr (Region.lexTailB .any o m) (Lw P T N o.toList σ (o.toList.take m) (λa=>y7 P T r n df N o.toList (o.toList.drop m) (Q .normal) a σ) f) (oZ P T r n df N o.toList (Q .normal) (Lp P r n df N (.region id o true) Q f σ) f σ)
 |.loop b,Q,f,σ=>Lp P r n df N (.loop b) Q f σ
 |c,Q,f,σ=>Lp P r n df N c Q f σ
section
variable {P:Program} {r:Option Nat} {n:Nat} {df:Nat} {N:Nat} {σ:ae} {a:List D} {f:aP} {T:TypeId->Option TI} {L:List Oper}
def aJ5{q L:List D->Prop}{s:Array Oper}(h:∀a,q a->L a):∀{l:List Oper}{a:List D},sx none P s σ q l a->sx none P s σ L l a
 |[],a,b=>h _ b
 |o::l,a,b=>by
  rcases b with⟨e,c,d,g,f⟩|⟨e,c⟩
  .exact .inl ⟨e,c,d,g,aJ5 h f⟩
  .exact .inr ⟨e,aJ5 h c⟩
def ln{q L:List D->Prop}{o:Array Oper}{l:List Oper}(b:sx none P o σ q l a)(h:∀a,q a->L a):RE P o σ L l a:=⟨aJ5 h b⟩
variable{o:Oper}{s:ae}
def px{c:Array Oper}{Q:fG}{t:ae}{b:List Oper}{g:FuncId}{B:List D}{R:D->ae->Prop}{ρ:Operand->D}(G:gK c a o=some true)(H:jM o.op=true)(l:∀x,Le (iy a x) (ρ x))(h:la o.op ρ=some (g,B))(z:az P g B s R)
  (k:∀d f,R d f->bW P r n df c Q b (aK a o.dst d) (f++t)):bW P r n df c Q (o::b) a (s++t):=by
 refine nc G H λw X L i=>?_;obtain⟨vs,A,I⟩:=pg (P:=P) (w:=w) (ρ:=ρ) h z.ent (λx _=>l x _ _ _ (i.fr.eval x));rw[I];refine⟨rfl,(z.run w _ vs ⟨A.len,λj d u q p=>tD (A.at_ j d u q p)⟩ i.st.left).mono ?_⟩;rintro e C ⟨u,d,f,q,p,K,J,m⟩;obtain⟨F,E,y,v⟩:=stays i.st J m;exact⟨u,q,d,f++t,E,(⟨i.fr.keep m.keep.size y v,F,i.df.keep m.keep.size y v⟩:St C X df a (f++t) L).put (IK K) o.dst,k d f p⟩
variable{k:Nat}
def yz(m:∀t i,T t=some i->aH P t=some i){s:Array Oper}{Q:fG}{c:List Oper}{t e:TypeId}{i j:TI}{E:Bool}{g:Nat}(u:gK s a o=some true)(l:o.op= .buildSlice t 0 #[])(y:T t=some i)(B:i.sl=some (e,E,k,g))(C:T e=some j)
  (q:j.zero.length=j.size) (G:j.size=k) (F:0<k) (p:∀b,bW P r n df s Q c (aK a o.dst (.v (.slice (some ⟨b,0,none⟩) 0 0))) σ):bW P r n df s Q (o::c) a σ:=by
 refine nc u (by rw[l];rfl) λw X D A=>?_;obtain⟨x,d,_⟩:=sq (m t i y) B;have h:=(sj d w).2;obtain⟨z,I,H⟩:=QK (m e j C) q (by omega) w;have f:(Array.range 0:Array Nat)= #[]:=rfl;have e0:(execOp D.eval o).run P w= .ok (.value (.slice (some ⟨w.heap.size,0,none⟩) 0 0)) (w.alloc (.cells #[] e)):=by
  simp only[execOp,l];simp[Instr.buildSlice,run_underlying x,h,Result.andThen,newRow,newObj,Sem.run,f,Instr.fill]
 rw[e0];have hx:Ex w (w.alloc (.cells #[] e)):=(Ex.refl w).alloc;exact⟨_,σ,kE hx,(A.ex hx).put (.v _) o.dst,p _⟩
def Mv.wider{w w':World}{t u:ae}(h:Mv w s w' u)(k:∀b,b∈aT s->b∈aT t):Mv w t w' u:=
 ⟨h.keep.mono (λb _ a=>k b a),λb a=>(h.new b a).imp (k b) id⟩
def Mv.fewer{w w':World}{t u:ae}(h:Mv w s w' u)(k:∀b,b∈aT t->b∈aT u):Mv w s w' t:=
 ⟨h.keep,λb a=>h.new b (k b a)⟩
def zV:=@List.append_assoc
def yT:=@List.perm_append_comm
variable{p:Prop}
def E6(h:p:=by
 rw[←zV,←zV];exact yT.append_right _):p:=h
def xQ:=@List.Sublist.refl
def mF(V:∀t i,T t=some i->aH P t=some i){l:Array Oper}{Q:fG}{u τ:ae}{g:List Oper}{p x:Operand}{t e:TypeId}{i j:TI}{ag:Bool}{H:Nat}{xs ys:List (List D)}{v:Value}(hw:gK l a o=some true)
  (U:o.op= .call { callee:=.builtin .append,args:=#[p,x],argTypes:=#[t,t] }) (ht:T t=some i) (hi:i.sl=some (e,ag,k,H)) (he:T e=some j) (hz:j.zero.length=j.size) (hp:0<k) (hk:j.size=k)
  (R:iy a p= .v v) (hx:(iy a x= .sl k ys/\u=[])\/∃L,iy a x= .v L/\ab e k ys L u) (hr:ab e k xs v s) (h1:∀y∈ys,y.all cY=true) (f:(xs.length+ys.length)*H<=140737488355328) (hm:xs.length+ys.length<=1000000000)
  (E:(∀C z,ab e k (xs++ys) C z->bW P r n df l Q g (aK a o.dst (.v C)) (z++τ))\/bW P r n df l Q g (aK a o.dst (.sl k (xs++ys))) τ):bW P r n df l Q (o::g) a (s++(u++τ)):=by
 refine nc hw (by rw[U];rfl) λw X K m=>?_;have hv:=(m.fr.eval p).val R;have d:(s++τ).Sublist (s++(u++τ)):=(xQ s).append (wI _ _);have q:∀b,b∈aT (s++τ)->b∈aT (s++(u++τ)):=λb f=>(d.map Prod.fst).subset f;have F:aW w X (s++τ):=m.st.sub d;have hu:Rd w (ay (s++τ) X) (.sl k ys) (K.eval x):=by
  have B:=m.fr.eval x;rcases hx with⟨hx,rfl⟩|⟨L,hx,N⟩
  .rw[hx]at B;exact B
  .rw[hx]at B;have B:=B.val rfl;rw[B];refine LB N (m.st.perm ?_);exact E6
 obtain⟨C,I,z,g1,W,g3,G⟩:=aX6 (ty:=o.type) (V t i ht) hi (V e j he) hz hp hk hr F.left (tD hu) h1 f (by unfold maxLen;omega);have ee:(execOp K.eval o).run P w= .ok (.value C) I:=by
  simp only[execOp,U,resolve,invoke,builtin,Sem.run_bind,Sem.run_pure,Result.andThen,vD,List.map_cons,List.map_nil,hv,g1]
 rw[ee];obtain⟨M,S,Z,Y⟩:=stays F g3 G;have O:∀b,b<w.heap.size->¬ay (s++(u++τ)) X b->¬ay (z++τ) X b:=λb f A=>Z b f (sg d b A);have J:∀b,b<w.heap.size->¬ay (s++(u++τ)) X b->I.heap[b]?=w.heap[b]?:=λb f A=>Y b f (sg d b A);rcases E with E|E
 .exact⟨_,_,S.wider q,(⟨m.fr.keep G.keep.size O J,M,m.df.keep G.keep.size O J⟩:St I X df a (z++τ) K).put (.v _) o.dst,E C z W⟩
 .have c:τ.Sublist (z++τ):=wI _ _;refine⟨_,_,(S.wider q).fewer (λb f=>(c.map Prod.fst).subset f),?_,E⟩;exact(⟨m.fr.keep G.keep.size (λb f A=>sg c b (O b f A)) J,M.sub c,m.df.keep G.keep.size (λb f A=>sg c b (O b f A)) J⟩:St I X df a τ K).put (LB W M) o.dst
def Q3{K:Bool->Prop}(h:J6 L f o K)(s:Sp N a f):∃go,gK L.toArray a o=some go/\K go:=by
 unfold J6 at h;split at h
 .rename_i g;exact⟨true,by simp only[gK,g],h⟩
 .rename_i j w g;split at h
  .exact h.elim
  .rename_i m l;split at h
   .exact h.elim
   .rename_i t k;have e:(L.toArray[j]?).bind (·.dst)=some t:=by simp[l,k]
    split at h
    .rename_i x hx;have i:a[t]?=some (.v x):=by
      rcases s.at_ t _ hx with d|d
      .cases d
      .exact d
     split at h
     .rename_i b;have c:gK L.toArray a o=some (b==w):=by simp only[gK,g,e,i]
      split at h<;>cases b
      .exact⟨false,c,h.no rfl⟩
      .exact⟨true,c,h.yes rfl⟩
      .exact⟨true,c,h.no rfl⟩
      .exact⟨false,c,h.yes rfl⟩
     .exact⟨false,by simp only[gK,g,e,i],h⟩
     .exact h.elim
    .exact h.elim
def aG4(e:∀t i,T t=some i->aH P t=some i):∀{l:List Oper}{K:aP->Prop}{f:aP}{a:List D},Lw P T N L σ l K f->Sp N a f->sx none P L.toArray σ (λp=>∃c,Sp N p c/\K c) l a
 |[],K,f,a,h,s=>⟨f,s,h⟩
 |o::r,K,f,a,h,s=>by
  obtain⟨go,w,j⟩:=Q3 (K:=λgo=>match go with
   |true=>bif jM o.op then gR P T o f σ (λd=>aX N o.dst d f (Lw P T N L σ r K))else False
   |false=>aX N o.dst (.v undef) f (Lw P T N L σ r K)) h s
  cases go with
  |true=>
   obtain⟨n,m⟩:=iH j;obtain⟨d,y,k⟩:=N2 e m;obtain⟨c,b,g⟩:=fT k s;exact .inl ⟨w,n,d,.of (y.le s.le),aG4 e g b⟩
  |false=>
   obtain⟨c,b,g⟩:=fT j s;exact .inr ⟨w,aG4 e g b⟩
def aA9(n:∀t i,T t=some i->aH P t=some i){s:Nat}{t0:TypeId}:∀{l:List Oper}{K:aP->Prop}{f:aP}{a:List D},NK P T N L σ s t0 l K f->Sp N a f->sx (some (s,t0)) P L.toArray σ (λB=>∃m,Sp N B m/\K m) l a
 |[],K,f,a,h,g=>⟨f,g,h⟩
 |o::r,K,f,a,h,g=>by
  obtain⟨go,w,x⟩:=Q3 (K:=λgo=>match go with
   |true=>bif jM o.op then
     (bif rG (some (s,t0)) o then(match o.op with
      |.alloc t=>bif Nat.beq t t0 then aX N o.dst .any f (NK P T N L σ s t0 r K)else False
      |_=>False)
     else gR P T o f σ (λd=>aX N o.dst d f (NK P T N L σ s t0 r K)))else False
   |false=>aX N o.dst (.v undef) f (NK P T N L σ s t0 r K)) h g
  cases go with
  |true=>
   obtain⟨u,e⟩:=iH x
   cases b:rG (some (s,t0)) o with
   |true=>
    rw[b]at e;simp only[cond_true]at e;split at e
    .rename_i t p;obtain⟨z,q⟩:=iH e;have:=yH z;subst this;obtain⟨m,c,k⟩:=fT q g;have j:o.dst=some s:=by
      unfold rG at b;simp only at b;split at b
      .rename_i i A;have:=yH b;subst this;exact A
      .cases b
     exact .inl ⟨w,u,.any,.inr ⟨b,⟨s,t,rfl,p,j⟩,rfl⟩,aA9 n k c⟩
    .exact e.elim
   |false=>
    rw[b]at e;simp only[cond_false]at e;obtain⟨d,y,q⟩:=N2 n e;obtain⟨m,c,k⟩:=fT q g;exact .inl ⟨w,u,d,.inl ⟨b,y.le g.le⟩,aA9 n k c⟩
  |false=>
   obtain⟨m,c,k⟩:=fT x g;exact .inr ⟨w,aA9 n k c⟩
def be9{s idx:Nat}:∀{l:List Oper}{c:Nat},lC s idx l c=true->∀(j:Nat)o,l[j]?=some o->o.dst=some s->c+j=idx
 |[],c,_,j,o,h,_=>by simp at h
 |x::l,c,u,j,o,h,d=>by
  simp only[lC,zJ]at u
  cases j with
  |zero=>
   simp at h;subst h;rw[d]at u;have a:=u.1;simp only[Nat.beq_refl,cond_true]at a;exact yH a
  |succ j=>
   have:=be9 u.2 j o (by simpa using h) d;omega
def aA2{f:Option (Nat×TypeId)}{q L:List D->Prop}{s:Array Oper}(h:∀a,q a->L a):∀{l:List Oper}{a:List D},sx f P s σ q l a->sx f P s σ L l a
 |[],a,b=>h _ b
 |o::l,a,b=>by
  rcases b with⟨e,c,d,i,g⟩|⟨e,c⟩
  .exact .inl ⟨e,c,d,i,aA2 h g⟩
  .exact .inr ⟨e,aA2 h c⟩
def Sp.set(h:Sp N a f){s:Nat}{d:D}(c:s<N):Sp N (a.set s d) ((s,d)::f):=by
 have:=fT (dst:=some s) (d:=d) (K:=λb=>b=(s,d)::f) (by simp[aX,c]) h;obtain⟨b,e,rfl⟩:=this;exact e
def yh{d:D}{K:List D->Prop}(h:Fj d K):N4 d=true/\d ≠ .any/\K (gX d):=by
 cases d with
 |any=>exact h.elim
 |agg c=>exact⟨rfl,(λh=>by cases h),uP h⟩
 |v x=>
  refine⟨rfl,(λh=>by cases h),?_⟩
  cases x<;>first|exact uP h|exact h
 |sl k s=>exact⟨rfl,(λh=>by cases h),h⟩
 |ro c=>exact⟨rfl,(λh=>by cases h),h⟩
 |tup a=>exact⟨rfl,(λh=>by cases h),h⟩
 |clo g c=>exact⟨rfl,(λh=>by cases h),h⟩
 |gl g=>exact⟨rfl,(λh=>by cases h),h⟩
 |ifc t d=>exact⟨rfl,(λh=>by cases h),h⟩
 |mth n d=>exact⟨rfl,(λh=>by cases h),h⟩
variable{K:aP->ae->Prop}
def J4(hT:∀t i,T t=some i->aH P t=some i){u:List Oper}{Q:fG}(hn:jM o.op=true)(h:J5 P T r n df N L o f σ K)(C:Sp N a f)(M:gK L.toArray a o=some true)
  (I:∀q σ' a',K q σ'->Sp N a' q->bW P r n df L.toArray Q u a' σ'):bW P r n df L.toArray Q (o::u) a σ:=by
 have Z:gR P T o f σ (λd=>aX N o.dst d f (λq=>K q σ))->bW P r n df L.toArray Q (o::u) a σ:=λh=>by
  obtain⟨d,hy,F⟩:=N2 hT h;obtain⟨q,l,D⟩:=fT F C;exact uL M hn (hy.le C.le) (I _ _ _ D l)
 have E:ce P r n df L N o f σ K->bW P r n df L.toArray Q (o::u) a σ:=λh=>h.run u Q a C M I;have G:∀{x:Operand}{v:Value},aN f x= .v v->iy a x= .v v:=λh=>C.eq h (λh=>by cases h);unfold J5 at h;split at h
 .rename_i t H;split at h
  .exact h.elim
  .rename_i i hi;obtain⟨B,J⟩:=iH h;simp only[zJ,wT]at B;have F:=uP (K:=λcs=>∀b,aX N o.dst (.v (.pointer (some ⟨b,0,none⟩))) f (λq=>K q ((b,.cells t cs)::σ))) J;refine r9 hT M H hi (yH B.1) B.2 (λb=>?_);obtain⟨q,l,D⟩:=fT (F b) C;exact I _ _ _ D l
 .rename_i t p x H;split at h
  .exact h.elim
  .rename_i i hi;split at h
   .rename_i b off hp;obtain⟨g1,g2,g3⟩:=yh h;obtain⟨j,tb,cs,σ',k1,k2,k3,k4,kp,k5⟩:=g3.run;obtain⟨q,l,D⟩:=fT k5 C;have hx:=C.eq (x:=x) rfl g2;exact r8 hT M H hi (G hp) hx k1 g1 k2 rfl (by omega) k4 (FJ kp (I _ _ _ D l))
   .exact h.elim
 .rename_i t x y H;obtain⟨e,i,j,ag,by_,m,z,B,J,F,D,h5,h6,h7,V,h9,Y⟩:=(mJ (K:=λdy=>Mk T σ t (aN f x) dy λd σ'=>aX N o.dst d f (λq=>K q σ')) (mJ (K:=λdx=>bY (aN f y) λdy=>Mk T σ t dx dy λd σ'=>aX N o.dst d f (λq=>K q σ')) h)).run;refine yy hT M H (G h6) (G h7) B J F D h5 V h9 (λb=>?_);obtain⟨q,l,X⟩:=fT (Y b) C;exact I _ _ _ X l
 .rename_i c H;split at h
  .rename_i hc;split at h
   .rename_i p x t t' e2 e3
    cases O:Nat.beq t t' with
    |false=>rw[O]at h;exact E h
    |true=>
    rw[O]at h;have w:Bx _ _:=h;rcases w.run.symm with w|w
    .exact E w
    have w:=mJ (K:=λdx=>Ap P T σ (aN f p) dx t λd σ'=>aX N o.dst d f (λq=>K q σ')) (mJ (K:=λdp=>bY (aN f x) λdx=>Ap P T σ dp dx t λd σ'=>aX N o.dst d f (λq=>K q σ')) w);have:=yH O;subst this;obtain⟨e,i,j,ag,k,by_,xs,ys,v,s,s2,τ,B,J,F,D,h5,h6,h7,V,h9,Y,X,h12,h13,A⟩:=w.run;have ho':o.op= .call { callee:=.builtin .append,args:=#[p,x],argTypes:=#[t,t] }:=by
     obtain⟨callee,args,ats⟩:=c;simp only at hc e2 e3;have g2:args= #[p,x]:=by apply wJ;simpa using e2
     have g3:ats= #[t,t]:=by apply wJ;simpa using e3
     rw[H,hc,g2,g3]
    refine FJ Y (mF hT M ho' B J F D h5 h6 (G h7) ?_ h9 X h12 h13 ?_)
    .rcases V with⟨V,U⟩|⟨v2,V,U⟩
     .exact .inl ⟨C.eq V (λh=>by cases h),U⟩
     .exact .inr ⟨v2,G V,U⟩
    .rcases A with A|A
     .refine .inl (λv' s' hr=>?_);obtain⟨σ',S,A⟩:=A v' s' hr;obtain⟨q,l,W⟩:=fT A C;exact FJ S (I _ _ _ W l)
     .obtain⟨q,l,W⟩:=fT A C;exact .inr (I _ _ _ W l)
   .exact h.elim
  .exact E h
  .split at h
   .rename_i g ds hc;have h:=uP (K:=λds=>CE P g ds σ λd σ'=>bY d λd=>aX N o.dst d f (λq=>K q σ')) h;obtain⟨s,t,R,B,J,F⟩:=h.run;refine FJ B (px M hn C.le hc J (λd s' hr=>?_));obtain⟨σ',S,F⟩:=F d s' hr;obtain⟨q,l,D⟩:=fT (mJ F) C;exact FJ S (I _ _ _ D l)
   .exact h.elim
  .exact Z h
 .rename_i t m ps H;split at h
  .split at h
   .exact h.elim
   .rename_i i hi;split at h
    .exact h.elim
    .rename_i e ag k by_ hsl;split at h
     .exact h.elim
     .rename_i j hj;obtain⟨B,J⟩:=iH h;simp only[zJ]at B;have hps:ps= #[]:=by have:=B.2;apply wJ;simpa using this
      subst hps;refine yz hT M H hi hsl hj (yH B.1.1.1) (yH B.1.1.2) (by simpa [wT]using B.1.2) (λb=>?_);obtain⟨q,l,D⟩:=fT (J b) C;exact I _ _ _ D l
  .exact h.run.elim Z E
 .split at h
  .split at h
   .exact E h
   .exact Z h
  .exact Z h
 .exact E h
 .exact E h
 .exact E h
 .exact E h
 .exact E h
 .exact E h
 .exact h.run.elim Z E
 .exact Z h
def So(e:∀t i,T t=some i->aH P t=some i){Q:fG}:∀{l:List Oper}{K:aP->ae->Prop}{f:aP}{σ:ae}{a:List D},y7 P T r n df N L l K f σ->Sp N a f->(∀d σ' g,K d σ'->Sp N g d->Q .normal g σ')->bW P r n df L.toArray Q l a σ
 |[],K,f,σ,a,h,s,k=>pu (k f σ a h s)
 |o::b,K,f,σ,a,h,s,k=>by
  obtain⟨go,w,j⟩:=Q3 (K:=λgo=>match go with
   |true=>bif jM o.op then J5 P T r n df N L o f σ (y7 P T r n df N L b K)else False
   |false=>aX N o.dst (.v undef) f (λd=>y7 P T r n df N L b K d σ)) h s
  cases go with
  |true=>
   obtain⟨m,u⟩:=iH j;exact J4 e m u s w (λd σ' g q c=>So e q c k)
  |false=>
   obtain⟨d,c,p⟩:=fT j s;exact yx w (So e p c k)
def aT0{L:List Tmp}:∀{f:aP}{i:Nat}{d:D},gV (jY L f) i=some d->gV f i=some d/\i∈L
 |[],i,d,h=>by simp[jY,gV]at h
 |(j,e)::f,i,d,h=>by
  simp only[jY]at h
  cases b:L.any (Nat.beq j)with
  |true=>
   rw[b]at h;simp only[cond_true,gV]at h⊢
   cases a:Nat.beq j i with
   |true=>
    rw[a]at h;simp only[cond_true,xB]at h;have:=yH a;subst this h;obtain⟨k,l,c⟩:=wC.1 b;have:=yH c;subst this;exact⟨rfl,l⟩
   |false=>
    rw[a]at h;exact aT0 h
  |false=>
   rw[b]at h;simp only[cond_false]at h;obtain⟨m,g⟩:=aT0 h;simp only[gV]
   cases a:Nat.beq j i with
   |true=>
    have:=yH a;subst this;have:L.any (Nat.beq j)=true:=wC.2 ⟨j,g,by simp⟩;rw[b]at this;cases this
   |false=>exact⟨m,g⟩
def Sp.cut(h:Sp N a f)(L:List Tmp):Sp N (only L a) (jY L f):=by
 refine⟨by rw[ox];exact h.len,λi d c=>?_⟩;obtain⟨g,e⟩:=aT0 c;rcases h.at_ i d g with b|b
 .exact .inl b
 .exact .inr (by simp[only,List.getElem?_mapIdx,b,e])
def Ri(e:∀t i,T t=some i->aH P t=some i):∀{s:List Nat}{E:Nat->Bool}{K:aP->Prop}{f:aP}{a:List D},iw P T N L E σ s K f->Sp N a f->jV P .any L.toArray E (λr σ'=>σ'=σ/\∃j,Sp N r j/\K j) s a σ
 |[],E,K,f,a,h,s=>⟨rfl,f,s,h⟩
 |i::l,E,K,f,a,h,s=>by
  unfold iw at h;split at h
  .exact h.elim
  .rename_i o q;have c:L.toArray[i]?=some o:=by simpa using q
   obtain⟨go,w,p⟩:=Q3 (K:=λgo=>match go with
    |true=>bif jM o.op then
      (match tM o f with
      |true=>Cb (Ky .any L.toArray E i) (gR P T o f σ (λd=>aX N o.dst d f (iw P T N L E σ l K)))
      |false=>gR P T o f [] (λd=>aX N o.dst d f (iw P T N L E σ l K)))else False
    |false=>aX N o.dst (.v undef) f (iw P T N L E σ l K)) h s
   cases go with
   |true=>
    obtain⟨n,k⟩:=iH p;split at k
    .obtain⟨d,y,m⟩:=N2 e k.k;obtain⟨j,b,g⟩:=fT m s;exact⟨o,d,c,.inl ⟨k.s,.inl ⟨w,n,.of (y.le s.le)⟩⟩,Ri e g b⟩
    .obtain⟨d,y,m⟩:=N2 e k;obtain⟨j,b,g⟩:=fT m s;exact⟨o,d,c,.inr (.inl ⟨w,n,.of (y.le s.le)⟩),Ri e g b⟩
   |false=>
    obtain⟨j,b,g⟩:=fT p s;exact⟨o,_,c,.inr (.inr ⟨w,rfl⟩),Ri e g b⟩
def ZP(h:p:=by
 rw[hd]at h';simp only at h';split at h'
 .exact h'.elim
 .rename_i d hf';obtain⟨hi,h2⟩:=iH h';rw[wT]at hi;have hia:i<a'.length:=by rw[hs'.len];exact hi
  refine⟨a'[i],λj hj _=>by cases hj;exact zD hia,hk _ _ _ h2 ?_⟩;refine⟨by simp[aK,hs.len],λj d' hj=>?_⟩;simp only[gV]at hj
  cases he:Nat.beq i j with
  |true=>
   rw[he]at hj;simp only[cond_true,xB]at hj;have:=yH he;subst this hj;rcases hs'.at_ i _ hf' with h3|h3
   .exact .inl h3
   .right;rw[zD hia]at h3;simp only[xB]at h3;simp[aK,hs.len,hi,h3]
  |false=>
   rw[he]at hj;have hne:i≠j:=λe=>by subst e;simp at he
   rcases hs.at_ j d' hj with h1|h1
   .exact .inl h1
   .exact .inr (by simp[aK,xP,hne,h1])):p:=h
def NR(l:∀t i,T t=some i->aH P t=some i){E:Nat->Bool}{G:List D->ae->Prop}(m:E k=true)(h:GS P T r n df N L k K f σ)(hs:Sp N a f)
  (hk:∀c σ' a',K c σ'->Sp N a' c->G a' σ'):dA P r n df L.toArray E k G a σ:=by
 unfold GS at h;split at h
 .exact h.elim
 .rename_i o g;have b:L.toArray[k]?=some o:=by simpa using g
  unfold dA;rw[b];simp only[m];refine So l h (hs.cut _) (λc σ' a' h' hs'=>⟨rfl,by rw[hs'.len,hs.len],?_⟩)
  cases hd:o.dst with
  |none=>
   rw[hd]at h';exact⟨.any,(λi hi=>by cases hi),hk _ _ _ h' hs⟩
  |some i=>exact ZP
def kV(d:∀t i,T t=some i->aH P t=some i):∀{l:List Nat}{K:aP->ae->Prop}{f:aP}{σ:ae}{a:List D},(∀k∈l,RN L k=true)->ju P T r n df N L l K f σ->Sp N a f->Em P r n df L.toArray (RN L) (λe σ'=>∃c,Sp N e c/\K c σ') l a σ
 |[],K,f,σ,a,E,h,s=>⟨f,s,h⟩
 |k::l,K,f,σ,a,E,h,s=>by
  have m:GS P T r n df N L k (ju P T r n df N L l K) f σ:=h;exact NR d (E k (by simp)) m s (λc σ' e j b=>kV d (λk g=>E k (by simp[g])) j b)
def z8(p:Nat->Bool):ne->Bool
 |.done=>true
 |.one i t=>p i&&z8 p t
 |.two i t j u=>p i&&(z8 p t&&(p j&&z8 p u))
 |.three i t j u k v=>p i&&(z8 p t&&(p j&&(z8 p u&&(p k&&z8 p v))))
def QL(d:∀t i,T t=some i->aH P t=some i){E:Nat->Bool}:∀{t:ne}{K:aP->ae->Prop}{f:aP}{σ:ae}{a:List D},z8 E t=true->Kt P T r n df N L K t f σ->Sp N a f->iv P r n df L.toArray E (λl σ'=>∃g,Sp N l g/\K g σ') t a σ
 |.done,K,f,σ,a,c,h,s=>⟨f,s,h⟩
 |.one i t,K,f,σ,a,c,h,s=>by
  simp only[z8,zJ]at c;exact NR d c.1 h s (λg σ' l e b=>QL d c.2 e b)
 |.two i t j u,K,f,σ,a,c,h,s=>by
  simp only[z8,zJ]at c;exact⟨NR d c.1 h.1 s (λg σ' l e b=>QL d c.2.1 e b),NR d c.2.2.1 h.2 s (λg σ' l e b=>QL d c.2.2.2 e b)⟩
 |.three i t j u k v,K,f,σ,a,c,h,s=>by
  simp only[z8,zJ]at c;exact⟨NR d c.1 h.1 s (λg σ' l e b=>QL d c.2.1 e b),NR d c.2.2.1 h.2.1 s (λg σ' l e b=>QL d c.2.2.2.1 e b),NR d c.2.2.2.2.1 h.2.2 s (λg σ' l e b=>QL d c.2.2.2.2.2 e b)⟩
def az6{E:Nat->Bool}{s:Array Oper}{K e:List D->ae->Prop}(h:∀a σ,K a σ->e a σ):∀{b:List Nat}{a:List D},jV P .any s E K b a σ->jV P .any s E e b a σ
 |[],a,c=>h _ _ c
 |i::b,a,c=>let ⟨o,d,h1,h2,h3⟩:=c;⟨o,d,h1,h2,az6 h h3⟩
def oY(m:P.follows .mixedOrders=true)(g:∀t i,T t=some i->aH P t=some i){id:Nat}{Q:ik}(h:oZ P T r n df N L (Q .normal) (Lp P r n df N (.region id L.toArray true) Q f σ) f σ)(s:Sp N a f):ey P r n df (.region id L.toArray true) (tX N Q) a σ:=by
 rcases h.run with⟨b,d⟩|h
 .unfold mxB at b;rw[zJ]at b;refine mC (RN L) (Jy L) (jn L) m (yH b.1) b.2 (az6 (λl σ' e=>?_) (Ri g d s));obtain⟨rfl,j,c,e⟩:=e;exact kV g (λk d=>wC.2 ⟨k,d,by simp⟩) e c
 .exact h.run a s
def NP(H:P.follows .mixedOrders=true)(u:∀t i,T t=some i->aH P t=some i):∀{c:Code}{Q:ik}{f:aP}{σ:ae}{a:List D},m5 P T r n df N c Q f σ->Sp N a f->ey P r n df c (tX N Q) a σ:=by
 intro c
 induction c with
 |skip=>intro Q f σ a h g;exact Fu ⟨f,g,h⟩
 |ret=>intro Q f σ a h g;exact KG ⟨f,g,h⟩
 |exit id=>intro Q f σ a h g;exact Fv ⟨f,g,h⟩
 |seq x y B A=>
  intro Q f σ a h g;refine KE (NO (B h g) ?_);rintro e F σ' ⟨q,d,k⟩
  cases e<;>first|exact A k d|exact⟨q,d,k⟩
 |cond c x y B A=>
  intro Q f σ a h g;simp only[m5]at h;split at h
  .rename_i t ht;rcases h.run with h|h
   .exact yn (g.eq ht (λh=>by cases h)) (λe=>B (h.yes e) g) (λe=>A (h.no e) g)
   .exact h.run a g
  .exact h.elim
 |block id b M=>
  intro Q f σ a h g;refine yp (NO (M h g) ?_);rintro e F σ' ⟨q,d,k⟩
  cases e with
  |exit O=>
   simp only[Fq]at k;simp only[rX]
   cases z:Nat.beq O id with
   |true=>rw[z]at k;rw[if_pos (yH z)];exact⟨q,d,k⟩
   |false=>rw[z]at k;rw[if_neg (λe=>by subst e;simp at z)];exact⟨q,d,k⟩
  |_=>exact⟨q,d,k⟩
 |region id J I=>
  intro Q f σ a h g;obtain⟨l⟩:=J;simp only[m5]at h
  cases I with
  |false=>exact rZ (So (L:=l) u h g (λq σ' F k d=>⟨q,d,k⟩))
  |true=>
   simp only at h;split at h
   .rcases h.run with⟨z,E⟩|h
    .exact Fz H z (ln (aG4 (L:=l) u E g) (λF⟨q,d,k⟩=>⟨q,d,k⟩))
    .exact h.run a g
   .rename_i m he;have G:Dr (Region.lexTailB .any l.toArray m) (Lw P T N l σ (l.take m) (λq=>y7 P T r n df N l (l.drop m) (Q .normal) q σ) f) (oZ P T r n df N l (Q .normal) (Lp P r n df N (.region id l.toArray true) Q f σ) f σ)->ey P r n df (.region id l.toArray true) (tX N Q) a σ:=λh=>by
     rcases h.run with⟨z,E⟩|C
     .refine bd9 m H z (ln (aG4 (L:=l) u E g) (λF⟨q,d,k⟩=>?_));exact So (L:=l) u k d (λq σ' F k d=>⟨q,d,k⟩)
     .exact oY H u C g
    split at h
    .exact h.elim
    .rename_i o0 U;split at h
     .rename_i t0 S;split at h
      .exact G h
      .rename_i X he2;split at h
       .exact h.elim
       .rename_i s W;split at h
        .exact h.elim
        .rename_i ti R;obtain⟨Y,E⟩:=iH h;simp only[zJ,wT]at Y;obtain⟨⟨⟨⟨c1,c2⟩,Z⟩,c4⟩,c5⟩:=Y;rcases E.run with⟨V,E⟩|C
         .refine mB (m+1+X) m s t0 o0 u R (yH c1) c2 H V U (by omega) S W (by simpa using c5) (λj o hj hd=>by have:=be9 c4 j o hj hd;omega) (by rw[g.len];exact Z)
           (aA2 (λF⟨q,d,k⟩=>⟨by rw[d.len,g.len],λb=>?_⟩) (aA9 (L:=l) u E g))
          have h2:=uP (K:=λcs=>∀b,y7 P T r n df N l (l.drop (m+1+X)) (Q .normal) ((s,.v (.pointer (some ⟨b,0,none⟩)))::q) ((b,.cells t0 cs)::σ)) k b;exact So (L:=l) u h2 (d.set Z) (λq σ' F k d=>⟨q,d,k⟩)
         .exact oY H u C g
     .exact G h
 |loop b M=>intro Q f σ a h g;exact h.run a g
 |rangeFunc x p s b ih1 ih2=>intro Q f σ a h g;exact h.run a g
 |scope b M=>intro Q f σ a h g;exact h.run a g
 |label l=>intro Q f σ a h g;exact h.run a g
 |goto l=>intro Q f σ a h g;exact h.run a g
 |refuse w=>intro Q f σ a h g;exact h.run a g
end
end
section
open Go Go.RowKit Go.Shelf
structure W(p:Prop):Prop where
 h:p
def UE:Nat->List Nat->Bool
 |_,[]=>false
 |i,j::l=>bif Nat.beq i j then true else UE i l
def rQ:List Nat->aP->aP
 |_,[]=>[]
 |j,(i,d)::f=>bif UE i j then rQ j f else(i,d)::rQ (i::j) f
def GA:Code->List Nat
 |.region _ o _=>o.toList.filterMap (·.dst)
 |.seq x y=>GA x++GA y
 |.cond _ x y=>GA x++GA y
 |.block _ b=>GA b
 |.loop b=>GA b
 |.rangeFunc _ p x y=>p.toList++(GA x++GA y)
 |.scope b=>GA b
 |_=>[]
def ie(c:Code)(f:aP)(ps:aP):aP:=ps++rQ (ps.map Prod.fst++GA c) f
def ei(f F:aP):Prop:=F.map (λp=>gV f p.1)=F.map (λp=>some p.2)
def GT:aP->(aP->Prop)->Prop
 |[],K=>K []
 |(i,d)::f,K=>GT f λf=>K ((i,d)::f)
def QS:∀{f:aP}{K:aP->Prop},GT f K->K f
 |[],_,h=>h
 |(i,d)::f,K,h=>QS (K:=λf=>K ((i,d)::f)) h
def yQ:=@List.mem_cons_of_mem
def aR5:∀{f:aP}{i:Nat}{d:D},gV f i=some d->(i,d)∈f
 |[],i,d,h=>by simp[gV]at h
 |(j,e)::f,i,d,h=>by
  simp only[gV]at h
  cases b:Nat.beq j i with
  |true=>rw[b]at h;simp at h;have:=yH b;subst this h;simp
  |false=>rw[b]at h;exact yQ _ (aR5 h)
def Fi{f F:aP}(h:ei f F){i:Nat}{d:D}(l:gV F i=some d):gV f i=some d:=by
 have m:=aR5 l;unfold ei at h;obtain⟨j,b⟩:=yO m;have a:(F.map (λp=>gV f p.1))[j]?=(F.map (λp=>some p.2))[j]?:=by rw[h]
 simp[b]at a;exact a
def Sp.sub{N:Nat}{a:List D}{f F:aP}(s:Sp N a f)(h:ei f F):Sp N a F:=
 ⟨s.len,λi d b=>s.at_ i d (Fi h b)⟩
section
variable {P:Program} {r:Option Nat} {n:Nat} {df:Nat} {N:Nat} {σ:ae} {a:List D} {f:aP} {T:TypeId->Option TI} {Q:ik}
variable{c:Code}
def gD(v:P.follows .mixedOrders=true)(w:∀t i,T t=some i->aH P t=some i){γ:Type}(ps:γ->aP)(S:γ->ae)(I:γ->Prop)(μ:γ->Nat)(b:γ)
  (C:ei f (ie c f (ps b))) (B:σ=S b) (A:I b)
  (z:∀g,I g->W (GT (ie c f (ps g)) λF=>m5 P T r n df N c (nA (λk σ'=>∃d,ei k (ie c f (ps d))/\σ'=S d/\I d/\μ d < μ g) Q) F (S g))) :
  Lp P r n df N (.loop c) Q f σ:=by
 refine⟨λa u=>?_⟩;refine bd8 (λm a σ=>∃g,μ g=m/\I g/\Sp N a (ie c f (ps g))/\σ=S g) (μ b) ⟨b,rfl,A,u.sub C,B⟩ ?_;rintro m a σ ⟨g,rfl,y,x,rfl⟩;refine NO (NP v w (QS (z g y).h) x) ?_;rintro e D σ' ⟨k,j,l⟩
 cases e with
 |normal=>obtain⟨d,s,q,p,o⟩:=l;exact⟨μ d,o,d,rfl,p,j.sub s,q⟩
 |_=>exact⟨k,j,l⟩
structure Vs(σ:ae)(d:D)(σ':ae)(d':D):Prop where
 run:∀(w:World)(X:Nat->Prop)(u:Value),aW w X σ->Rd w (ay σ X) d u->aW w X σ'/\Rd w (ay σ' X) d' u
 sub:∀b,b∈aT σ'->b∈aT σ
def Vs.refl(σ:ae)(d:D):Vs σ d σ d:=⟨λ_ _ _ b a=>⟨b,a⟩,λ_ h=>h⟩
variable{d':D}
def Vs.le{σ:ae}{d:D}(h:Le d d'):Vs σ d σ d':=⟨λ_ _ _ b a=>⟨b,h _ _ _ a⟩,λ_ h=>h⟩
def Vs.trans{σ σ' σ'':ae}{d a:D}(h:Vs σ d σ' d')(k:Vs σ' d' σ'' a):Vs σ d σ'' a:=
 ⟨λw X u f e=>let ⟨g1,g2⟩:=h.run w X u f e;k.run w X u g1 g2,λb c=>h.sub b (k.sub b c)⟩
structure Rt(R:D->ae->Prop)(d:D)(σ:ae):Prop where
 run:∃d' σ',Vs σ d σ' d'/\R d' σ'
variable{g:FuncId}{R:D->ae->Prop}{args:List D}
def az.vs{P:Program}{σ:ae}(h:az P g args σ (λd σ'=>Rt R d σ')):az P g args σ R:=
 ⟨h.ent,λw X vs v s=>(h.run w X vs v s).mono λe f⟨u,d,σ',m,⟨n,σ'',c,l⟩,k,j,a⟩=>
  let ⟨g1,g2⟩:=c.run f X u j k;⟨u,n,σ'',m,l,g2,g1,a.keep,λb i=>a.new b (c.sub b i)⟩⟩
structure Rs(P:Program)(N:Nat)(fn:Func)(f:aP)(σ:ae)(K:D->Prop):Prop where
 run:∃d,(∀a,Sp N a f->dW P fn a σ d)/\K d
def un(P:Program)(N:Nat)(n:Func)(f:aP)(σ:ae)(K:D->Prop):Prop:=
 match n.results.toList with
 |[]=>K (.v (.tuple #[]))
 |[.tmp i]=>bY (aN f (.tmp i)) K
 |[.tmp i,.tmp j]=>bY (aN f (.tmp i)) λd=>bY (aN f (.tmp j)) λe=>K (.tup [d,e])
 |[.tmp i,.tmp j,.tmp k]=>bY (aN f (.tmp i)) λd=>bY (aN f (.tmp j)) λe=>bY (aN f (.tmp k)) λg=>K (.tup [d,e,g])
 |[.tmp l,.tmp h,.tmp c,.tmp b,.tmp a]=>bY (aN f (.tmp l)) λd1=>bY (aN f (.tmp h)) λd2=>bY (aN f (.tmp c)) λd3=>bY (aN f (.tmp b)) λd4=>bY (aN f (.tmp a)) λd5=>K (.tup [d1,d2,d3,d4,d5])
 |_=>Rs P N n f σ K
def O4(P:Program)(N:Nat)(n:Func)(R:D->ae->Prop):ik
 |.ret,f,σ=>un P N n f σ λd=>Rt R d σ
 |.normal,f,σ=>un P N n f σ λd=>Rt R d σ
 |_,_,_=>False
def dW.le{f:Func}{d:D}(h:dW P f a σ d)(l:Le d d'):dW P f a σ d':=λw X t b s=>let ⟨u,h1,h2⟩:=h w X t b s;⟨u,h1,l _ _ _ h2⟩
def sb(h:Sp N a f)(i:Nat):Le (a.getD i (.v undef)) (aN f (.tmp i)):=h.le (.tmp i)
variable{K:D->Prop}
def aX1{d:D}:bY d K=K d:=by cases d<;>rfl
def BY{n:Func}{i1 i2 i3:Tmp}(h:n.results= #[.tmp i1,.tmp i2,.tmp i3]) :
  dW P n a σ (.tup [a.getD i1 (.v undef),a.getD i2 (.v undef),a.getD i3 (.v undef)]):=λw X t f _=>by
 refine⟨.tuple #[t.getD i1 undef,t.getD i2 undef,t.getD i3 undef],by simp[results,h],?_⟩;have:=bj.cons (lp f i1) (bj.cons (lp f i2) (bj.cons (lp f i3) bj.nil));exact .tup _ _ this.len this.at_
def oX{n:Func}(h:un P N n f σ K)(s:Sp N a f):∃d,dW P n a σ d/\K d:=by
 unfold un at h;split at h
 .rename_i e;exact⟨_,B0 (by apply wJ;simpa using e),h⟩
 .rename_i i e;exact⟨_,(IG (i:=i) (by apply wJ;simpa using e)).le (sb s i),mJ h⟩
 .rename_i i j e;refine⟨_,(BZ (i:=i) (j:=j) (by apply wJ;simpa using e)).le (lY (.cons (sb s i) (.cons (sb s j) .nil))),?_⟩;exact mJ (K:=λe=>K (.tup [_,e])) (mJ (K:=λd=>bY (aN f (.tmp j)) λe=>K (.tup [d,e])) h)
 .rename_i i j k e;simp only[aX1]at h;exact⟨_,(BY (i1:=i) (i2:=j) (i3:=k) (by apply wJ;simpa using e)).le (lY (.cons (sb s i) (.cons (sb s j) (.cons (sb s k) .nil)))),h⟩
 .rename_i m l g c b e;simp only[aX1]at h;exact⟨_,(BX (i1:=m) (i2:=l) (i3:=g) (i4:=c) (i5:=b) (by apply wJ;simpa using e)).le (lY (.cons (sb s m) (.cons (sb s l) (.cons (sb s g) (.cons (sb s c) (.cons (sb s b) .nil)))))),h⟩
 .obtain⟨d,p,o⟩:=h.run;exact⟨d,p a s,o⟩
def yu:List D->aP
 |[]=>[]
 |[a]=>[(0,a)]
 |[a,b]=>[(0,a),(1,b)]
 |[a,b,c]=>[(0,a),(1,b),(2,c)]
 |[a,b,c,d]=>[(0,a),(1,b),(2,c),(3,d)]
 |[a,b,c,d,e]=>[(0,a),(1,b),(2,c),(3,d),(4,e)]
 |[a,b,c,d,e,g]=>[(0,a),(1,b),(2,c),(3,d),(4,e),(5,g)]
 |[a,b,c,d,e,g,h]=>[(0,a),(1,b),(2,c),(3,d),(4,e),(5,g),(6,h)]
 |[a,b,c,d,e,g,h,i]=>[(0,a),(1,b),(2,c),(3,d),(4,e),(5,g),(6,h),(7,i)]
 |_=>[]
def KN(l m:List D):∀i d,gV (yu l) i=some d->d= .any\/(l++m)[i]?=some d:=by
 intro i d h;right;have k:∀p∈yu l,(l++m)[p.1]?=some p.2:=by
  unfold yu;split<;>simp
 exact k _ (aR5 h)
def EL(m:P.follows .mixedOrders=true)(o:∀t i,T t=some i->aH P t=some i){f:Func}(k:P.funcs[g]?=some f)(a:(f.name == "runtime.NumGoroutine")=false)(n:f.body=some c)(p:f.ntmps=N)(l:Nat.ble args.length N=true)
  (h:∀B,W (m5 P T none 9 B N c (O4 P N f R) (yu args) σ)):az P g args σ R:=by
 refine az.vs (mL k a n λB=>(NO (NP m o (h B).h ⟨by rw[vL]at l;simp[p];omega,KN _ _⟩) ?_));rintro e r σ' ⟨q,b,j⟩
 cases e with
 |ret=>exact oX (K:=λd=>Rt R d σ') j b
 |normal=>exact oX (K:=λd=>Rt R d σ') j b
 |_=>exact j.elim
end
section
variable {P:Program} {σ:ae} {A B:Prop} {T:TypeId->Option TI}
variable{C:Prop}
def Bc.l{t:Bool}(h:Br t A B):Bc t A B C:=⟨.inl h⟩
def Bc.j{t:Bool}(h:C):Bc t A B C:=⟨.inr h⟩
def Bx.l(h:W A):Bx A B:=⟨.inl h.h⟩
def Bx.r(h:B):Bx A B:=⟨.inr h⟩
def pA4(h:W A):Br true A B:=⟨λ_=>h.h,(λe=>by cases e)⟩
def pA5(h:W B):Br false A B:=⟨(λe=>by cases e),λ_=>h.h⟩
def Br.t{t:Bool}(e:t=true)(h:W A):Br t A B:=by subst e;exact pA4 h
def Br.f{t:Bool}(e:t=false)(h:W B):Br t A B:=by subst e;exact pA5 h
def yJ:=@decide_eq_true
variable{p:Prop}
def Uz[Decidable p](e:p)(h:W A):Br (decide p) A B:=Br.t (yJ e) h
def yE:=@decide_eq_false
def Br.df[Decidable p](e:¬p)(h:W B):Br (decide p) A B:=Br.f (yE e) h
def Br.d[Decidable p](h:p->W A)(k:¬p->W B):Br (decide p) A B:=⟨λe=>(h (wY e)).h,λe=>(k (of_decide_eq_false e)).h⟩
def Br.n{t:Bool}(h:Br t B A):Br (!t) A B:=⟨λe=>h.no (by simpa using e),λe=>h.yes (by simpa using e)⟩
def Br.b{t:Bool}(h:t=true->W A)(k:t=false->W B):Br t A B:=⟨λe=>(h e).h,λe=>(k e).h⟩
def Br.eq{t a:Bool}(e:t=a)(h:Br a A B):Br t A B:=by subst e;exact h
variable{s:Prop}
def Sd.eq{s':Prop}(e:s=s')(h:Sd s' A):Sd s A:=by subst e;exact h
def Sd.go(h:s)(k:W A):Sd s A:=⟨h,k.h⟩
def Ck.go{b:Bool}(h:b=true)(k:W A):Ck b A:=⟨h,k.h⟩
def Dm.l{b:Bool}(h:b=true)(k:W A):Dm b A B:=⟨.inl ⟨h,k.h⟩⟩
def Dm.r{b:Bool}(k:W B):Dm b A B:=⟨.inr k.h⟩
def Cb.go{b:Bool}(h:b=true)(k:W A):Cb b A:=⟨h,k.h⟩
def Dr.l{b:Bool}(h:b=true)(k:W A):Dr b A B:=⟨.inl ⟨h,k.h⟩⟩
def Dr.r{b:Bool}(k:W B):Dr b A B:=⟨.inr k.h⟩
variable{K:List D->Prop}{α:Type}
def Ix.map{g:α->List D}{l:List α}{j:Int}(a:0<=j/\j<l.length)(h:∀y,l[j.toNat]?=some y->W (K (g y))):Ix (l.map g) j K:=by
 have t:j.toNat<l.length:=by omega
 exact⟨a.1,_,by rw[qA,zD t];rfl,(h _ (zD t)).h⟩
structure bg(p:Prop):Prop where
 run:p
def Ix.mapM{g:α->List D}{l:List α}{j:Int}(a:0<=j/\j<l.length)(h:bg (∀y,l[j.toNat]?=some y->W (K (g y)))):Ix (l.map g) j K:=Ix.map a h.run
def pA7{g:α->List D}{l:List α}{j:Int}{y:α}(a:l[j.toNat]?=some y)(b:0<=j)(h:W (K (g y))):Ix (l.map g) j K:=
 ⟨b,_,by rw[qA,a];rfl,h.h⟩
variable{cs:List D}
def Ix.at{xs:List (List D)}{j:Int}(y:xs[j.toNat]?=some cs)(a:0<=j)(h:W (K cs)):Ix xs j K:=⟨a,cs,y,h.h⟩
variable{o:Oper}{ρ:Operand->D}{K:D->Prop}{sz:Nat}{tb:TypeId}
def Ld.at{b f:Nat}{a:Bool}(j:Nat){d:D}(g:σ[j]?=some (b,.cells tb cs))(e:Nat.ble (f+sz) cs.length=true)(c:oC a ((cs.drop f).take sz)=d)(h:W (K d)):Ld P o ρ σ b f a sz K:=
 ⟨.inl ⟨j,tb,cs,g,by rwa [vL]at e,by rw[c];exact h.h⟩⟩
def Ld.yd{b f:Nat}{a:Bool}{d:D}(h:Yd P o ρ σ d)(k:W (K d)):Ld P o ρ σ b f a sz K:=⟨.inr ⟨d,h,k.h⟩⟩
def xA:=@List.Perm.of_eq
variable{σ':ae}{new:List D}
def Sv.at{b o:Nat}{K:ae->Prop}(j:Nat)(f:σ[j]?=some (b,.cells tb cs))(e:new.length=sz)(d:Nat.ble (o+sz) cs.length=true)(c:new.all cY=true)(a:σ.set j (b,.cells tb (dQ cs o new))=σ')(h:W (K σ')):Sv σ b o new sz K:=
 ⟨j,tb,cs,σ',f,e,by rwa [vL]at d,c,xA a,h.h⟩
def yN:=@List.mem_cons_self
def xW:=@List.set_eq_take_append_cons_drop
def Sv.perm{b o:Nat}{K:ae->Prop}{cs':List D}{τ:ae}(d:σ.Perm ((b,.cells tb cs)::τ))(n:new.length=sz)(m:o+sz<=cs.length)(k:new.all cY=true)(i:dQ cs o new=cs')(h:W (K ((b,.cells tb cs')::τ))):Sv σ b o new sz K:=by
 obtain⟨j,c⟩:=yO (d.mem_iff.2 (yN (a:=(b,ax.cells tb cs))));obtain⟨l,e⟩:=zE.1 c;refine⟨j,tb,cs,_,c,n,m,k,?_,h.h⟩;rw[i];have q:σ=σ.take j++(b,ax.cells tb cs)::σ.drop (j+1):=by
  rw[←e,List.getElem_cons_drop,vF]
 have p:σ.set j (b,ax.cells tb cs')=σ.take j++(b,ax.cells tb cs')::σ.drop (j+1):=by
  rw[xW,if_pos l]
 have g:σ.Perm ((b,ax.cells tb cs)::(σ.take j++σ.drop (j+1))):=by
  refine(xA q).trans List.perm_middle
 have f:τ.Perm (σ.take j++σ.drop (j+1)):=(List.perm_cons _).1 (d.symm.trans g);rw[p];exact List.perm_middle.trans (List.Perm.cons _ f.symm)
def Ld.mem{b f:Nat}{a:Bool}{d:D}(i:(b,ax.cells tb cs)∈σ)(g:f+sz<=cs.length)(e:oC a ((cs.drop f).take sz)=d)(h:W (K d)):Ld P o ρ σ b f a sz K:=by
 obtain⟨j,c⟩:=yO i;exact⟨.inl ⟨j,tb,cs,c,g,by rw[e];exact h.h⟩⟩
def Ot.yd{d:D}(h:Yd P o ρ σ d)(k:W (K d)):Ot P o ρ σ K:=⟨d,h,k.h⟩
variable{g:FuncId}{args:List D}
def Cp.by{d:D}(h:APure P g args d)(k:W (K d)):Cp P g args σ K:=⟨d,h.pk,k.h⟩
def Cp.pk{d:D}(h:iK P g args σ d)(k:W (K d)):Cp P g args σ K:=⟨d,h,k.h⟩
def APure.call{d:D}(h:APure P g args d):az P g args [] (λi b=>i=d/\b=[]):=
 ⟨h.ent,λw X vs v s=>(h.run w (ay [] X) vs v s.gok).mono λe j⟨u,f,c,a⟩=>⟨u,d,[],f,⟨rfl,rfl⟩,c,s.ex a,kE a⟩⟩
variable{R:D->Prop}
def bH.call(h:bH P g args R):az P g args [] (λj b=>R j/\b=[]):=
 ⟨h.ent,λw X vs v s=>(h.run w (ay [] X) vs v s.gok).mono λe k⟨u,d,i,f,c,a⟩=>⟨u,d,[],i,⟨f,rfl⟩,c,s.ex a,kE a⟩⟩
def zH:=@List.Perm.refl
variable{K:D->ae->Prop}
def CE.pure{d:D}(h:APure P g args d)(k:W (K d σ)):CE P g args σ K:=
 ⟨[],σ,_,zH _,h.call,λc s⟨b,a⟩=>by subst b a;exact⟨σ,zH _,k.h⟩⟩
def CE.some(h:bH P g args R)(k:∀d,R d->W (K d σ)):CE P g args σ K:=
 ⟨[],σ,_,zH _,h.call,λc s⟨b,a⟩=>by subst a;exact⟨σ,zH _,(k _ b).h⟩⟩
def iK.call{d:D}(h:iK P g args σ d):az P g args σ (λi b=>i=d/\b=σ):=
 ⟨h.ent,λw X vs v s=>(h.run w X vs v s).mono λe j⟨u,f,c,a⟩=>⟨u,d,σ,f,⟨rfl,rfl⟩,c,s.ex a,kE a⟩⟩
def CE.pk{d:D}(h:iK P g args σ d)(k:W (K d σ)):CE P g args σ K:=
 ⟨σ,[],_,by simp,h.call,λc s⟨b,a⟩=>by subst b a;exact⟨_,by simp,k.h⟩⟩
variable{R:D->ae->Prop}
def bu{s t:ae}(h:az P g args s R)(p:σ.Perm (s++t))(f:ae->ae)(q:∀s',(s'++t).Perm (f s'))(k:∀d s',R d s'->W (K d (f s'))):CE P g args σ K:=⟨s,t,R,p,h,λd s' r=>⟨_,q s',(k d s' r).h⟩⟩
variable{d':D}
def Rt.by{d:D}(h:Vs σ d σ' d')(k:R d' σ'):Rt R d σ:=⟨d',σ',h,k⟩
def Rt.same{d:D}(k:R d σ):Rt R d σ:=⟨d,σ,Vs.refl _ _,k⟩
def Rt.pure{d:D}(h:d=d'):Rt (λx _=>x=d') d σ:=⟨d',σ,by rw[h];exact Vs.refl _ _,rfl⟩
def Rt.le{d:D}(h:Le d d'):Rt (λx _=>x=d') d σ:=⟨d',σ,Vs.le h,rfl⟩
def Rt.vs{d:D}(h:Vs σ d σ' d'):Rt (λx _=>x=d') d σ:=⟨d',σ',h,rfl⟩
end
def Br.d2{p:Prop}[Decidable p]{A B:Prop}(h:(p->W A)/\(¬p->W B)):Br (decide p) A B:=Br.d h.1 h.2
def Br.b2{t:Bool}{A B:Prop}(h:(t=true->W A)/\(t=false->W B)):Br t A B:=Br.b h.1 h.2
def aZ{A B:Prop}(k:B)(h:ar B->A:=by intro q7;(first|(with_reducible refine Br.d2 ?_)|(with_reducible refine Br.b2 ?_));exact q7.1):A:=h ⟨k⟩
end
end Go.Proofs.YtilnpcolgcmofaaGreatDoor
