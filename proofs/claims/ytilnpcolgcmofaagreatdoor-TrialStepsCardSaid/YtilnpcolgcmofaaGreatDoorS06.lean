/- A part of the proof: Ey Ez. -/
import Derived.Test.YtilnpcolgcmofaaGreatDoorS05
set_option maxRecDepth 100000
set_option maxHeartbeats 20000000
set_option linter.all false
namespace Go.Proofs.YtilnpcolgcmofaaGreatDoor
open Tryz
section
open Go Go.RowKit Go.Shelf
def Iu(L:List Oper)(f:aM)(o:Oper)(K:Bool->Prop):Prop:=
 match o.guard with
 |none=>K true
 |some (j,w)=>match L[j]? with
  |none=>False
  |some a=>match a.dst with
   |none=>False
   |some t=>match gn f t with
    |some (.v x)=>match x with
     |.bool b=>(match w with|true=>Br b (K true) (K false)|false=>Br b (K false) (K true))
     |.tuple _=>K false
     |_=>False
    |_=>False
def J4(P:Program)(T:TypeId->Option TI)(N:Nat)(L:List Oper)(σ:af):List Oper->(aM->Prop)->aM->Prop
 |[],K,f=>K f
 |o::r,K,f=>Iu L f o λgo=>match go with
  |true=>bif iR o.op then iE P T o f σ (λd=>aR N o.dst d f (J4 P T N L σ r K))else False
  |false=>aR N o.dst (.v undef) f (J4 P T N L σ r K)
def LQ(P:Program)(T:TypeId->Option TI)(N:Nat)(L:List Oper)(σ:af)(s:Nat)(t0:TypeId):List Oper->(aM->Prop)->aM->Prop
 |[],K,f=>K f
 |o::r,K,f=>Iu L f o λgo=>match go with
  |true=>bif iR o.op then
    (bif qk (some (s,t0)) o then(match o.op with
     |.alloc t=>bif Nat.beq t t0 then aR N o.dst .any f (LQ P T N L σ s t0 r K)else False
     |_=>False)
    else iE P T o f σ (λd=>aR N o.dst d f (LQ P T N L σ s t0 r K)))else False
  |false=>aR N o.dst (.v undef) f (LQ P T N L σ s t0 r K)
def j8(s idx:Nat):List Oper->Nat->Bool
 |[],_=>true
 |o::l,c=>(match o.dst with|some i=>bif Nat.beq i s then Nat.beq c idx else true|none=>true)&&j8 s idx l (c+1)
def D3(d:D)(K:List D->Prop):Prop:=match d with
 |.any=>False
 |.agg c=>oI c K
 |.v x=>match x with
  |.agg vs=>oI (vs.toList.map .v) K
  |y=>K [.v y]
 |d=>K [d]
structure Sv(σ:af)(b off:Nat)(new:List D)(sz:Nat)(K:af->Prop):Prop where
 run:∃(j:Nat)(tb:TypeId)(cs:List D)(σ':af),σ[j]?=some (b,.cells tb cs)/\new.length=sz/\off+sz<=cs.length/\new.all dH=true/\(σ.set j (b,.cells tb (ft cs off new))).Perm σ'/\K σ'
structure CE(P:Program)(g:FuncId)(args:List D)(σ:af)(K:D->af->Prop):Prop where
 run:∃(s t:af)(R:D->af->Prop),σ.Perm (s++t)/\az P g args s R/\∀d s',R d s'->∃σ',(s'++t).Perm σ'/\K d σ'
structure Ap(P:Program)(T:TypeId->Option TI)(σ:af)(p x:D)(t:TypeId)(K:D->af->Prop):Prop where
 run:∃(e:TypeId)(i j:TI)(ag:Bool)(k by_:Nat)(xs ys:List (List D))(v:Value)(s s2 τ:af),T t=some i/\i.sl=some (e,ag,k,by_)/\T e=some j/\j.zero.length=j.size/\0<k/\j.size=k /\
  p= .v v/\((x= .sl k ys/\s2=[])\/∃v2,x= .v v2/\ae e k ys v2 s2)/\ae e k xs v s/\σ.Perm (s++(s2++τ))/\(∀y∈ys,y.all dH=true)/\(xs.length+ys.length)*by_<=140737488355328/\xs.length+ys.length<=1000000000 /\
  ((∀v' s',ae e k (xs++ys) v' s'->∃σ',(s'++τ).Perm σ'/\K (.v v') σ')\/K (.sl k (xs++ys)) τ)
structure Mk(T:TypeId->Option TI)(σ:af)(t:TypeId)(x y:D)(K:D->af->Prop):Prop where
 run:∃(e:TypeId)(i j:TI)(ag:Bool)(by_ m:Nat)(z:ZV),T t=some i/\i.sl=some (e,ag,1,by_)/\T e=some j/\j.zero=[z]/\j.size=1/\x= .v (.int .i64 m)/\y= .v (.int .i64 m)/\by_*m<=281474976710656/\m<=1000000000 /\
  ∀b,K (.v (.slice (some ⟨b,0,none⟩) m m)) ((b,.cells e (List.replicate m (.v (zv z))))::σ)
structure ci(P:Program)(r:Option Nat)(n:Nat)(df:Nat)(L:List Oper)(N:Nat)(o:Oper)(f:aM)(σ:af)(K:aM->af->Prop):Prop where
 run:∀(rest:List Oper)(Q:eY)(a:List D),Sp N a f->gb L.toArray a o=some true->(∀f' σ' a',K f' σ'->Sp N a' f'->bP P r n df L.toArray Q rest a' σ')->bP P r n df L.toArray Q (o::rest) a σ
def It(P:Program)(T:TypeId->Option TI)(r:Option Nat)(n:Nat)(df:Nat)(N:Nat)(L:List Oper)(o:Oper)(f:aM)(σ:af)(K:aM->af->Prop):Prop:=
 match o.op with
 |.alloc t=>match T t with
  |none=>False
  |some i=>bif Nat.beq i.zero.length i.size&&Nat.blt 0 i.size then oI (i.zero.map λz=>.v (zv z)) λA=>∀b,aR N o.dst (.v (.pointer (some ⟨b,0,none⟩))) f (λa=>K a ((b,.cells t A)::σ))else False
 |.store t p x=>match T t with
  |none=>False
  |some i=>match aK f p with
   |.v (.pointer (some ⟨b,off,none⟩))=>D3 (aK f x) λnew=>Sv σ b off new i.size λσ'=>aR N o.dst (.v undef) f (λa=>K a σ')
   |_=>False
 |.makeSlice t x y=>bS (aK f x) λh=>bS (aK f y) λu=>Mk T σ t h u λd σ'=>aR N o.dst d f (λa=>K a σ')
 |.call c=>match c.callee with
  |.builtin .append=>match c.args.toList,c.argTypes.toList with
   |[p,x],[t,l]=>bif Nat.beq t l then Bx (bS (aK f p) λw=>bS (aK f x) λh=>Ap P T σ w h t λd σ'=>aR N o.dst d f (λa=>K a σ')) (ci P r n df L N o f σ K)else ci P r n df L N o f σ K
   |_,_=>False
  |.builtin .copy=>ci P r n df L N o f σ K
  |.value _=>match jL o.op (aK f)with
   |some (g,s)=>oI s λs=>CE P g s σ λd σ'=>bS d λd=>aR N o.dst d f (λa=>K a σ')
   |none=>False
  |_=>iE P T o f σ (λd=>aR N o.dst d f (λa=>K a σ))
 |.buildSlice t m q=>match m with
  |0=>match T t with
   |none=>False
   |some i=>match i.sl with
    |none=>False
    |some (e,_,k,_)=>match T e with
     |none=>False
     |some j=>bif Nat.beq j.zero.length j.size&&Nat.beq j.size k&&Nat.blt 0 k&&q.toList.isEmpty then ∀b,aR N o.dst (.v (.slice (some ⟨b,0,none⟩) 0 0)) f (λa=>K a σ)else False
  |_=>Bx (iE P T o f σ (λd=>aR N o.dst d f (λa=>K a σ))) (ci P r n df L N o f σ K)
 |.binOp b _ _ y _=>match b with
  |.eql=>match aK f y with
   |.v (.slice none 0 0)=>ci P r n df L N o f σ K
   |_=>iE P T o f σ (λd=>aR N o.dst d f (λa=>K a σ))
  |_=>iE P T o f σ (λd=>aR N o.dst d f (λa=>K a σ))
 |.makeMap _ _=>ci P r n df L N o f σ K
 |.mapUpdate _ _ _ _=>ci P r n df L N o f σ K
 |.mapEntry _ _ _=>ci P r n df L N o f σ K
 |.entryStore _ _ _ _=>ci P r n df L N o f σ K
 |.insert _ _ _ _=>ci P r n df L N o f σ K
 |.lookup _ _ _ _=>ci P r n df L N o f σ K
 |.box _ _=>Bx (iE P T o f σ (λd=>aR N o.dst d f (λa=>K a σ))) (ci P r n df L N o f σ K)
 |_=>iE P T o f σ (λd=>aR N o.dst d f (λa=>K a σ))
def w5(P:Program)(T:TypeId->Option TI)(r:Option Nat)(n:Nat)(df:Nat)(N:Nat)(L:List Oper):List Oper->(aM->af->Prop)->aM->af->Prop
 |[],K,f,σ=>K f σ
 |o::t,K,f,σ=>Iu L f o λgo=>match go with
  |true=>bif iR o.op then It P T r n df N L o f σ (w5 P T r n df N L t K)else False
  |false=>aR N o.dst (.v undef) f (λa=>w5 P T r n df N L t K a σ)
abbrev gJ:=Exit->aM->af->Prop
def sy(N:Nat)(Q:gJ):eY:=λe a σ=>∃f,Sp N a f/\Q e f σ
def l5(n:aM->af->Prop)(Q:gJ):gJ
 |.normal,f,σ=>n f σ
 |e,f,σ=>Q e f σ
def D8(id:Nat)(Q:gJ):gJ
 |.exit i,f,σ=>bif Nat.beq i id then Q .normal f σ else Q (.exit i) f σ
 |e,f,σ=>Q e f σ
structure Lp(P:Program)(r:Option Nat)(n:Nat)(df:Nat)(N:Nat)(c:Code)(Q:gJ)(f:aM)(σ:af):Prop where
 run:∀a,Sp N a f->dQ P r n df c (sy N Q) a σ
structure Dr(b:Bool)(A B:Prop):Prop where
 run:(b=true/\A)\/B
def KU:List Oper->Nat->List Nat->List Nat
 |[],_,a=>a
 |o::l,i,a=>KU l (i+1) (bif Xj o.op||o.after.toList.any (λe=>Region.binds .any e&&a.any (Nat.beq e.on))then i::a else a)
def YQ(L:List Oper):List Nat:=(KU L 0 []).reverse
def Qm(L:List Oper)(i:Nat):Bool:=(YQ L).any (Nat.beq i)
def Hy(L:List Oper):List Nat:=(List.range L.length).filter λi=>!Qm L i
def mxB(L:List Oper):Bool:=Nat.beq ((Hy L).length+(YQ L).length) L.length&&B8 .any L.toArray (Qm L) (YQ L) (Hy L) (Array.replicate L.length false)
def jc(L:List Tmp):aM->aM
 |[]=>[]
 |(i,d)::f=>bif L.any (Nat.beq i)then(i,d)::jc L f else jc L f
def se(o:Oper)(f:aM):Bool:=match o.op with
 |.load _ p=>match aK f p with|.v _=>true|_=>false
 |.lookup _ _ _ _=>true
 |_=>false
structure Cb(b:Bool)(A:Prop):Prop where
 s:b=true
 k:A
def gU(P:Program)(T:TypeId->Option TI)(N:Nat)(L:List Oper)(E:Nat->Bool)(σ:af):List Nat->(aM->Prop)->aM->Prop
 |[],K,f=>K f
 |i::h,K,f=>match L[i]? with
  |none=>False
  |some o=>Iu L f o λgo=>match go with
   |true=>bif iR o.op then
     (match se o f with
     |true=>Cb (IY .any L.toArray E i) (iE P T o f σ (λd=>aR N o.dst d f (gU P T N L E σ h K)))
     |false=>iE P T o f [] (λd=>aR N o.dst d f (gU P T N L E σ h K)))else False
   |false=>aR N o.dst (.v undef) f (gU P T N L E σ h K)
def YM(P:Program)(T:TypeId->Option TI)(r:Option Nat)(n:Nat)(df:Nat)(N:Nat)(L:List Oper):List Nat->(aM->af->Prop)->aM->af->Prop
 |[],K,f,σ=>K f σ
 |k::l,K,f,σ=>match L[k]? with
  |none=>False
  |some o=>w5 P T r n df N L [o] (λa σ'=>match o.dst with
    |none=>YM P T r n df N L l K f σ'
    |some i=>match gn a i with
     |none=>False
     |some d=>bif Nat.blt i N then YM P T r n df N L l K ((i,d)::f) σ' else False) (jc (o.looksAt L.toArray) f) σ
structure Dm(b:Bool)(A B:Prop):Prop where
 run:(b=true/\A)\/B
def nG(P:Program)(T:TypeId->Option TI)(r:Option Nat)(n:Nat)(df:Nat)(N:Nat)(L:List Oper)(K:aM->af->Prop)(B:Prop)(f:aM)(σ:af):Prop:=
 Dm (mxB L) (gU P T N L (Qm L) σ (Hy L) (λa=>YM P T r n df N L (YQ L) K a σ) f) B
def Fi(P:Program)(T:TypeId->Option TI)(r:Option Nat)(n:Nat)(df:Nat)(N:Nat)(L:List Oper)(k:Nat)(K:aM->af->Prop)(f:aM)(σ:af):Prop:=match L[k]? with
  |none=>False
  |some o=>w5 P T r n df N L [o] (λa σ'=>match o.dst with
    |none=>K f σ'
    |some i=>match gn a i with
     |none=>False
     |some d=>bif Nat.blt i N then K ((i,d)::f) σ' else False) (jc (o.looksAt L.toArray) f) σ
def I1(P:Program)(T:TypeId->Option TI)(r:Option Nat)(n:Nat)(df:Nat)(N:Nat)(L:List Oper)(K:aM->af->Prop):lV->aM->af->Prop
 |.done,f,σ=>K f σ
 |.one i t,f,σ=>Fi P T r n df N L i (I1 P T r n df N L K t) f σ
 |.two i t j u,f,σ=>Fi P T r n df N L i (I1 P T r n df N L K t) f σ/\Fi P T r n df N L j (I1 P T r n df N L K u) f σ
 |.three i t j u k v,f,σ=>Fi P T r n df N L i (I1 P T r n df N L K t) f σ/\Fi P T r n df N L j (I1 P T r n df N L K u) f σ/\Fi P T r n df N L k (I1 P T r n df N L K v) f σ
def lP(P:Program)(T:TypeId->Option TI)(r:Option Nat)(n:Nat)(df:Nat)(N:Nat):Code->gJ->aM->af->Prop
 |.skip,Q,f,σ=>Q .normal f σ
 |.ret,Q,f,σ=>Q .ret f σ
 |.exit id,Q,f,σ=>Q (.exit id) f σ
 |.seq x y,Q,f,σ=>lP P T r n df N x (l5 (lP P T r n df N y Q) Q) f σ
 |.cond c x y,Q,f,σ=>match aK f c with
  |.v (.bool t)=>Bc t (lP P T r n df N x Q f σ) (lP P T r n df N y Q f σ) (Lp P r n df N (.cond c x y) Q f σ)
  |_=>False
 |.block id b,Q,f,σ=>lP P T r n df N b (D8 id Q) f σ
 |.region id o d,Q,f,σ=>match d with
  |false=>w5 P T r n df N o.toList o.toList (Q .normal) f σ
  |true=>match DE o.toList with
   |none=>Dr (Region.lexB .any o) (J4 P T N o.toList σ o.toList (λa=>Q .normal a σ) f) (Lp P r n df N (.region id o true) Q f σ)
   |some m=>match o.toList[m]? with
    |none=>False
    |some e=>match e.op with
     |.alloc t0=>(match DE (o.toList.drop (m+1))with
      |none=>Dr (Region.lexTailB .any o m) (J4 P T N o.toList σ (o.toList.take m) (λa=>w5 P T r n df N o.toList (o.toList.drop m) (Q .normal) a σ) f) (nG P T r n df N o.toList (Q .normal) (Lp P r n df N (.region id o true) Q f σ) f σ)
      |some g=>match e.dst with
       |none=>False
       |some s=>match T t0 with
        |none=>False
        |some i=>bif Nat.beq i.zero.length i.size&&Nat.blt 0 i.size&&Nat.blt s N&&j8 s m o.toList 0&&e.guard.isNone then
          Dr (Region.lexTailB .any o (m+1+g)) (LQ P T N o.toList σ s t0 (o.toList.take (m+1+g)) (λa=>oI (i.zero.map λz=>.v (zv z)) λh=>∀b,w5 P T r n df N o.toList (o.toList.drop (m+1+g)) (Q .normal) ((s,.v (.pointer (some ⟨b,0,none⟩)))::a) ((b,.cells t0 h)::σ)) f) (nG P T r n df N o.toList (Q .normal) (Lp P r n df N (.region id o true) Q f σ) f σ)
         else False)
     |_=>Dr (Region.lexTailB .any o m) (J4 P T N o.toList σ (o.toList.take m) (λa=>w5 P T r n df N o.toList (o.toList.drop m) (Q .normal) a σ) f) (nG P T r n df N o.toList (Q .normal) (Lp P r n df N (.region id o true) Q f σ) f σ)
 |.loop b,Q,f,σ=>Lp P r n df N (.loop b) Q f σ
 |c,Q,f,σ=>Lp P r n df N c Q f σ
section
variable {P:Program} {r:Option Nat} {n:Nat} {df:Nat} {N:Nat} {σ:af} {a:List D} {f:aM} {T:TypeId->Option TI} {L:List Oper}
theorem aH9{q L:List D->Prop}{s:Array Oper}(h:∀a,q a->L a):∀{l:List Oper}{a:List D},qT none P s σ q l a->qT none P s σ L l a
 |[],a,b=>h _ b
 |o::l,a,b=>by
  rcases b with⟨e,c,d,g,f⟩|⟨e,c⟩
  .exact .inl ⟨e,c,d,g,aH9 h f⟩
  .exact .inr ⟨e,aH9 h c⟩
theorem jQ{q L:List D->Prop}{o:Array Oper}{l:List Oper}(b:qT none P o σ q l a)(h:∀a,q a->L a):Qa P o σ L l a:=⟨aH9 h b⟩
theorem n7{c:Array Oper}{Q:eY}{s t:af}{o:Oper}{b:List Oper}{g:FuncId}{B:List D}{R:D->af->Prop}{ρ:Operand->D}(G:gb c a o=some true)(H:iR o.op=true)(l:∀x,Le (gV a x) (ρ x))(h:jL o.op ρ=some (g,B))(z:az P g B s R)
  (k:∀d f,R d f->bP P r n df c Q b (aF a o.dst d) (f++t)):bP P r n df c Q (o::b) a (s++t):=by
 refine oM G H λw X L i=>?_;obtain⟨vs,A,I⟩:=nU (P:=P) (w:=w) (ρ:=ρ) h z.ent (λx _=>l x _ _ _ (i.fr.eval x));rw[I];refine⟨rfl,(z.run w _ vs ⟨A.len,λj d u q p=>rX (A.at_ j d u q p)⟩ i.st.left).mono ?_⟩;rintro e C ⟨u,d,f,q,p,K,J,m⟩;obtain⟨F,E,y,v⟩:=stays i.st J m;exact⟨u,q,d,f++t,E,(⟨i.fr.keep m.keep.size y v,F,i.df.keep m.keep.size y v⟩:St C X df a (f++t) L).put (GW K) o.dst,k d f p⟩
theorem wq(m:∀t i,T t=some i->aD P t=some i){s:Array Oper}{Q:eY}{o:Oper}{c:List Oper}{t e:TypeId}{i j:TI}{E:Bool}{k g:Nat}(u:gb s a o=some true)(l:o.op= .buildSlice t 0 #[])(y:T t=some i)(B:i.sl=some (e,E,k,g))(C:T e=some j)
  (q:j.zero.length=j.size) (G:j.size=k) (F:0<k) (p:∀b,bP P r n df s Q c (aF a o.dst (.v (.slice (some ⟨b,0,none⟩) 0 0))) σ):bP P r n df s Q (o::c) a σ:=by
 refine oM u (by rw[l];rfl) λw X D A=>?_;obtain⟨x,d,_⟩:=x7 (m t i y) B;have h:=(qP d w).2;obtain⟨z,I,H⟩:=Pg (m e j C) q (by omega) w;have f:(Array.range 0:Array Nat)= #[]:=rfl;have e0:(execOp D.eval o).run P w= .ok (.value (.slice (some ⟨w.heap.size,0,none⟩) 0 0)) (w.alloc (.cells #[] e)):=by
  simp only[execOp,l];simp[Instr.buildSlice,run_underlying x,h,Result.andThen,newRow,newObj,Sem.run,f,Instr.fill]
 rw[e0];have hx:Ex w (w.alloc (.cells #[] e)):=(Ex.refl w).alloc;exact⟨_,σ,jx hx,(A.ex hx).put (.v _) o.dst,p _⟩
theorem Mv.wider{w w':World}{s t u:af}(h:Mv w s w' u)(k:∀b,b∈aQ s->b∈aQ t):Mv w t w' u:=
 ⟨h.keep.mono (λb _ a=>k b a),λb a=>(h.new b a).imp (k b) id⟩
theorem Mv.fewer{w w':World}{s t u:af}(h:Mv w s w' u)(k:∀b,b∈aQ t->b∈aQ u):Mv w s w' t:=
 ⟨h.keep,λb a=>h.new b (k b a)⟩
def zV:=@List.append_assoc
def yT:=@List.perm_append_comm
theorem DT{p:Prop}(h:p:=by
 rw[←zV,←zV];exact yT.append_right _):p:=h
def xQ:=@List.Sublist.refl
theorem lp(V:∀t i,T t=some i->aD P t=some i){l:Array Oper}{Q:eY}{s u τ:af}{o:Oper}{g:List Oper}{p x:Operand}{t e:TypeId}{i j:TI}{ag:Bool}{k H:Nat}{xs ys:List (List D)}{v:Value}(hw:gb l a o=some true)
  (U:o.op= .call { callee:=.builtin .append,args:=#[p,x],argTypes:=#[t,t] }) (ht:T t=some i) (hi:i.sl=some (e,ag,k,H)) (he:T e=some j) (hz:j.zero.length=j.size) (hp:0<k) (hk:j.size=k)
  (R:gV a p= .v v) (hx:(gV a x= .sl k ys/\u=[])\/∃L,gV a x= .v L/\ae e k ys L u) (hr:ae e k xs v s) (h1:∀y∈ys,y.all dH=true) (f:(xs.length+ys.length)*H<=140737488355328) (hm:xs.length+ys.length<=1000000000)
  (E:(∀C z,ae e k (xs++ys) C z->bP P r n df l Q g (aF a o.dst (.v C)) (z++τ))\/bP P r n df l Q g (aF a o.dst (.sl k (xs++ys))) τ):bP P r n df l Q (o::g) a (s++(u++τ)):=by
 refine oM hw (by rw[U];rfl) λw X K m=>?_;have hv:=(m.fr.eval p).val R;have d:(s++τ).Sublist (s++(u++τ)):=(xQ s).append (wI _ _);have q:∀b,b∈aQ (s++τ)->b∈aQ (s++(u++τ)):=λb f=>(d.map Prod.fst).subset f;have F:aU w X (s++τ):=m.st.sub d;have hu:Rd w (ay (s++τ) X) (.sl k ys) (K.eval x):=by
  have B:=m.fr.eval x;rcases hx with⟨hx,rfl⟩|⟨L,hx,N⟩
  .rw[hx]at B;exact B
  .rw[hx]at B;have B:=B.val rfl;rw[B];refine Mn N (m.st.perm ?_);exact DT
 obtain⟨C,I,z,g1,W,g3,G⟩:=qH (ty:=o.type) (V t i ht) hi (V e j he) hz hp hk hr F.left (rX hu) h1 f (by unfold maxLen;omega);have ee:(execOp K.eval o).run P w= .ok (.value C) I:=by
  simp only[execOp,U,resolve,invoke,builtin,Sem.run_bind,Sem.run_pure,Result.andThen,vD,List.map_cons,List.map_nil,hv,g1]
 rw[ee];obtain⟨M,S,Z,Y⟩:=stays F g3 G;have O:∀b,b<w.heap.size->¬ay (s++(u++τ)) X b->¬ay (z++τ) X b:=λb f A=>Z b f (qO d b A);have J:∀b,b<w.heap.size->¬ay (s++(u++τ)) X b->I.heap[b]?=w.heap[b]?:=λb f A=>Y b f (qO d b A);rcases E with E|E
 .exact⟨_,_,S.wider q,(⟨m.fr.keep G.keep.size O J,M,m.df.keep G.keep.size O J⟩:St I X df a (z++τ) K).put (.v _) o.dst,E C z W⟩
 .have c:τ.Sublist (z++τ):=wI _ _;refine⟨_,_,(S.wider q).fewer (λb f=>(c.map Prod.fst).subset f),?_,E⟩;exact(⟨m.fr.keep G.keep.size (λb f A=>qO c b (O b f A)) J,M.sub c,m.df.keep G.keep.size (λb f A=>qO c b (O b f A)) J⟩:St I X df a τ K).put (Mn W M) o.dst
theorem PH{o:Oper}{K:Bool->Prop}(h:Iu L f o K)(s:Sp N a f):∃go,gb L.toArray a o=some go/\K go:=by
 unfold Iu at h;split at h
 .rename_i g;exact⟨true,by simp only[gb,g],h⟩
 .rename_i j w g;split at h
  .exact h.elim
  .rename_i m l;split at h
   .exact h.elim
   .rename_i t k;have e:(L.toArray[j]?).bind (·.dst)=some t:=by simp[l,k]
    split at h
    .rename_i x hx;have i:a[t]?=some (.v x):=by
      rcases s.at_ t _ hx with d|d
      .cases d
      .exact d
     split at h
     .rename_i b;have c:gb L.toArray a o=some (b==w):=by simp only[gb,g,e,i]
      split at h<;>cases b
      .exact⟨false,c,h.no rfl⟩
      .exact⟨true,c,h.yes rfl⟩
      .exact⟨true,c,h.no rfl⟩
      .exact⟨false,c,h.yes rfl⟩
     .exact⟨false,by simp only[gb,g,e,i],h⟩
     .exact h.elim
    .exact h.elim
theorem aF0(e:∀t i,T t=some i->aD P t=some i):∀{l:List Oper}{K:aM->Prop}{f:aM}{a:List D},J4 P T N L σ l K f->Sp N a f->qT none P L.toArray σ (λp=>∃c,Sp N p c/\K c) l a
 |[],K,f,a,h,s=>⟨f,s,h⟩
 |o::r,K,f,a,h,s=>by
  obtain⟨go,w,j⟩:=PH (K:=λgo=>match go with
   |true=>bif iR o.op then iE P T o f σ (λd=>aR N o.dst d f (J4 P T N L σ r K))else False
   |false=>aR N o.dst (.v undef) f (J4 P T N L σ r K)) h s
  cases go with
  |true=>
   obtain⟨n,m⟩:=g7 j;obtain⟨d,y,k⟩:=Mj e m;obtain⟨c,b,g⟩:=fE k s;exact .inl ⟨w,n,d,.of (y.le s.le),aF0 e g b⟩
  |false=>
   obtain⟨c,b,g⟩:=fE j s;exact .inr ⟨w,aF0 e g b⟩
theorem Z4(n:∀t i,T t=some i->aD P t=some i){s:Nat}{t0:TypeId}:∀{l:List Oper}{K:aM->Prop}{f:aM}{a:List D},LQ P T N L σ s t0 l K f->Sp N a f->qT (some (s,t0)) P L.toArray σ (λB=>∃m,Sp N B m/\K m) l a
 |[],K,f,a,h,g=>⟨f,g,h⟩
 |o::r,K,f,a,h,g=>by
  obtain⟨go,w,x⟩:=PH (K:=λgo=>match go with
   |true=>bif iR o.op then
     (bif qk (some (s,t0)) o then(match o.op with
      |.alloc t=>bif Nat.beq t t0 then aR N o.dst .any f (LQ P T N L σ s t0 r K)else False
      |_=>False)
     else iE P T o f σ (λd=>aR N o.dst d f (LQ P T N L σ s t0 r K)))else False
   |false=>aR N o.dst (.v undef) f (LQ P T N L σ s t0 r K)) h g
  cases go with
  |true=>
   obtain⟨u,e⟩:=g7 x
   cases b:qk (some (s,t0)) o with
   |true=>
    rw[b]at e;simp only[cond_true]at e;split at e
    .rename_i t p;obtain⟨z,q⟩:=g7 e;have:=yH z;subst this;obtain⟨m,c,k⟩:=fE q g;have j:o.dst=some s:=by
      unfold qk at b;simp only at b;split at b
      .rename_i i A;have:=yH b;subst this;exact A
      .cases b
     exact .inl ⟨w,u,.any,.inr ⟨b,⟨s,t,rfl,p,j⟩,rfl⟩,Z4 n k c⟩
    .exact e.elim
   |false=>
    rw[b]at e;simp only[cond_false]at e;obtain⟨d,y,q⟩:=Mj n e;obtain⟨m,c,k⟩:=fE q g;exact .inl ⟨w,u,d,.inl ⟨b,y.le g.le⟩,Z4 n k c⟩
  |false=>
   obtain⟨m,c,k⟩:=fE x g;exact .inr ⟨w,Z4 n k c⟩
theorem bc5{s idx:Nat}:∀{l:List Oper}{c:Nat},j8 s idx l c=true->∀(j:Nat)o,l[j]?=some o->o.dst=some s->c+j=idx
 |[],c,_,j,o,h,_=>by simp at h
 |x::l,c,u,j,o,h,d=>by
  simp only[j8,zJ]at u
  cases j with
  |zero=>
   simp at h;subst h;rw[d]at u;have a:=u.1;simp only[Nat.beq_refl,cond_true]at a;exact yH a
  |succ j=>
   have:=bc5 u.2 j o (by simpa using h) d;omega
theorem az1{f:Option (Nat×TypeId)}{q L:List D->Prop}{s:Array Oper}(h:∀a,q a->L a):∀{l:List Oper}{a:List D},qT f P s σ q l a->qT f P s σ L l a
 |[],a,b=>h _ b
 |o::l,a,b=>by
  rcases b with⟨e,c,d,i,g⟩|⟨e,c⟩
  .exact .inl ⟨e,c,d,i,az1 h g⟩
  .exact .inr ⟨e,az1 h c⟩
theorem Sp.set(h:Sp N a f){s:Nat}{d:D}(c:s<N):Sp N (a.set s d) ((s,d)::f):=by
 have:=fE (dst:=some s) (d:=d) (K:=λb=>b=(s,d)::f) (by simp[aR,c]) h;obtain⟨b,e,rfl⟩:=this;exact e
theorem v1{d:D}{K:List D->Prop}(h:D3 d K):PK d=true/\d ≠ .any/\K (gF d):=by
 cases d with
 |any=>exact h.elim
 |agg c=>exact⟨rfl,(λh=>by cases h),th h⟩
 |v x=>
  refine⟨rfl,(λh=>by cases h),?_⟩
  cases x<;>first|exact th h|exact h
 |sl k s=>exact⟨rfl,(λh=>by cases h),h⟩
 |ro c=>exact⟨rfl,(λh=>by cases h),h⟩
 |tup a=>exact⟨rfl,(λh=>by cases h),h⟩
 |clo g c=>exact⟨rfl,(λh=>by cases h),h⟩
 |gl g=>exact⟨rfl,(λh=>by cases h),h⟩
 |ifc t d=>exact⟨rfl,(λh=>by cases h),h⟩
 |mth n d=>exact⟨rfl,(λh=>by cases h),h⟩
theorem Is(hT:∀t i,T t=some i->aD P t=some i){o:Oper}{K:aM->af->Prop}{u:List Oper}{Q:eY}(hn:iR o.op=true)(h:It P T r n df N L o f σ K)(C:Sp N a f)(M:gb L.toArray a o=some true)
  (I:∀q σ' a',K q σ'->Sp N a' q->bP P r n df L.toArray Q u a' σ'):bP P r n df L.toArray Q (o::u) a σ:=by
 have Z:iE P T o f σ (λd=>aR N o.dst d f (λq=>K q σ))->bP P r n df L.toArray Q (o::u) a σ:=λh=>by
  obtain⟨d,hy,F⟩:=Mj hT h;obtain⟨q,l,D⟩:=fE F C;exact te M hn (hy.le C.le) (I _ _ _ D l)
 have E:ci P r n df L N o f σ K->bP P r n df L.toArray Q (o::u) a σ:=λh=>h.run u Q a C M I;have G:∀{x:Operand}{v:Value},aK f x= .v v->gV a x= .v v:=λh=>C.eq h (λh=>by cases h);unfold It at h;split at h
 .rename_i t H;split at h
  .exact h.elim
  .rename_i i hi;obtain⟨B,J⟩:=g7 h;simp only[zJ,wT]at B;have F:=th (K:=λcs=>∀b,aR N o.dst (.v (.pointer (some ⟨b,0,none⟩))) f (λq=>K q ((b,.cells t cs)::σ))) J;refine qK hT M H hi (yH B.1) B.2 (λb=>?_);obtain⟨q,l,D⟩:=fE (F b) C;exact I _ _ _ D l
 .rename_i t p x H;split at h
  .exact h.elim
  .rename_i i hi;split at h
   .rename_i b off hp;obtain⟨g1,g2,g3⟩:=v1 h;obtain⟨j,tb,cs,σ',k1,k2,k3,k4,kp,k5⟩:=g3.run;obtain⟨q,l,D⟩:=fE k5 C;have hx:=C.eq (x:=x) rfl g2;exact qJ hT M H hi (G hp) hx k1 g1 k2 rfl (by omega) k4 (Ji kp (I _ _ _ D l))
   .exact h.elim
 .rename_i t x y H;obtain⟨e,i,j,ag,by_,m,z,B,J,F,D,h5,h6,h7,V,h9,Y⟩:=(lx (K:=λdy=>Mk T σ t (aK f x) dy λd σ'=>aR N o.dst d f (λq=>K q σ')) (lx (K:=λdx=>bS (aK f y) λdy=>Mk T σ t dx dy λd σ'=>aR N o.dst d f (λq=>K q σ')) h)).run;refine wp hT M H (G h6) (G h7) B J F D h5 V h9 (λb=>?_);obtain⟨q,l,X⟩:=fE (Y b) C;exact I _ _ _ X l
 .rename_i c H;split at h
  .rename_i hc;split at h
   .rename_i p x t t' e2 e3
    cases O:Nat.beq t t' with
    |false=>rw[O]at h;exact E h
    |true=>
    rw[O]at h;have w:Bx _ _:=h;rcases w.run.symm with w|w
    .exact E w
    have w:=lx (K:=λdx=>Ap P T σ (aK f p) dx t λd σ'=>aR N o.dst d f (λq=>K q σ')) (lx (K:=λdp=>bS (aK f x) λdx=>Ap P T σ dp dx t λd σ'=>aR N o.dst d f (λq=>K q σ')) w);have:=yH O;subst this;obtain⟨e,i,j,ag,k,by_,xs,ys,v,s,s2,τ,B,J,F,D,h5,h6,h7,V,h9,Y,X,h12,h13,A⟩:=w.run;have ho':o.op= .call { callee:=.builtin .append,args:=#[p,x],argTypes:=#[t,t] }:=by
     obtain⟨callee,args,ats⟩:=c;simp only at hc e2 e3;have g2:args= #[p,x]:=by apply wJ;simpa using e2
     have g3:ats= #[t,t]:=by apply wJ;simpa using e3
     rw[H,hc,g2,g3]
    refine Ji Y (lp hT M ho' B J F D h5 h6 (G h7) ?_ h9 X h12 h13 ?_)
    .rcases V with⟨V,U⟩|⟨v2,V,U⟩
     .exact .inl ⟨C.eq V (λh=>by cases h),U⟩
     .exact .inr ⟨v2,G V,U⟩
    .rcases A with A|A
     .refine .inl (λv' s' hr=>?_);obtain⟨σ',S,A⟩:=A v' s' hr;obtain⟨q,l,W⟩:=fE A C;exact Ji S (I _ _ _ W l)
     .obtain⟨q,l,W⟩:=fE A C;exact .inr (I _ _ _ W l)
   .exact h.elim
  .exact E h
  .split at h
   .rename_i g ds hc;have h:=th (K:=λds=>CE P g ds σ λd σ'=>bS d λd=>aR N o.dst d f (λq=>K q σ')) h;obtain⟨s,t,R,B,J,F⟩:=h.run;refine Ji B (n7 M hn C.le hc J (λd s' hr=>?_));obtain⟨σ',S,F⟩:=F d s' hr;obtain⟨q,l,D⟩:=fE (lx F) C;exact Ji S (I _ _ _ D l)
   .exact h.elim
  .exact Z h
 .rename_i t m ps H;split at h
  .split at h
   .exact h.elim
   .rename_i i hi;split at h
    .exact h.elim
    .rename_i e ag k by_ hsl;split at h
     .exact h.elim
     .rename_i j hj;obtain⟨B,J⟩:=g7 h;simp only[zJ]at B;have hps:ps= #[]:=by have:=B.2;apply wJ;simpa using this
      subst hps;refine wq hT M H hi hsl hj (yH B.1.1.1) (yH B.1.1.2) (by simpa [wT]using B.1.2) (λb=>?_);obtain⟨q,l,D⟩:=fE (J b) C;exact I _ _ _ D l
  .exact h.run.elim Z E
 .split at h
  .split at h
   .exact E h
   .exact Z h
  .exact Z h
 .exact E h
 .exact E h
 .exact E h
 .exact E h
 .exact E h
 .exact E h
 .exact h.run.elim Z E
 .exact Z h
theorem QT(e:∀t i,T t=some i->aD P t=some i){Q:eY}:∀{l:List Oper}{K:aM->af->Prop}{f:aM}{σ:af}{a:List D},w5 P T r n df N L l K f σ->Sp N a f->(∀d σ' g,K d σ'->Sp N g d->Q .normal g σ')->bP P r n df L.toArray Q l a σ
 |[],K,f,σ,a,h,s,k=>n6 (k f σ a h s)
 |o::b,K,f,σ,a,h,s,k=>by
  obtain⟨go,w,j⟩:=PH (K:=λgo=>match go with
   |true=>bif iR o.op then It P T r n df N L o f σ (w5 P T r n df N L b K)else False
   |false=>aR N o.dst (.v undef) f (λd=>w5 P T r n df N L b K d σ)) h s
  cases go with
  |true=>
   obtain⟨m,u⟩:=g7 j;exact Is e m u s w (λd σ' g q c=>QT e q c k)
  |false=>
   obtain⟨d,c,p⟩:=fE j s;exact wo w (QT e p c k)
theorem aQ7{L:List Tmp}:∀{f:aM}{i:Nat}{d:D},gn (jc L f) i=some d->gn f i=some d/\i∈L
 |[],i,d,h=>by simp[jc,gn]at h
 |(j,e)::f,i,d,h=>by
  simp only[jc]at h
  cases b:L.any (Nat.beq j)with
  |true=>
   rw[b]at h;simp only[cond_true,gn]at h⊢
   cases a:Nat.beq j i with
   |true=>
    rw[a]at h;simp only[cond_true,xB]at h;have:=yH a;subst this h;obtain⟨k,l,c⟩:=wC.1 b;have:=yH c;subst this;exact⟨rfl,l⟩
   |false=>
    rw[a]at h;exact aQ7 h
  |false=>
   rw[b]at h;simp only[cond_false]at h;obtain⟨m,g⟩:=aQ7 h;simp only[gn]
   cases a:Nat.beq j i with
   |true=>
    have:=yH a;subst this;have:L.any (Nat.beq j)=true:=wC.2 ⟨j,g,by simp⟩;rw[b]at this;cases this
   |false=>exact⟨m,g⟩
theorem Sp.cut(h:Sp N a f)(L:List Tmp):Sp N (only L a) (jc L f):=by
 refine⟨by rw[mW];exact h.len,λi d c=>?_⟩;obtain⟨g,e⟩:=aQ7 c;rcases h.at_ i d g with b|b
 .exact .inl b
 .exact .inr (by simp[only,List.getElem?_mapIdx,b,e])
theorem PQ(e:∀t i,T t=some i->aD P t=some i):∀{s:List Nat}{E:Nat->Bool}{K:aM->Prop}{f:aM}{a:List D},gU P T N L E σ s K f->Sp N a f->i8 P .any L.toArray E (λr σ'=>σ'=σ/\∃j,Sp N r j/\K j) s a σ
 |[],E,K,f,a,h,s=>⟨rfl,f,s,h⟩
 |i::l,E,K,f,a,h,s=>by
  unfold gU at h;split at h
  .exact h.elim
  .rename_i o q;have c:L.toArray[i]?=some o:=by simpa using q
   obtain⟨go,w,p⟩:=PH (K:=λgo=>match go with
    |true=>bif iR o.op then
      (match se o f with
      |true=>Cb (IY .any L.toArray E i) (iE P T o f σ (λd=>aR N o.dst d f (gU P T N L E σ l K)))
      |false=>iE P T o f [] (λd=>aR N o.dst d f (gU P T N L E σ l K)))else False
    |false=>aR N o.dst (.v undef) f (gU P T N L E σ l K)) h s
   cases go with
   |true=>
    obtain⟨n,k⟩:=g7 p;split at k
    .obtain⟨d,y,m⟩:=Mj e k.k;obtain⟨j,b,g⟩:=fE m s;exact⟨o,d,c,.inl ⟨k.s,.inl ⟨w,n,.of (y.le s.le)⟩⟩,PQ e g b⟩
    .obtain⟨d,y,m⟩:=Mj e k;obtain⟨j,b,g⟩:=fE m s;exact⟨o,d,c,.inr (.inl ⟨w,n,.of (y.le s.le)⟩),PQ e g b⟩
   |false=>
    obtain⟨j,b,g⟩:=fE p s;exact⟨o,_,c,.inr (.inr ⟨w,rfl⟩),PQ e g b⟩
theorem Yq{p:Prop}(h:p:=by
 rw[hd]at h';simp only at h';split at h'
 .exact h'.elim
 .rename_i d hf';obtain⟨hi,h2⟩:=g7 h';rw[wT]at hi;have hia:i<a'.length:=by rw[hs'.len];exact hi
  refine⟨a'[i],λj hj _=>by cases hj;exact zD hia,hk _ _ _ h2 ?_⟩;refine⟨by simp[aF,hs.len],λj d' hj=>?_⟩;simp only[gn]at hj
  cases he:Nat.beq i j with
  |true=>
   rw[he]at hj;simp only[cond_true,xB]at hj;have:=yH he;subst this hj;rcases hs'.at_ i _ hf' with h3|h3
   .exact .inl h3
   .right;rw[zD hia]at h3;simp only[xB]at h3;simp[aF,hs.len,hi,h3]
  |false=>
   rw[he]at hj;have hne:i≠j:=λe=>by subst e;simp at he
   rcases hs.at_ j d' hj with h1|h1
   .exact .inl h1
   .exact .inr (by simp[aF,xP,hne,h1])):p:=h
theorem L0(l:∀t i,T t=some i->aD P t=some i){E:Nat->Bool}{k:Nat}{K:aM->af->Prop}{G:List D->af->Prop}(m:E k=true)(h:Fi P T r n df N L k K f σ)(hs:Sp N a f)
  (hk:∀c σ' a',K c σ'->Sp N a' c->G a' σ'):db P r n df L.toArray E k G a σ:=by
 unfold Fi at h;split at h
 .exact h.elim
 .rename_i o g;have b:L.toArray[k]?=some o:=by simpa using g
  unfold db;rw[b];simp only[m];refine QT l h (hs.cut _) (λc σ' a' h' hs'=>⟨rfl,by rw[hs'.len,hs.len],?_⟩)
  cases hd:o.dst with
  |none=>
   rw[hd]at h';exact⟨.any,(λi hi=>by cases hi),hk _ _ _ h' hs⟩
  |some i=>exact Yq
theorem bh2(d:∀t i,T t=some i->aD P t=some i):∀{l:List Nat}{K:aM->af->Prop}{f:aM}{σ:af}{a:List D},(∀k∈l,Qm L k=true)->YM P T r n df N L l K f σ->Sp N a f->CV P r n df L.toArray (Qm L) (λe σ'=>∃c,Sp N e c/\K c σ') l a σ
 |[],K,f,σ,a,E,h,s=>⟨f,s,h⟩
 |k::l,K,f,σ,a,E,h,s=>by
  have m:Fi P T r n df N L k (YM P T r n df N L l K) f σ:=h;exact L0 d (E k (by simp)) m s (λc σ' e j b=>bh2 d (λk g=>E k (by simp[g])) j b)
def xu(p:Nat->Bool):lV->Bool
 |.done=>true
 |.one i t=>p i&&xu p t
 |.two i t j u=>p i&&(xu p t&&(p j&&xu p u))
 |.three i t j u k v=>p i&&(xu p t&&(p j&&(xu p u&&(p k&&xu p v))))
theorem Ph(d:∀t i,T t=some i->aD P t=some i){E:Nat->Bool}:∀{t:lV}{K:aM->af->Prop}{f:aM}{σ:af}{a:List D},xu E t=true->I1 P T r n df N L K t f σ->Sp N a f->gT P r n df L.toArray E (λl σ'=>∃g,Sp N l g/\K g σ') t a σ
 |.done,K,f,σ,a,c,h,s=>⟨f,s,h⟩
 |.one i t,K,f,σ,a,c,h,s=>by
  simp only[xu,zJ]at c;exact L0 d c.1 h s (λg σ' l e b=>Ph d c.2 e b)
 |.two i t j u,K,f,σ,a,c,h,s=>by
  simp only[xu,zJ]at c;exact⟨L0 d c.1 h.1 s (λg σ' l e b=>Ph d c.2.1 e b),L0 d c.2.2.1 h.2 s (λg σ' l e b=>Ph d c.2.2.2 e b)⟩
 |.three i t j u k v,K,f,σ,a,c,h,s=>by
  simp only[xu,zJ]at c;exact⟨L0 d c.1 h.1 s (λg σ' l e b=>Ph d c.2.1 e b),L0 d c.2.2.1 h.2.1 s (λg σ' l e b=>Ph d c.2.2.2.1 e b),L0 d c.2.2.2.2.1 h.2.2 s (λg σ' l e b=>Ph d c.2.2.2.2.2 e b)⟩
theorem Y0{E:Nat->Bool}{s:Array Oper}{K e:List D->af->Prop}(h:∀a σ,K a σ->e a σ):∀{b:List Nat}{a:List D},i8 P .any s E K b a σ->i8 P .any s E e b a σ
 |[],a,c=>h _ _ c
 |i::b,a,c=>let ⟨o,d,h1,h2,h3⟩:=c;⟨o,d,h1,h2,Y0 h h3⟩
theorem nF(m:P.follows .mixedOrders=true)(g:∀t i,T t=some i->aD P t=some i){id:Nat}{Q:gJ}(h:nG P T r n df N L (Q .normal) (Lp P r n df N (.region id L.toArray true) Q f σ) f σ)(s:Sp N a f):dQ P r n df (.region id L.toArray true) (sy N Q) a σ:=by
 rcases h.run with⟨b,d⟩|h
 .unfold mxB at b;rw[zJ]at b;refine bi0 (Qm L) (Hy L) (YQ L) m (yH b.1) b.2 (Y0 (λl σ' e=>?_) (PQ g d s));obtain⟨rfl,j,c,e⟩:=e;exact bh2 g (λk d=>wC.2 ⟨k,d,by simp⟩) e c
 .exact h.run a s
theorem LY(H:P.follows .mixedOrders=true)(u:∀t i,T t=some i->aD P t=some i):∀{c:Code}{Q:gJ}{f:aM}{σ:af}{a:List D},lP P T r n df N c Q f σ->Sp N a f->dQ P r n df c (sy N Q) a σ:=by
 intro c
 induction c with
 |skip=>intro Q f σ a h g;exact Ed ⟨f,g,h⟩
 |ret=>intro Q f σ a h g;exact I4 ⟨f,g,h⟩
 |exit id=>intro Q f σ a h g;exact Ee ⟨f,g,h⟩
 |seq x y B A=>
  intro Q f σ a h g;refine I3 (LV (B h g) ?_);rintro e F σ' ⟨q,d,k⟩
  cases e<;>first|exact A k d|exact⟨q,d,k⟩
 |cond c x y B A=>
  intro Q f σ a h g;simp only[lP]at h;split at h
  .rename_i t ht;rcases h.run with h|h
   .exact wb (g.eq ht (λh=>by cases h)) (λe=>B (h.yes e) g) (λe=>A (h.no e) g)
   .exact h.run a g
  .exact h.elim
 |block id b M=>
  intro Q f σ a h g;refine wg (LV (M h g) ?_);rintro e F σ' ⟨q,d,k⟩
  cases e with
  |exit O=>
   simp only[D8]at k;simp only[qz]
   cases z:Nat.beq O id with
   |true=>rw[z]at k;rw[if_pos (yH z)];exact⟨q,d,k⟩
   |false=>rw[z]at k;rw[if_neg (λe=>by subst e;simp at z)];exact⟨q,d,k⟩
  |_=>exact⟨q,d,k⟩
 |region id J I=>
  intro Q f σ a h g;obtain⟨l⟩:=J;simp only[lP]at h
  cases I with
  |false=>exact qC (QT (L:=l) u h g (λq σ' F k d=>⟨q,d,k⟩))
  |true=>
   simp only at h;split at h
   .rcases h.run with⟨z,E⟩|h
    .exact Eg H z (jQ (aF0 (L:=l) u E g) (λF⟨q,d,k⟩=>⟨q,d,k⟩))
    .exact h.run a g
   .rename_i m he;have G:Dr (Region.lexTailB .any l.toArray m) (J4 P T N l σ (l.take m) (λq=>w5 P T r n df N l (l.drop m) (Q .normal) q σ) f) (nG P T r n df N l (Q .normal) (Lp P r n df N (.region id l.toArray true) Q f σ) f σ)->dQ P r n df (.region id l.toArray true) (sy N Q) a σ:=λh=>by
     rcases h.run with⟨z,E⟩|C
     .refine bb4 m H z (jQ (aF0 (L:=l) u E g) (λF⟨q,d,k⟩=>?_));exact QT (L:=l) u k d (λq σ' F k d=>⟨q,d,k⟩)
     .exact nF H u C g
    split at h
    .exact h.elim
    .rename_i o0 U;split at h
     .rename_i t0 S;split at h
      .exact G h
      .rename_i X he2;split at h
       .exact h.elim
       .rename_i s W;split at h
        .exact h.elim
        .rename_i ti R;obtain⟨Y,E⟩:=g7 h;simp only[zJ,wT]at Y;obtain⟨⟨⟨⟨c1,c2⟩,Z⟩,c4⟩,c5⟩:=Y;rcases E.run with⟨V,E⟩|C
         .refine bh9 (m+1+X) m s t0 o0 u R (yH c1) c2 H V U (by omega) S W (by simpa using c5) (λj o hj hd=>by have:=bc5 c4 j o hj hd;omega) (by rw[g.len];exact Z)
           (az1 (λF⟨q,d,k⟩=>⟨by rw[d.len,g.len],λb=>?_⟩) (Z4 (L:=l) u E g))
          have h2:=th (K:=λcs=>∀b,w5 P T r n df N l (l.drop (m+1+X)) (Q .normal) ((s,.v (.pointer (some ⟨b,0,none⟩)))::q) ((b,.cells t0 cs)::σ)) k b;exact QT (L:=l) u h2 (d.set Z) (λq σ' F k d=>⟨q,d,k⟩)
         .exact nF H u C g
     .exact G h
 |loop b M=>intro Q f σ a h g;exact h.run a g
 |rangeFunc x p s b ih1 ih2=>intro Q f σ a h g;exact h.run a g
 |scope b M=>intro Q f σ a h g;exact h.run a g
 |label l=>intro Q f σ a h g;exact h.run a g
 |goto l=>intro Q f σ a h g;exact h.run a g
 |refuse w=>intro Q f σ a h g;exact h.run a g
end
end
section
open Go Go.RowKit Go.Shelf
structure W(p:Prop):Prop where
 h:p
def S9:Nat->List Nat->Bool
 |_,[]=>false
 |i,j::l=>bif Nat.beq i j then true else S9 i l
def qt:List Nat->aM->aM
 |_,[]=>[]
 |j,(i,d)::f=>bif S9 i j then qt j f else(i,d)::qt (i::j) f
def E3:Code->List Nat
 |.region _ o _=>o.toList.filterMap (·.dst)
 |.seq x y=>E3 x++E3 y
 |.cond _ x y=>E3 x++E3 y
 |.block _ b=>E3 b
 |.loop b=>E3 b
 |.rangeFunc _ p x y=>p.toList++(E3 x++E3 y)
 |.scope b=>E3 b
 |_=>[]
def gC(c:Code)(f:aM)(p:aM):aM:=p++qt (p.map Prod.fst++E3 c) f
def dK(f F:aM):Prop:=F.map (λp=>gn f p.1)=F.map (λp=>some p.2)
def Fj:aM->(aM->Prop)->Prop
 |[],K=>K []
 |(i,d)::f,K=>Fj f λf=>K ((i,d)::f)
theorem Pu:∀{f:aM}{K:aM->Prop},Fj f K->K f
 |[],_,h=>h
 |(i,d)::f,K,h=>Pu (K:=λf=>K ((i,d)::f)) h
def yQ:=@List.mem_cons_of_mem
theorem aP2:∀{f:aM}{i:Nat}{d:D},gn f i=some d->(i,d)∈f
 |[],i,d,h=>by simp[gn]at h
 |(j,e)::f,i,d,h=>by
  simp only[gn]at h
  cases b:Nat.beq j i with
  |true=>rw[b]at h;simp at h;have:=yH b;subst this h;simp
  |false=>rw[b]at h;exact yQ _ (aP2 h)
theorem D2{f F:aM}(h:dK f F){i:Nat}{d:D}(l:gn F i=some d):gn f i=some d:=by
 have m:=aP2 l;unfold dK at h;obtain⟨j,b⟩:=yO m;have a:(F.map (λp=>gn f p.1))[j]?=(F.map (λp=>some p.2))[j]?:=by rw[h]
 simp[b]at a;exact a
theorem Sp.sub{N:Nat}{a:List D}{f F:aM}(s:Sp N a f)(h:dK f F):Sp N a F:=
 ⟨s.len,λi d b=>s.at_ i d (D2 h b)⟩
section
variable {P:Program} {r:Option Nat} {n:Nat} {df:Nat} {N:Nat} {σ:af} {a:List D} {f:aM} {T:TypeId->Option TI} {Q:gJ}
theorem fW(w:P.follows .mixedOrders=true)(x:∀t i,T t=some i->aD P t=some i){c:Code}{γ:Type}(p:γ->aM)(S:γ->af)(I:γ->Prop)(μ:γ->Nat)(b:γ)
  (D:dK f (gC c f (p b))) (C:σ=S b) (B:I b)
  (A:∀g,I g->W (Fj (gC c f (p g)) λF=>lP P T r n df N c (l5 (λk σ'=>∃d,dK k (gC c f (p d))/\σ'=S d/\I d/\μ d < μ g) Q) F (S g))) :
  Lp P r n df N (.loop c) Q f σ:=by
 refine⟨λa v=>?_⟩;refine bb3 (λm a σ=>∃g,μ g=m/\I g/\Sp N a (gC c f (p g))/\σ=S g) (μ b) ⟨b,rfl,B,v.sub D,C⟩ ?_;rintro m a σ ⟨g,rfl,z,y,rfl⟩;refine LV (LY w x (Pu (A g z).h) y) ?_;rintro e E σ' ⟨k,j,l⟩
 cases e with
 |normal=>obtain⟨d,u,s,q,o⟩:=l;exact⟨μ d,o,d,rfl,q,j.sub u,s⟩
 |_=>exact⟨k,j,l⟩
structure Vs(σ:af)(d:D)(σ':af)(d':D):Prop where
 run:∀(w:World)(X:Nat->Prop)(u:Value),aU w X σ->Rd w (ay σ X) d u->aU w X σ'/\Rd w (ay σ' X) d' u
 sub:∀b,b∈aQ σ'->b∈aQ σ
theorem Vs.refl(σ:af)(d:D):Vs σ d σ d:=⟨λ_ _ _ b a=>⟨b,a⟩,λ_ h=>h⟩
theorem Vs.le{σ:af}{d d':D}(h:Le d d'):Vs σ d σ d':=⟨λ_ _ _ b a=>⟨b,h _ _ _ a⟩,λ_ h=>h⟩
theorem Vs.trans{σ σ' σ'':af}{d d' a:D}(h:Vs σ d σ' d')(k:Vs σ' d' σ'' a):Vs σ d σ'' a:=
 ⟨λw X u f e=>let ⟨g1,g2⟩:=h.run w X u f e;k.run w X u g1 g2,λb c=>h.sub b (k.sub b c)⟩
structure Rt(R:D->af->Prop)(d:D)(σ:af):Prop where
 run:∃d' σ',Vs σ d σ' d'/\R d' σ'
theorem az.vs{P:Program}{g:FuncId}{args:List D}{σ:af}{R:D->af->Prop}(h:az P g args σ (λd σ'=>Rt R d σ')):az P g args σ R:=
 ⟨h.ent,λw X vs v s=>(h.run w X vs v s).mono λe f⟨u,d,σ',m,⟨n,σ'',c,l⟩,k,j,a⟩=>
  let ⟨g1,g2⟩:=c.run f X u j k;⟨u,n,σ'',m,l,g2,g1,a.keep,λb i=>a.new b (c.sub b i)⟩⟩
structure Rs(P:Program)(N:Nat)(fn:Func)(f:aM)(σ:af)(K:D->Prop):Prop where
 run:∃d,(∀a,Sp N a f->dD P fn a σ d)/\K d
def sM(P:Program)(N:Nat)(n:Func)(f:aM)(σ:af)(K:D->Prop):Prop:=
 match n.results.toList with
 |[]=>K (.v (.tuple #[]))
 |[.tmp i]=>bS (aK f (.tmp i)) K
 |[.tmp i,.tmp j]=>bS (aK f (.tmp i)) λd=>bS (aK f (.tmp j)) λe=>K (.tup [d,e])
 |[.tmp i,.tmp j,.tmp k]=>bS (aK f (.tmp i)) λd=>bS (aK f (.tmp j)) λe=>bS (aK f (.tmp k)) λg=>K (.tup [d,e,g])
 |[.tmp l,.tmp h,.tmp c,.tmp b,.tmp a]=>bS (aK f (.tmp l)) λd1=>bS (aK f (.tmp h)) λd2=>bS (aK f (.tmp c)) λd3=>bS (aK f (.tmp b)) λd4=>bS (aK f (.tmp a)) λd5=>K (.tup [d1,d2,d3,d4,d5])
 |_=>Rs P N n f σ K
def NA(P:Program)(N:Nat)(n:Func)(R:D->af->Prop):gJ
 |.ret,f,σ=>sM P N n f σ λd=>Rt R d σ
 |.normal,f,σ=>sM P N n f σ λd=>Rt R d σ
 |_,_,_=>False
theorem dD.le{f:Func}{d d':D}(h:dD P f a σ d)(l:Le d d'):dD P f a σ d':=λw X t b s=>let ⟨u,h1,h2⟩:=h w X t b s;⟨u,h1,l _ _ _ h2⟩
theorem qL(h:Sp N a f)(i:Nat):Le (a.getD i (.v undef)) (aK f (.tmp i)):=h.le (.tmp i)
theorem aU5{d:D}{K:D->Prop}:bS d K=K d:=by cases d<;>rfl
theorem AX{n:Func}{i1 i2 i3:Tmp}(h:n.results= #[.tmp i1,.tmp i2,.tmp i3]) :
  dD P n a σ (.tup [a.getD i1 (.v undef),a.getD i2 (.v undef),a.getD i3 (.v undef)]):=λw X t f _=>by
 refine⟨.tuple #[t.getD i1 undef,t.getD i2 undef,t.getD i3 undef],by simp[results,h],?_⟩;have:=bb.cons (jR f i1) (bb.cons (jR f i2) (bb.cons (jR f i3) bb.nil));exact .tup _ _ this.len this.at_
theorem nD{n:Func}{K:D->Prop}(h:sM P N n f σ K)(s:Sp N a f):∃d,dD P n a σ d/\K d:=by
 unfold sM at h;split at h
 .rename_i e;exact⟨_,AZ (by apply wJ;simpa using e),h⟩
 .rename_i i e;exact⟨_,(GT (i:=i) (by apply wJ;simpa using e)).le (qL s i),lx h⟩
 .rename_i i j e;refine⟨_,(AY (i:=i) (j:=j) (by apply wJ;simpa using e)).le (YP (.cons (qL s i) (.cons (qL s j) .nil))),?_⟩;exact lx (K:=λe=>K (.tup [_,e])) (lx (K:=λd=>bS (aK f (.tmp j)) λe=>K (.tup [d,e])) h)
 .rename_i i j k e;simp only[aU5]at h;exact⟨_,(AX (i1:=i) (i2:=j) (i3:=k) (by apply wJ;simpa using e)).le (YP (.cons (qL s i) (.cons (qL s j) (.cons (qL s k) .nil)))),h⟩
 .rename_i m l g c b e;simp only[aU5]at h;exact⟨_,(AW (i1:=m) (i2:=l) (i3:=g) (i4:=c) (i5:=b) (by apply wJ;simpa using e)).le (YP (.cons (qL s m) (.cons (qL s l) (.cons (qL s g) (.cons (qL s c) (.cons (qL s b) .nil)))))),h⟩
 .obtain⟨d,p,o⟩:=h.run;exact⟨d,p a s,o⟩
def wm:List D->aM
 |[]=>[]
 |[a]=>[(0,a)]
 |[a,b]=>[(0,a),(1,b)]
 |[a,b,c]=>[(0,a),(1,b),(2,c)]
 |[a,b,c,d]=>[(0,a),(1,b),(2,c),(3,d)]
 |[a,b,c,d,e]=>[(0,a),(1,b),(2,c),(3,d),(4,e)]
 |[a,b,c,d,e,g]=>[(0,a),(1,b),(2,c),(3,d),(4,e),(5,g)]
 |[a,b,c,d,e,g,h]=>[(0,a),(1,b),(2,c),(3,d),(4,e),(5,g),(6,h)]
 |[a,b,c,d,e,g,h,i]=>[(0,a),(1,b),(2,c),(3,d),(4,e),(5,g),(6,h),(7,i)]
 |_=>[]
theorem I'(l m:List D):∀i d,gn (wm l) i=some d->d= .any\/(l++m)[i]?=some d:=by
 intro i d h;right;have k:∀p∈wm l,(l++m)[p.1]?=some p.2:=by
  unfold wm;split<;>simp
 exact k _ (aP2 h)
theorem DC(m:P.follows .mixedOrders=true)(o:∀t i,T t=some i->aD P t=some i){g:FuncId}{f:Func}{c:Code}{args:List D}{R:D->af->Prop}(k:P.funcs[g]?=some f)(a:(f.name == "runtime.NumGoroutine")=false)(n:f.body=some c)(p:f.ntmps=N)(l:Nat.ble args.length N=true)
  (h:∀B,W (lP P T none 9 B N c (NA P N f R) (wm args) σ)):az P g args σ R:=by
 refine az.vs (lA k a n λB=>(LV (LY m o (h B).h ⟨by rw[vL]at l;simp[p];omega,I' _ _⟩) ?_));rintro e r σ' ⟨q,b,j⟩
 cases e with
 |ret=>exact nD (K:=λd=>Rt R d σ') j b
 |normal=>exact nD (K:=λd=>Rt R d σ') j b
 |_=>exact j.elim
end
section
variable {P:Program} {σ:af} {A B:Prop} {T:TypeId->Option TI}
theorem Bc.l{t:Bool}{C:Prop}(h:Br t A B):Bc t A B C:=⟨.inl h⟩
theorem Bc.j{t:Bool}{C:Prop}(h:C):Bc t A B C:=⟨.inr h⟩
theorem Bx.l(h:W A):Bx A B:=⟨.inl h.h⟩
theorem Bx.r(h:B):Bx A B:=⟨.inr h⟩
theorem ZR(h:W A):Br true A B:=⟨λ_=>h.h,(λe=>by cases e)⟩
theorem ZQ(h:W B):Br false A B:=⟨(λe=>by cases e),λ_=>h.h⟩
theorem Br.t{t:Bool}(e:t=true)(h:W A):Br t A B:=by subst e;exact ZR h
theorem Br.f{t:Bool}(e:t=false)(h:W B):Br t A B:=by subst e;exact ZQ h
def yJ:=@decide_eq_true
theorem S2{p:Prop}[Decidable p](e:p)(h:W A):Br (decide p) A B:=Br.t (yJ e) h
def yE:=@decide_eq_false
theorem Br.df{p:Prop}[Decidable p](e:¬p)(h:W B):Br (decide p) A B:=Br.f (yE e) h
def wY:=@of_decide_eq_true
theorem Br.d{p:Prop}[Decidable p](h:p->W A)(k:¬p->W B):Br (decide p) A B:=⟨λe=>(h (wY e)).h,λe=>(k (of_decide_eq_false e)).h⟩
theorem Br.n{t:Bool}(h:Br t B A):Br (!t) A B:=⟨λe=>h.no (by simpa using e),λe=>h.yes (by simpa using e)⟩
theorem Br.b{t:Bool}(h:t=true->W A)(k:t=false->W B):Br t A B:=⟨λe=>(h e).h,λe=>(k e).h⟩
theorem Br.eq{t a:Bool}(e:t=a)(h:Br a A B):Br t A B:=by subst e;exact h
theorem Sd.eq{s a:Prop}(e:s=a)(h:Sd a A):Sd s A:=by subst e;exact h
theorem Sd.go{s:Prop}(h:s)(k:W A):Sd s A:=⟨h,k.h⟩
theorem Ck.go{b:Bool}(h:b=true)(k:W A):Ck b A:=⟨h,k.h⟩
theorem Dm.l{b:Bool}(h:b=true)(k:W A):Dm b A B:=⟨.inl ⟨h,k.h⟩⟩
theorem Dm.r{b:Bool}(k:W B):Dm b A B:=⟨.inr k.h⟩
theorem Cb.go{b:Bool}(h:b=true)(k:W A):Cb b A:=⟨h,k.h⟩
theorem Dr.l{b:Bool}(h:b=true)(k:W A):Dr b A B:=⟨.inl ⟨h,k.h⟩⟩
theorem Dr.r{b:Bool}(k:W B):Dr b A B:=⟨.inr k.h⟩
theorem Ix.map{α:Type}{g:α->List D}{l:List α}{j:Int}{K:List D->Prop}(a:0<=j/\j<l.length)(h:∀y,l[j.toNat]?=some y->W (K (g y))):Ix (l.map g) j K:=by
 have t:j.toNat<l.length:=by omega
 exact⟨a.1,_,by rw[qA,zD t];rfl,(h _ (zD t)).h⟩
structure a7(p:Prop):Prop where
 run:p
theorem Ix.mapM{α:Type}{g:α->List D}{l:List α}{j:Int}{K:List D->Prop}(a:0<=j/\j<l.length)(h:a7 (∀y,l[j.toNat]?=some y->W (K (g y)))):Ix (l.map g) j K:=Ix.map a h.run
theorem S1{α:Type}{g:α->List D}{l:List α}{j:Int}{y:α}{K:List D->Prop}(a:l[j.toNat]?=some y)(b:0<=j)(h:W (K (g y))):Ix (l.map g) j K:=
 ⟨b,_,by rw[qA,a];rfl,h.h⟩
theorem Ix.at{xs:List (List D)}{j:Int}{cs:List D}{K:List D->Prop}(y:xs[j.toNat]?=some cs)(a:0<=j)(h:W (K cs)):Ix xs j K:=⟨a,cs,y,h.h⟩
theorem Ld.at{o:Oper}{ρ:Operand->D}{b f:Nat}{a:Bool}{sz:Nat}{K:D->Prop}(j:Nat){tb:TypeId}{cs:List D}{d:D}(g:σ[j]?=some (b,.cells tb cs))(e:Nat.ble (f+sz) cs.length=true)(c:m4 a ((cs.drop f).take sz)=d)(h:W (K d)):Ld P o ρ σ b f a sz K:=
 ⟨.inl ⟨j,tb,cs,g,by rwa [vL]at e,by rw[c];exact h.h⟩⟩
theorem Ld.yd{b f:Nat}{a:Bool}{sz:Nat}{K:D->Prop}{o:Oper}{ρ:Operand->D}{d:D}(h:Yd P o ρ σ d)(k:W (K d)):Ld P o ρ σ b f a sz K:=⟨.inr ⟨d,h,k.h⟩⟩
def xA:=@List.Perm.of_eq
theorem Sv.at{b o:Nat}{new:List D}{sz:Nat}{K:af->Prop}(j:Nat){tb:TypeId}{cs:List D}{σ':af}(f:σ[j]?=some (b,.cells tb cs))(e:new.length=sz)(d:Nat.ble (o+sz) cs.length=true)(c:new.all dH=true)(a:σ.set j (b,.cells tb (ft cs o new))=σ')(h:W (K σ')):Sv σ b o new sz K:=
 ⟨j,tb,cs,σ',f,e,by rwa [vL]at d,c,xA a,h.h⟩
def yN:=@List.mem_cons_self
def xW:=@List.set_eq_take_append_cons_drop
theorem Sv.perm{b o:Nat}{new:List D}{sz:Nat}{K:af->Prop}{tb:TypeId}{cs cs':List D}{τ:af}(d:σ.Perm ((b,.cells tb cs)::τ))(n:new.length=sz)(m:o+sz<=cs.length)(k:new.all dH=true)(i:ft cs o new=cs')(h:W (K ((b,.cells tb cs')::τ))):Sv σ b o new sz K:=by
 obtain⟨j,c⟩:=yO (d.mem_iff.2 (yN (a:=(b,aE.cells tb cs))));obtain⟨l,e⟩:=zE.1 c;refine⟨j,tb,cs,_,c,n,m,k,?_,h.h⟩;rw[i];have q:σ=σ.take j++(b,aE.cells tb cs)::σ.drop (j+1):=by
  rw[←e,List.getElem_cons_drop,vF]
 have p:σ.set j (b,aE.cells tb cs')=σ.take j++(b,aE.cells tb cs')::σ.drop (j+1):=by
  rw[xW,if_pos l]
 have g:σ.Perm ((b,aE.cells tb cs)::(σ.take j++σ.drop (j+1))):=by
  refine(xA q).trans List.perm_middle
 have f:τ.Perm (σ.take j++σ.drop (j+1)):=(List.perm_cons _).1 (d.symm.trans g);rw[p];exact List.perm_middle.trans (List.Perm.cons _ f.symm)
theorem Ld.mem{b f:Nat}{a:Bool}{sz:Nat}{K:D->Prop}{o:Oper}{ρ:Operand->D}{tb:TypeId}{cs:List D}{d:D}(i:(b,aE.cells tb cs)∈σ)(g:f+sz<=cs.length)(e:m4 a ((cs.drop f).take sz)=d)(h:W (K d)):Ld P o ρ σ b f a sz K:=by
 obtain⟨j,c⟩:=yO i;exact⟨.inl ⟨j,tb,cs,c,g,by rw[e];exact h.h⟩⟩
theorem Ot.yd{o:Oper}{ρ:Operand->D}{K:D->Prop}{d:D}(h:Yd P o ρ σ d)(k:W (K d)):Ot P o ρ σ K:=⟨d,h,k.h⟩
theorem Cp.by{g:FuncId}{args:List D}{K:D->Prop}{d:D}(h:APure P g args d)(k:W (K d)):Cp P g args σ K:=⟨d,h.pk,k.h⟩
theorem Cp.pk{g:FuncId}{args:List D}{K:D->Prop}{d:D}(h:gK P g args σ d)(k:W (K d)):Cp P g args σ K:=⟨d,h,k.h⟩
theorem APure.call{g:FuncId}{args:List D}{d:D}(h:APure P g args d):az P g args [] (λi b=>i=d/\b=[]):=
 ⟨h.ent,λw X vs v s=>(h.run w (ay [] X) vs v s.gok).mono λe j⟨u,f,c,a⟩=>⟨u,d,[],f,⟨rfl,rfl⟩,c,s.ex a,jx a⟩⟩
theorem cb.call{g:FuncId}{args:List D}{R:D->Prop}(h:cb P g args R):az P g args [] (λj b=>R j/\b=[]):=
 ⟨h.ent,λw X vs v s=>(h.run w (ay [] X) vs v s.gok).mono λe k⟨u,d,i,f,c,a⟩=>⟨u,d,[],i,⟨f,rfl⟩,c,s.ex a,jx a⟩⟩
def zH:=@List.Perm.refl
theorem CE.pure{g:FuncId}{args:List D}{K:D->af->Prop}{d:D}(h:APure P g args d)(k:W (K d σ)):CE P g args σ K:=
 ⟨[],σ,_,zH _,h.call,λc s⟨b,a⟩=>by subst b a;exact⟨σ,zH _,k.h⟩⟩
theorem CE.some{g:FuncId}{args:List D}{K:D->af->Prop}{R:D->Prop}(h:cb P g args R)(k:∀d,R d->W (K d σ)):CE P g args σ K:=
 ⟨[],σ,_,zH _,h.call,λc s⟨b,a⟩=>by subst a;exact⟨σ,zH _,(k _ b).h⟩⟩
theorem gK.call{g:FuncId}{args:List D}{d:D}(h:gK P g args σ d):az P g args σ (λi b=>i=d/\b=σ):=
 ⟨h.ent,λw X vs v s=>(h.run w X vs v s).mono λe j⟨u,f,c,a⟩=>⟨u,d,σ,f,⟨rfl,rfl⟩,c,s.ex a,jx a⟩⟩
theorem CE.pk{g:FuncId}{args:List D}{K:D->af->Prop}{d:D}(h:gK P g args σ d)(k:W (K d σ)):CE P g args σ K:=
 ⟨σ,[],_,by simp,h.call,λc s⟨b,a⟩=>by subst b a;exact⟨_,by simp,k.h⟩⟩
theorem ba{g:FuncId}{args:List D}{s t:af}{K:D->af->Prop}{R:D->af->Prop}(h:az P g args s R)(p:σ.Perm (s++t))(f:af->af)(q:∀a,(a++t).Perm (f a))(k:∀d a,R d a->W (K d (f a))):CE P g args σ K:=⟨s,t,R,p,h,λd a r=>⟨_,q a,(k d a r).h⟩⟩
theorem Rt.by{R:D->af->Prop}{d d':D}{σ':af}(h:Vs σ d σ' d')(k:R d' σ'):Rt R d σ:=⟨d',σ',h,k⟩
theorem Rt.same{R:D->af->Prop}{d:D}(k:R d σ):Rt R d σ:=⟨d,σ,Vs.refl _ _,k⟩
theorem Rt.pure{d d':D}(h:d=d'):Rt (λx _=>x=d') d σ:=⟨d',σ,by rw[h];exact Vs.refl _ _,rfl⟩
theorem Rt.le{d d':D}(h:Le d d'):Rt (λx _=>x=d') d σ:=⟨d',σ,Vs.le h,rfl⟩
theorem Rt.vs{d d':D}{σ':af}(h:Vs σ d σ' d'):Rt (λx _=>x=d') d σ:=⟨d',σ',h,rfl⟩
end
theorem Br.d2{p:Prop}[Decidable p]{A B:Prop}(h:(p->W A)/\(¬p->W B)):Br (decide p) A B:=Br.d h.1 h.2
theorem Br.b2{t:Bool}{A B:Prop}(h:(t=true->W A)/\(t=false->W B)):Br t A B:=Br.b h.1 h.2
theorem aT{A B:Prop}(k:B)(h:ar B->A:=by intro q7;(first|(with_reducible refine Br.d2 ?_)|(with_reducible refine Br.b2 ?_));exact q7.1):A:=h ⟨k⟩
end
end Go.Proofs.YtilnpcolgcmofaaGreatDoor
