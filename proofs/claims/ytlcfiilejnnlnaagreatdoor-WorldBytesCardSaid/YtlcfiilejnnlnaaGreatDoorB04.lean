/- A part of the proof: Ey Ez Ew TyQ Probs. -/
import Derived.Test.YtlcfiilejnnlnaaGreatDoorB03
set_option maxRecDepth 100000
set_option maxHeartbeats 20000000
set_option linter.unusedVariables false
set_option linter.unusedSimpArgs false
namespace Go.Proofs.YtlcfiilejnnlnaaGreatDoor
section
open Go Go.RowKit Go.Shelf
def exG (L:List Oper) (f:Frm) (o:Oper) (K:Bool→Prop):Prop:=
 match o.guard with
 | none=>K true
 | some (j,want)=>match L[j]? with
  | none=>False
  | some o'=>match o'.dst with
   | none=>False
   | some t=>match am5 f t with
    | some (.v x)=>match x with
     | .bool b=>(match want with|true=>Br b (K true) (K false)|false=>Br b (K false) (K true))
     | .tuple _=>K false
     | _=>False
    | _=>False
def aC3 (P:Program) (T:TypeId→Option TI) (N:Nat) (L:List Oper) (σ:aa1):List Oper→(Frm→Prop)→Frm→Prop
 | [],K,f=>K f
 | o :: rest,K,f=>exG L f o fun go=>match go with
  | true=>bif ag7 o.op then exY P T o f σ (fun d=>putK N o.dst d f (aC3 P T N L σ rest K)) else False
  | false=>putK N o.dst (.v undef) f (aC3 P T N L σ rest K)
def ax0 (P:Program) (T:TypeId→Option TI) (N:Nat) (L:List Oper) (σ:aa1) (s:Nat) (t0:TypeId):List Oper→(Frm→Prop)→Frm→Prop
 | [],K,f=>K f
 | o :: rest,K,f=>exG L f o fun go=>match go with
  | true=>bif ag7 o.op then
    (bif isAl (some (s,t0)) o then (match o.op with
     | .alloc t=>bif Nat.beq t t0 then putK N o.dst .any f (ax0 P T N L σ s t0 rest K) else False
     | _=>False)
    else exY P T o f σ (fun d=>putK N o.dst d f (ax0 P T N L σ s t0 rest K))) else False
  | false=>putK N o.dst (.v undef) f (ax0 P T N L σ s t0 rest K)
def bh7 (s idx:Nat):List Oper→Nat→Bool
 | [],_=>true
 | o :: l,cur=>(match o.dst with|some i=>bif Nat.beq i s then Nat.beq cur idx else true|none=>true) && bh7 s idx l (cur+1)
def bO5 (d:D) (K:List D→Prop):Prop:=match d with
 | .any=>False
 | .agg cs=>as0 cs K
 | .v x=>match x with
  | .agg vs=>as0 (vs.toList.map .v) K
  | y=>K [.v y]
 | d=>K [d]
structure Sv (σ:aa1) (b off:Nat) (new:List D) (sz:Nat) (K:aa1→Prop):Prop where
 run:∃ (j:Nat) (tb:TypeId) (cs:List D) (σ':aa1),σ[j]?=some (b,.cells tb cs)∧new.length=sz∧off+sz≤cs.length∧new.all oneD=true∧(σ.set j (b,.cells tb (spl cs off new))).Perm σ'∧K σ'
structure CE (P:Program) (g:FuncId) (args:List D) (σ:aa1) (K:D→aa1→Prop):Prop where
 run:∃ (s t:aa1) (R:D→aa1→Prop),σ.Perm (s ++ t)∧ACall P g args s R∧∀ d s',R d s'→∃ σ',(s' ++ t).Perm σ'∧K d σ'
structure Ap (P:Program) (T:TypeId→Option TI) (σ:aa1) (p x:D) (t:TypeId) (K:D→aa1→Prop):Prop where
 run:∃ (e:TypeId) (i j:TI) (ag:Bool) (k by_:Nat) (xs ys:List (List D)) (v:Value) (s s2 τ:aa1),T t=some i∧i.sl=some (e,ag,k,by_)∧T e=some j∧j.zero.length=j.size∧0<k∧j.size=k ∧
  p = .v v∧((x = .sl k ys∧s2=[])∨∃ v2,x = .v v2∧RowIs e k ys v2 s2)∧RowIs e k xs v s∧σ.Perm (s ++ (s2 ++ τ))∧(∀ y∈ys,y.all oneD=true)∧(xs.length+ys.length)*by_≤140737488355328∧xs.length+ys.length≤1000000000 ∧
  ((∀ v' s',RowIs e k (xs ++ ys) v' s'→∃ σ',(s' ++ τ).Perm σ'∧K (.v v') σ')∨K (.sl k (xs ++ ys)) τ)
structure Mk (T:TypeId→Option TI) (σ:aa1) (t:TypeId) (x y:D) (K:D→aa1→Prop):Prop where
 run:∃ (e:TypeId) (i j:TI) (ag:Bool) (by_ m:Nat) (z:ZV),T t=some i∧i.sl=some (e,ag,1,by_)∧T e=some j∧j.zero=[z]∧j.size=1∧x = .v (.int .i64 m)∧y = .v (.int .i64 m)∧by_*m≤281474976710656∧m≤1000000000 ∧
  ∀ b,K (.v (.slice (some ⟨b,0,none⟩) m m)) ((b,.cells e (List.replicate m (.v (zv z)))) :: σ)
structure OtE (P:Program) (r:Option Nat) (n:Nat) (df:Nat) (L:List Oper) (N:Nat) (o:Oper) (f:Frm) (σ:aa1) (K:Frm→aa1→Prop):Prop where
 run:∀ (rest:List Oper) (Q:Pst) (a:List D),Sp N a f→am4 L.toArray a o=some true→(∀ f' σ' a',K f' σ'→Sp N a' f'→AOps P r n df L.toArray Q rest a' σ')→AOps P r n df L.toArray Q (o :: rest) a σ
def exOp (P:Program) (T:TypeId→Option TI) (r:Option Nat) (n:Nat) (df:Nat) (N:Nat) (L:List Oper) (o:Oper) (f:Frm) (σ:aa1) (K:Frm→aa1→Prop):Prop:=
 match o.op with
 | .alloc t=>match T t with
  | none=>False
  | some i=>bif Nat.beq i.zero.length i.size && Nat.blt 0 i.size then as0 (i.zero.map fun z=>.v (zv z)) fun cs=>∀ b,putK N o.dst (.v (.pointer (some ⟨b,0,none⟩))) f (fun f'=>K f' ((b,.cells t cs) :: σ)) else False
 | .store t p x=>match T t with
  | none=>False
  | some i=>match evF f p with
   | .v (.pointer (some ⟨b,off,none⟩))=>bO5 (evF f x) fun new=>Sv σ b off new i.size fun σ'=>putK N o.dst (.v undef) f (fun f'=>K f' σ')
   | _=>False
 | .makeSlice t x y=>ab7 (evF f x) fun dx=>ab7 (evF f y) fun dy=>Mk T σ t dx dy fun d σ'=>putK N o.dst d f (fun f'=>K f' σ')
 | .call c=>match c.callee with
  | .builtin .append=>match c.args.toList,c.argTypes.toList with
   | [p,x],[t,t']=>bif Nat.beq t t' then Bx (ab7 (evF f p) fun dp=>ab7 (evF f x) fun dx=>Ap P T σ dp dx t fun d σ'=>putK N o.dst d f (fun f'=>K f' σ')) (OtE P r n df L N o f σ K) else OtE P r n df L N o f σ K
   | _,_=>False
  | .builtin .copy=>OtE P r n df L N o f σ K
  | .value _=>match bo7 o.op (evF f) with
   | some (g,ds)=>as0 ds fun ds=>CE P g ds σ fun d σ'=>ab7 d fun d=>putK N o.dst d f (fun f'=>K f' σ')
   | none=>False
  | _=>exY P T o f σ (fun d=>putK N o.dst d f (fun f'=>K f' σ))
 | .buildSlice t m ps=>match m with
  | 0=>match T t with
   | none=>False
   | some i=>match i.sl with
    | none=>False
    | some (e,_,k,_)=>match T e with
     | none=>False
     | some j=>bif Nat.beq j.zero.length j.size && Nat.beq j.size k && Nat.blt 0 k && ps.toList.isEmpty then ∀ b,putK N o.dst (.v (.slice (some ⟨b,0,none⟩) 0 0)) f (fun f'=>K f' σ) else False
  | _=>Bx (exY P T o f σ (fun d=>putK N o.dst d f (fun f'=>K f' σ))) (OtE P r n df L N o f σ K)
 | .binOp b _ _ y _=>match b with
  | .eql=>match evF f y with
   | .v (.slice none 0 0)=>OtE P r n df L N o f σ K
   | _=>exY P T o f σ (fun d=>putK N o.dst d f (fun f'=>K f' σ))
  | _=>exY P T o f σ (fun d=>putK N o.dst d f (fun f'=>K f' σ))
 | .makeMap _ _=>OtE P r n df L N o f σ K
 | .mapUpdate _ _ _ _=>OtE P r n df L N o f σ K
 | .mapEntry _ _ _=>OtE P r n df L N o f σ K
 | .entryStore _ _ _ _=>OtE P r n df L N o f σ K
 | .insert _ _ _ _=>OtE P r n df L N o f σ K
 | .lookup _ _ _ _=>OtE P r n df L N o f σ K
 | .box _ _=>Bx (exY P T o f σ (fun d=>putK N o.dst d f (fun f'=>K f' σ))) (OtE P r n df L N o f σ K)
 | _=>exY P T o f σ (fun d=>putK N o.dst d f (fun f'=>K f' σ))
def aE0 (P:Program) (T:TypeId→Option TI) (r:Option Nat) (n:Nat) (df:Nat) (N:Nat) (L:List Oper):List Oper→(Frm→aa1→Prop)→Frm→aa1→Prop
 | [],K,f,σ=>K f σ
 | o :: rest,K,f,σ=>exG L f o fun go=>match go with
  | true=>bif ag7 o.op then exOp P T r n df N L o f σ (aE0 P T r n df N L rest K) else False
  | false=>putK N o.dst (.v undef) f (fun f'=>aE0 P T r n df N L rest K f' σ)
abbrev Fst:=Exit→Frm→aa1→Prop
def bH1 (N:Nat) (Q:Fst):Pst:=fun e a σ=>∃ f,Sp N a f∧Q e f σ
def bs7 (next:Frm→aa1→Prop) (Q:Fst):Fst
 | .normal,f,σ=>next f σ
 | e,f,σ=>Q e f σ
def bO6 (id:Nat) (Q:Fst):Fst
 | .exit id',f,σ=>bif Nat.beq id' id then Q .normal f σ else Q (.exit id') f σ
 | e,f,σ=>Q e f σ
structure Lp (P:Program) (r:Option Nat) (n:Nat) (df:Nat) (N:Nat) (c:Code) (Q:Fst) (f:Frm) (σ:aa1):Prop where
 run:∀ a,Sp N a f→AWP P r n df c (bH1 N Q) a σ
structure Dr (b:Bool) (A B:Prop):Prop where
 run:(b=true∧A)∨B
def ch7:List Oper→Nat→List Nat→List Nat
 | [],_,acc=>acc
 | o :: l,i,acc=>ch7 l (i+1) (bif effO o.op || o.after.toList.any (fun e=>Region.binds .any e && acc.any (Nat.beq e.on)) then i :: acc else acc)
def aY0 (L:List Oper):List Nat:=(ch7 L 0 []).reverse
def mxE (L:List Oper) (i:Nat):Bool:=(aY0 L).any (Nat.beq i)
def mxHs (L:List Oper):List Nat:=(List.range L.length).filter fun i=>!mxE L i
def mxB (L:List Oper):Bool:=Nat.beq ((mxHs L).length+(aY0 L).length) L.length && mixB .any L.toArray (mxE L) (aY0 L) (mxHs L) (Array.replicate L.length false)
def cutF (L:List Tmp):Frm→Frm
 | []=>[]
 | (i,d) :: f=>bif L.any (Nat.beq i) then (i,d) :: cutF L f else cutF L f
def cf4 (o:Oper) (f:Frm):Bool:=match o.op with
 | .load _ p=>match evF f p with | .v _=>true | _=>false
 | .lookup _ _ _ _=>true
 | _=>false
structure Cb (b:Bool) (A:Prop):Prop where
 s:b=true
 k:A
def exHs (P:Program) (T:TypeId→Option TI) (N:Nat) (L:List Oper) (E:Nat→Bool) (σ:aa1):List Nat→(Frm→Prop)→Frm→Prop
 | [],K,f=>K f
 | i :: hs,K,f=>match L[i]? with
  | none=>False
  | some o=>exG L f o fun go=>match go with
   | true=>bif ag7 o.op then
     (match cf4 o f with
     | true=>Cb (barB .any L.toArray E i) (exY P T o f σ (fun d=>putK N o.dst d f (exHs P T N L E σ hs K)))
     | false=>exY P T o f [] (fun d=>putK N o.dst d f (exHs P T N L E σ hs K))) else False
   | false=>putK N o.dst (.v undef) f (exHs P T N L E σ hs K)
def aZ7 (P:Program) (T:TypeId→Option TI) (r:Option Nat) (n:Nat) (df:Nat) (N:Nat) (L:List Oper):List Nat→(Frm→aa1→Prop)→Frm→aa1→Prop
 | [],K,f,σ=>K f σ
 | k :: l,K,f,σ=>match L[k]? with
  | none=>False
  | some o=>aE0 P T r n df N L [o] (fun f' σ'=>match o.dst with
    | none=>aZ7 P T r n df N L l K f σ'
    | some i=>match am5 f' i with
     | none=>False
     | some d=>bif Nat.blt i N then aZ7 P T r n df N L l K ((i,d) :: f) σ' else False) (cutF (o.looksAt L.toArray) f) σ
structure Dm (b:Bool) (A B:Prop):Prop where
 run:(b=true∧A)∨B
def by8 (P:Program) (T:TypeId→Option TI) (r:Option Nat) (n:Nat) (df:Nat) (N:Nat) (L:List Oper) (K:Frm→aa1→Prop) (B:Prop) (f:Frm) (σ:aa1):Prop:=
 Dm (mxB L) (exHs P T N L (mxE L) σ (mxHs L) (fun f'=>aZ7 P T r n df N L (aY0 L) K f' σ) f) B
def ay6 (P:Program) (T:TypeId→Option TI) (r:Option Nat) (n:Nat) (df:Nat) (N:Nat) (L:List Oper) (k:Nat) (K:Frm→aa1→Prop) (f:Frm) (σ:aa1):Prop:=match L[k]? with
  | none=>False
  | some o=>aE0 P T r n df N L [o] (fun f' σ'=>match o.dst with
    | none=>K f σ'
    | some i=>match am5 f' i with
     | none=>False
     | some d=>bif Nat.blt i N then K ((i,d) :: f) σ' else False) (cutF (o.looksAt L.toArray) f) σ
def aU4 (P:Program) (T:TypeId→Option TI) (r:Option Nat) (n:Nat) (df:Nat) (N:Nat) (L:List Oper) (K:Frm→aa1→Prop):Ord→Frm→aa1→Prop
 | .done,f,σ=>K f σ
 | .one i t,f,σ=>ay6 P T r n df N L i (aU4 P T r n df N L K t) f σ
 | .two i t j u,f,σ=>ay6 P T r n df N L i (aU4 P T r n df N L K t) f σ∧ay6 P T r n df N L j (aU4 P T r n df N L K u) f σ
 | .three i t j u k v,f,σ=>ay6 P T r n df N L i (aU4 P T r n df N L K t) f σ∧ay6 P T r n df N L j (aU4 P T r n df N L K u) f σ∧ay6 P T r n df N L k (aU4 P T r n df N L K v) f σ
def am1 (P:Program) (T:TypeId→Option TI) (r:Option Nat) (n:Nat) (df:Nat) (N:Nat):Code→Fst→Frm→aa1→Prop
 | .skip,Q,f,σ=>Q .normal f σ
 | .ret,Q,f,σ=>Q .ret f σ
 | .exit id,Q,f,σ=>Q (.exit id) f σ
 | .seq x y,Q,f,σ=>am1 P T r n df N x (bs7 (am1 P T r n df N y Q) Q) f σ
 | .cond c x y,Q,f,σ=>match evF f c with
  | .v (.bool t)=>Bc t (am1 P T r n df N x Q f σ) (am1 P T r n df N y Q f σ) (Lp P r n df N (.cond c x y) Q f σ)
  | _=>False
 | .block id b,Q,f,σ=>am1 P T r n df N b (bO6 id Q) f σ
 | .region id ops draw,Q,f,σ=>match draw with
  | false=>aE0 P T r n df N ops.toList ops.toList (Q .normal) f σ
  | true=>match bY7 ops.toList with
   | none=>Dr (Region.lexB .any ops) (aC3 P T N ops.toList σ ops.toList (fun f'=>Q .normal f' σ) f) (Lp P r n df N (.region id ops true) Q f σ)
   | some m=>match ops.toList[m]? with
    | none=>False
    | some o0=>match o0.op with
     | .alloc t0=>(match bY7 (ops.toList.drop (m+1)) with
      | none=>Dr (Region.lexTailB .any ops m) (aC3 P T N ops.toList σ (ops.toList.take m) (fun f'=>aE0 P T r n df N ops.toList (ops.toList.drop m) (Q .normal) f' σ) f) (by8 P T r n df N ops.toList (Q .normal) (Lp P r n df N (.region id ops true) Q f σ) f σ)
      | some m2=>match o0.dst with
       | none=>False
       | some s=>match T t0 with
        | none=>False
        | some ti=>bif Nat.beq ti.zero.length ti.size && Nat.blt 0 ti.size && Nat.blt s N && bh7 s m ops.toList 0 && o0.guard.isNone then
          Dr (Region.lexTailB .any ops (m+1+m2)) (ax0 P T N ops.toList σ s t0 (ops.toList.take (m+1+m2)) (fun f'=>as0 (ti.zero.map fun z=>.v (zv z)) fun cs=>∀ b,aE0 P T r n df N ops.toList (ops.toList.drop (m+1+m2)) (Q .normal) ((s,.v (.pointer (some ⟨b,0,none⟩))) :: f') ((b,.cells t0 cs) :: σ)) f) (by8 P T r n df N ops.toList (Q .normal) (Lp P r n df N (.region id ops true) Q f σ) f σ)
         else False)
     | _=>Dr (Region.lexTailB .any ops m) (aC3 P T N ops.toList σ (ops.toList.take m) (fun f'=>aE0 P T r n df N ops.toList (ops.toList.drop m) (Q .normal) f' σ) f) (by8 P T r n df N ops.toList (Q .normal) (Lp P r n df N (.region id ops true) Q f σ) f σ)
 | .loop b,Q,f,σ=>Lp P r n df N (.loop b) Q f σ
 | c,Q,f,σ=>Lp P r n df N c Q f σ
section
variable {P:Program} {r:Option Nat} {n:Nat} {df:Nat} {N:Nat} {σ:aa1} {a:List D} {f:Frm} {T:TypeId→Option TI} {L:List Oper}
theorem aE4 {Lq Lq':List D→Prop} {ops:Array Oper} (h:∀ a,Lq a→Lq' a):∀ {l:List Oper} {a:List D},az7 none P ops σ Lq l a→az7 none P ops σ Lq' l a
 | [],a,hh=>h _ hh
 | o :: l,a,hh=>by
  rcases hh with ⟨h1,h2,d,h3,h4⟩|⟨h1,h2⟩
  ·exact .inl ⟨h1,h2,d,h3,aE4 h h4⟩
  ·exact .inr ⟨h1,aE4 h h2⟩
theorem bb6 {Lq Lq':List D→Prop} {ops:Array Oper} {l:List Oper} (hh:az7 none P ops σ Lq l a) (h:∀ a,Lq a→Lq' a):ALex P ops σ Lq' l a:=⟨aE4 h hh⟩
theorem bg2 {ops:Array Oper} {Q:Pst} {s t:aa1} {o:Oper} {rest:List Oper} {g:FuncId} {ds:List D} {R:D→aa1→Prop} {ρ:Operand→D} (hw:am4 ops a o=some true) (hn:ag7 o.op=true) (hle:∀ x,Le (evD a x) (ρ x)) (h:bo7 o.op ρ=some (g,ds)) (hc:ACall P g ds s R)
  (k:∀ d s',R d s'→AOps P r n df ops Q rest (putD a o.dst d) (s' ++ t)):AOps P r n df ops Q (o :: rest) a (s ++ t):=by
 refine ad7 hw hn fun w X fr hs=>?_
 obtain ⟨vs,h1,h2⟩:=bl6 (P:=P) (w:=w) (ρ:=ρ) h hc.ent (fun x _=>hle x _ _ _ (hs.fr.eval x))
 rw [h2]
 refine ⟨rfl,(hc.run w _ vs ⟨h1.len,fun j d u g1 g2=>bu0 (h1.at_ j d u g1 g2)⟩ hs.st.left).mono ?_⟩
 rintro e w' ⟨u,d,s',g1,g2,g3,g4,g5⟩
 obtain ⟨q1,q2,q3,q4⟩:=stays hs.st g4 g5
 exact ⟨u,g1,d,s' ++ t,q2,(⟨hs.fr.keep g5.keep.size q3 q4,q1,hs.df.keep g5.keep.size q3 q4⟩:St w' X df a (s' ++ t) fr).put (bS5 g3) o.dst,k d s' g2⟩
theorem bB5 (hT:∀ t i,T t=some i→tiOf P t=some i) {ops:Array Oper} {Q:Pst} {o:Oper} {rest:List Oper} {t e:TypeId} {i j:TI} {ag:Bool} {k by_:Nat} (hw:am4 ops a o=some true) (ho:o.op = .buildSlice t 0 #[]) (ht:T t=some i) (hi:i.sl=some (e,ag,k,by_)) (he:T e=some j)
  (hz:j.zero.length=j.size) (hk:j.size=k) (hp:0<k) (kk:∀ b,AOps P r n df ops Q rest (putD a o.dst (.v (.slice (some ⟨b,0,none⟩) 0 0))) σ):AOps P r n df ops Q (o :: rest) a σ:=by
 refine ad7 hw (by rw [ho];rfl) fun w X fr hs=>?_
 obtain ⟨hu,hsz,_⟩:=ag3 (hT t i ht) hi
 have hsz':=(ai7 hsz w).2
 obtain ⟨z,g1,g2⟩:=au0 (hT e j he) hz (by omega) w
 have hr0:(Array.range 0:Array Nat) = #[]:=rfl
 have e0:(execOp fr.eval o).run P w = .ok (.value (.slice (some ⟨w.heap.size,0,none⟩) 0 0)) (w.alloc (.cells #[] e)):=by
  simp only [execOp,ho]
  simp [Instr.buildSlice,run_underlying hu,hsz',Result.andThen,newRow,newObj,Sem.run,hr0,Instr.fill]
 rw [e0]
 have hx:Ex w (w.alloc (.cells #[] e)):=(Ex.refl w).alloc
 exact ⟨_,σ,Mv.of_ex hx,(hs.ex hx).put (.v _) o.dst,kk _⟩
theorem Mv.wider {w w':World} {s t u:aa1} (h:Mv w s w' u) (hk:∀ b,b∈ab4 s→b∈ab4 t):Mv w t w' u:=
 ⟨h.keep.mono (fun b _ hb=>hk b hb),fun b hb=>(h.new b hb).imp (hk b) id⟩
theorem Mv.fewer {w w':World} {s t u:aa1} (h:Mv w s w' u) (hk:∀ b,b∈ab4 t→b∈ab4 u):Mv w s w' t:=
 ⟨h.keep,fun b hb=>h.new b (hk b hb)⟩
theorem bb5 (hT:∀ t i,T t=some i→tiOf P t=some i) {ops:Array Oper} {Q:Pst} {s s2 τ:aa1} {o:Oper} {rest:List Oper} {p x:Operand} {t e:TypeId} {i j:TI} {ag:Bool} {k by_:Nat} {xs ys:List (List D)} {v:Value} (hw:am4 ops a o=some true)
  (ho:o.op = .call { callee:=.builtin .append,args:=#[p,x],argTypes:=#[t,t] }) (ht:T t=some i) (hi:i.sl=some (e,ag,k,by_)) (he:T e=some j) (hz:j.zero.length=j.size) (hp:0<k) (hk:j.size=k)
  (hpv:evD a p = .v v) (hx:(evD a x = .sl k ys∧s2=[])∨∃ v2,evD a x = .v v2∧RowIs e k ys v2 s2) (hr:RowIs e k xs v s) (h1:∀ y∈ys,y.all oneD=true) (hb:(xs.length+ys.length)*by_≤140737488355328) (hm:xs.length+ys.length≤1000000000)
  (kk:(∀ v' s',RowIs e k (xs ++ ys) v' s'→AOps P r n df ops Q rest (putD a o.dst (.v v')) (s' ++ τ))∨AOps P r n df ops Q rest (putD a o.dst (.sl k (xs ++ ys))) τ):AOps P r n df ops Q (o :: rest) a (s ++ (s2 ++ τ)):=by
 refine ad7 hw (by rw [ho];rfl) fun w X fr hs=>?_
 have hv:=(hs.fr.eval p).val hpv
 have hsub:(s ++ τ).Sublist (s ++ (s2 ++ τ)):=(List.Sublist.refl s).append (List.sublist_append_right _ _)
 have hkey:∀ b,b∈ab4 (s ++ τ)→b∈ab4 (s ++ (s2 ++ τ)):=fun b hb=>(hsub.map Prod.fst).subset hb
 have hst:StOK w X (s ++ τ):=hs.st.sub hsub
 have hu:Rd w (Own (s ++ τ) X) (.sl k ys) (fr.eval x):=by
  have h0:=hs.fr.eval x
  rcases hx with ⟨hx,rfl⟩|⟨v2,hx,hr2⟩
  ·rw [hx] at h0;exact h0
  ·rw [hx] at h0
   have h0:=h0.val rfl
   rw [h0]
   refine ay3 hr2 (hs.st.perm ?_)
   rw [← List.append_assoc,← List.append_assoc]
   exact List.perm_append_comm.append_right _
 obtain ⟨v',w',s',g1,g2,g3,g4⟩:=aP4 (ty:=o.type) (hT t i ht) hi (hT e j he) hz hp hk hr hst.left (bu0 hu) h1 hb (by unfold maxLen;omega)
 have ee:(execOp fr.eval o).run P w = .ok (.value v') w':=by
  simp only [execOp,ho,resolve,invoke,builtin,Sem.run_bind,Sem.run_pure,Result.andThen,List.map_toArray,List.map_cons,List.map_nil,hv,g1]
 rw [ee]
 obtain ⟨q1,q2,q3,q4⟩:=stays hst g3 g4
 have hO:∀ b,b<w.heap.size→¬ Own (s ++ (s2 ++ τ)) X b→¬ Own (s' ++ τ) X b:=fun b hb hn=>q3 b hb (ak3 hsub b hn)
 have hH:∀ b,b<w.heap.size→¬ Own (s ++ (s2 ++ τ)) X b→w'.heap[b]?=w.heap[b]?:=fun b hb hn=>q4 b hb (ak3 hsub b hn)
 rcases kk with kk|kk
 ·exact ⟨_,_,q2.wider hkey,(⟨hs.fr.keep g4.keep.size hO hH,q1,hs.df.keep g4.keep.size hO hH⟩:St w' X df a (s' ++ τ) fr).put (.v _) o.dst,kk v' s' g2⟩
 ·have hsub2:τ.Sublist (s' ++ τ):=List.sublist_append_right _ _
  refine ⟨_,_,(q2.wider hkey).fewer (fun b hb=>(hsub2.map Prod.fst).subset hb),?_,kk⟩
  exact (⟨hs.fr.keep g4.keep.size (fun b hb hn=>ak3 hsub2 b (hO b hb hn)) hH,q1.sub hsub2,hs.df.keep g4.keep.size (fun b hb hn=>ak3 hsub2 b (hO b hb hn)) hH⟩:St w' X df a τ fr).put (ay3 g2 q1) o.dst
theorem aP2 {o:Oper} {K:Bool→Prop} (h:exG L f o K) (hs:Sp N a f):∃ go,am4 L.toArray a o=some go∧K go:=by
 unfold exG at h
 split at h
 ·rename_i hg;exact ⟨true,by simp only [am4,hg],h⟩
 ·rename_i j want hg
  split at h
  ·exact h.elim
  ·rename_i o' ho
   split at h
   ·exact h.elim
   ·rename_i t ht
    have hb:(L.toArray[j]?).bind (·.dst)=some t:=by simp [ho,ht]
    split at h
    ·rename_i x hx
     have ha:a[t]?=some (.v x):=by
      rcases hs.at_ t _ hx with h1|h1
      ·cases h1
      ·exact h1
     split at h
     ·rename_i b
      have hw:am4 L.toArray a o=some (b == want):=by simp only [am4,hg,hb,ha]
      split at h <;> cases b
      ·exact ⟨false,hw,h.no rfl⟩
      ·exact ⟨true,hw,h.yes rfl⟩
      ·exact ⟨true,hw,h.no rfl⟩
      ·exact ⟨false,hw,h.yes rfl⟩
     ·exact ⟨false,by simp only [am4,hg,hb,ha],h⟩
     ·exact h.elim
    ·exact h.elim
theorem aC2 (hT:∀ t i,T t=some i→tiOf P t=some i):∀ {l:List Oper} {K:Frm→Prop} {f:Frm} {a:List D},aC3 P T N L σ l K f→Sp N a f→az7 none P L.toArray σ (fun a'=>∃ f',Sp N a' f'∧K f') l a
 | [],K,f,a,h,hs=>⟨f,hs,h⟩
 | o :: rest,K,f,a,h,hs=>by
  obtain ⟨go,hw,h1⟩:=aP2 (K:=fun go=>match go with
   | true=>bif ag7 o.op then exY P T o f σ (fun d=>putK N o.dst d f (aC3 P T N L σ rest K)) else False
   | false=>putK N o.dst (.v undef) f (aC3 P T N L σ rest K)) h hs
  cases go with
  | true=>
   obtain ⟨hn,h2⟩:=af0 h1
   obtain ⟨d,hy,h3⟩:=aP1 hT h2
   obtain ⟨f',hs',h4⟩:=ac7 h3 hs
   exact .inl ⟨hw,hn,d,.of (hy.le hs.le),aC2 hT h4 hs'⟩
  | false=>
   obtain ⟨f',hs',h4⟩:=ac7 h1 hs
   exact .inr ⟨hw,aC2 hT h4 hs'⟩
theorem ax8 (hT:∀ t i,T t=some i→tiOf P t=some i) {s:Nat} {t0:TypeId}:∀ {l:List Oper} {K:Frm→Prop} {f:Frm} {a:List D},ax0 P T N L σ s t0 l K f→Sp N a f→az7 (some (s,t0)) P L.toArray σ (fun a'=>∃ f',Sp N a' f'∧K f') l a
 | [],K,f,a,h,hs=>⟨f,hs,h⟩
 | o :: rest,K,f,a,h,hs=>by
  obtain ⟨go,hw,h1⟩:=aP2 (K:=fun go=>match go with
   | true=>bif ag7 o.op then
     (bif isAl (some (s,t0)) o then (match o.op with
      | .alloc t=>bif Nat.beq t t0 then putK N o.dst .any f (ax0 P T N L σ s t0 rest K) else False
      | _=>False)
     else exY P T o f σ (fun d=>putK N o.dst d f (ax0 P T N L σ s t0 rest K))) else False
   | false=>putK N o.dst (.v undef) f (ax0 P T N L σ s t0 rest K)) h hs
  cases go with
  | true=>
   obtain ⟨hn,h2⟩:=af0 h1
   cases hal:isAl (some (s,t0)) o with
   | true=>
    rw [hal] at h2
    simp only [cond_true] at h2
    split at h2
    ·rename_i t hop
     obtain ⟨ht,h3⟩:=af0 h2
     have:=Nat.eq_of_beq_eq_true ht
     subst this
     obtain ⟨f',hs',h4⟩:=ac7 h3 hs
     have hdst:o.dst=some s:=by
      unfold isAl at hal
      simp only at hal
      split at hal
      ·rename_i i hi;have:=Nat.eq_of_beq_eq_true hal;subst this;exact hi
      ·cases hal
     exact .inl ⟨hw,hn,.any,.inr ⟨hal,⟨s,t,rfl,hop,hdst⟩,rfl⟩,ax8 hT h4 hs'⟩
    ·exact h2.elim
   | false=>
    rw [hal] at h2
    simp only [cond_false] at h2
    obtain ⟨d,hy,h3⟩:=aP1 hT h2
    obtain ⟨f',hs',h4⟩:=ac7 h3 hs
    exact .inl ⟨hw,hn,d,.inl ⟨hal,hy.le hs.le⟩,ax8 hT h4 hs'⟩
  | false=>
   obtain ⟨f',hs',h4⟩:=ac7 h1 hs
   exact .inr ⟨hw,ax8 hT h4 hs'⟩
theorem aV5 {s idx:Nat}:∀ {l:List Oper} {cur:Nat},bh7 s idx l cur=true→∀ (j:Nat) o,l[j]?=some o→o.dst=some s→cur+j=idx
 | [],cur,_,j,o,h,_=>by simp at h
 | x :: l,cur,hu,j,o,h,hd=>by
  simp only [bh7,Bool.and_eq_true] at hu
  cases j with
  | zero=>
   simp at h;subst h
   rw [hd] at hu
   have h1:=hu.1
   simp only [Nat.beq_refl,cond_true] at h1
   exact Nat.eq_of_beq_eq_true h1
  | succ j=>
   have:=aV5 hu.2 j o (by simpa using h) hd
   omega
theorem ax2 {al:Option (Nat × TypeId)} {Lq Lq':List D→Prop} {ops:Array Oper} (h:∀ a,Lq a→Lq' a):∀ {l:List Oper} {a:List D},az7 al P ops σ Lq l a→az7 al P ops σ Lq' l a
 | [],a,hh=>h _ hh
 | o :: l,a,hh=>by
  rcases hh with ⟨h1,h2,d,h3,h4⟩|⟨h1,h2⟩
  ·exact .inl ⟨h1,h2,d,h3,ax2 h h4⟩
  ·exact .inr ⟨h1,ax2 h h2⟩
theorem Sp.set (h:Sp N a f) {s:Nat} {d:D} (hs:s<N):Sp N (a.set s d) ((s,d) :: f):=by
 have:=ac7 (dst:=some s) (d:=d) (K:=fun f'=>f'=(s,d) :: f) (by simp [putK,hs]) h
 obtain ⟨f',h1,rfl⟩:=this
 exact h1
theorem bA0 {d:D} {K:List D→Prop} (h:bO5 d K):aX7 d=true∧d ≠ .any∧K (ad8 d):=by
 cases d with
 | any=>exact h.elim
 | agg cs=>exact ⟨rfl,(fun h=>by cases h),ah7 h⟩
 | v x=>
  refine ⟨rfl,(fun h=>by cases h),?_⟩
  cases x <;> first|exact ah7 h|exact h
 | sl k xs=>exact ⟨rfl,(fun h=>by cases h),h⟩
 | ro cs=>exact ⟨rfl,(fun h=>by cases h),h⟩
 | tup ds=>exact ⟨rfl,(fun h=>by cases h),h⟩
 | clo g cs=>exact ⟨rfl,(fun h=>by cases h),h⟩
 | gl g=>exact ⟨rfl,(fun h=>by cases h),h⟩
theorem bY0 (hT:∀ t i,T t=some i→tiOf P t=some i) {o:Oper} {K:Frm→aa1→Prop} {rest:List Oper} {Q:Pst} (hn:ag7 o.op=true) (h:exOp P T r n df N L o f σ K) (hs:Sp N a f) (hw:am4 L.toArray a o=some true)
  (hk:∀ f' σ' a',K f' σ'→Sp N a' f'→AOps P r n df L.toArray Q rest a' σ'):AOps P r n df L.toArray Q (o :: rest) a σ:=by
 have yy:exY P T o f σ (fun d=>putK N o.dst d f (fun f'=>K f' σ))→AOps P r n df L.toArray Q (o :: rest) a σ:=fun h=>by
  obtain ⟨d,hy,h3⟩:=aP1 hT h
  obtain ⟨f',hs',h4⟩:=ac7 h3 hs
  exact bB2 hw hn (hy.le hs.le) (hk _ _ _ h4 hs')
 have oo:OtE P r n df L N o f σ K→AOps P r n df L.toArray Q (o :: rest) a σ:=fun h=>h.run rest Q a hs hw hk
 have eqv:∀ {x:Operand} {v:Value},evF f x = .v v→evD a x = .v v:=fun h=>hs.eq h (fun h=>by cases h)
 unfold exOp at h
 split at h
 ·rename_i t ho
  split at h
  ·exact h.elim
  ·rename_i i hi
   obtain ⟨h1,h2⟩:=af0 h
   simp only [Bool.and_eq_true,Nat.blt_eq] at h1
   have h3:=ah7 (K:=fun cs=>∀ b,putK N o.dst (.v (.pointer (some ⟨b,0,none⟩))) f (fun f'=>K f' ((b,.cells t cs) :: σ))) h2
   refine bp2 hT hw ho hi (Nat.eq_of_beq_eq_true h1.1) h1.2 (fun b=>?_)
   obtain ⟨f',hs',h4⟩:=ac7 (h3 b) hs
   exact hk _ _ _ h4 hs'
 ·rename_i t p x ho
  split at h
  ·exact h.elim
  ·rename_i i hi
   split at h
   ·rename_i b off hp
    obtain ⟨g1,g2,g3⟩:=bA0 h
    obtain ⟨j,tb,cs,σ',k1,k2,k3,k4,kp,k5⟩:=g3.run
    obtain ⟨f',hs',h4⟩:=ac7 k5 hs
    have hx:=hs.eq (x:=x) rfl g2
    exact bp1 hT hw ho hi (eqv hp) hx k1 g1 k2 rfl (by omega) k4 (am2 kp (hk _ _ _ h4 hs'))
   ·exact h.elim
 ·rename_i t x y ho
  obtain ⟨e,i,j,ag,by_,m,z,h1,h2,h3,h4,h5,h6,h7,h8,h9,h10⟩:=(ad6 (K:=fun dy=>Mk T σ t (evF f x) dy fun d σ'=>putK N o.dst d f (fun f'=>K f' σ')) (ad6 (K:=fun dx=>ab7 (evF f y) fun dy=>Mk T σ t dx dy fun d σ'=>putK N o.dst d f (fun f'=>K f' σ')) h)).run
  refine bB4 hT hw ho (eqv h6) (eqv h7) h1 h2 h3 h4 h5 h8 h9 (fun b=>?_)
  obtain ⟨f',hs',h11⟩:=ac7 (h10 b) hs
  exact hk _ _ _ h11 hs'
 ·rename_i c ho
  split at h
  ·rename_i hc
   split at h
   ·rename_i p x t t' e2 e3
    cases htt:Nat.beq t t' with
    | false=>rw [htt] at h;exact oo h
    | true=>
    rw [htt] at h
    have hap:Bx _ _:=h
    rcases hap.run.symm with hap|hap
    ·exact oo hap
    have hap:=ad6 (K:=fun dx=>Ap P T σ (evF f p) dx t fun d σ'=>putK N o.dst d f (fun f'=>K f' σ')) (ad6 (K:=fun dp=>ab7 (evF f x) fun dx=>Ap P T σ dp dx t fun d σ'=>putK N o.dst d f (fun f'=>K f' σ')) hap)
    have:=Nat.eq_of_beq_eq_true htt
    subst this
    obtain ⟨e,i,j,ag,k,by_,xs,ys,v,s,s2,τ,h1,h2,h3,h4,h5,h6,h7,h8,h9,h10,h11,h12,h13,h14⟩:=hap.run
    have ho':o.op = .call { callee:=.builtin .append,args:=#[p,x],argTypes:=#[t,t] }:=by
     obtain ⟨callee,args,ats⟩:=c
     simp only at hc e2 e3
     have g2:args = #[p,x]:=by apply Array.ext';simpa using e2
     have g3:ats = #[t,t]:=by apply Array.ext';simpa using e3
     rw [ho,hc,g2,g3]
    refine am2 h10 (bb5 hT hw ho' h1 h2 h3 h4 h5 h6 (eqv h7) ?_ h9 h11 h12 h13 ?_)
    ·rcases h8 with ⟨h8,h8'⟩|⟨v2,h8,h8'⟩
     ·exact .inl ⟨hs.eq h8 (fun h=>by cases h),h8'⟩
     ·exact .inr ⟨v2,eqv h8,h8'⟩
    ·rcases h14 with h14|h14
     ·refine .inl (fun v' s' hr=>?_)
      obtain ⟨σ',hpm,h14⟩:=h14 v' s' hr
      obtain ⟨f',hs',h15⟩:=ac7 h14 hs
      exact am2 hpm (hk _ _ _ h15 hs')
     ·obtain ⟨f',hs',h15⟩:=ac7 h14 hs
      exact .inr (hk _ _ _ h15 hs')
   ·exact h.elim
  ·exact oo h
  ·split at h
   ·rename_i g ds hc
    have h:=ah7 (K:=fun ds=>CE P g ds σ fun d σ'=>ab7 d fun d=>putK N o.dst d f (fun f'=>K f' σ')) h
    obtain ⟨s,t,R,h1,h2,h3⟩:=h.run
    refine am2 h1 (bg2 hw hn hs.le hc h2 (fun d s' hr=>?_))
    obtain ⟨σ',hpm,h3⟩:=h3 d s' hr
    obtain ⟨f',hs',h4⟩:=ac7 (ad6 h3) hs
    exact am2 hpm (hk _ _ _ h4 hs')
   ·exact h.elim
  ·exact yy h
 ·rename_i t m ps ho
  split at h
  ·split at h
   ·exact h.elim
   ·rename_i i hi
    split at h
    ·exact h.elim
    ·rename_i e ag k by_ hsl
     split at h
     ·exact h.elim
     ·rename_i j hj
      obtain ⟨h1,h2⟩:=af0 h
      simp only [Bool.and_eq_true] at h1
      have hps:ps = #[]:=by have:=h1.2;apply Array.ext';simpa using this
      subst hps
      refine bB5 hT hw ho hi hsl hj (Nat.eq_of_beq_eq_true h1.1.1.1) (Nat.eq_of_beq_eq_true h1.1.1.2) (by simpa [Nat.blt_eq] using h1.1.2) (fun b=>?_)
      obtain ⟨f',hs',h4⟩:=ac7 (h2 b) hs
      exact hk _ _ _ h4 hs'
  ·exact h.run.elim yy oo
 ·split at h
  ·split at h
   ·exact oo h
   ·exact yy h
  ·exact yy h
 ·exact oo h
 ·exact oo h
 ·exact oo h
 ·exact oo h
 ·exact oo h
 ·exact oo h
 ·exact h.run.elim yy oo
 ·exact yy h
theorem ax9 (hT:∀ t i,T t=some i→tiOf P t=some i) {Q:Pst}:∀ {l:List Oper} {K:Frm→aa1→Prop} {f:Frm} {σ:aa1} {a:List D},aE0 P T r n df N L l K f σ→Sp N a f→(∀ f' σ' a',K f' σ'→Sp N a' f'→Q .normal a' σ')→AOps P r n df L.toArray Q l a σ
 | [],K,f,σ,a,h,hs,hk=>bl9 (hk f σ a h hs)
 | o :: rest,K,f,σ,a,h,hs,hk=>by
  obtain ⟨go,hw,h1⟩:=aP2 (K:=fun go=>match go with
   | true=>bif ag7 o.op then exOp P T r n df N L o f σ (aE0 P T r n df N L rest K) else False
   | false=>putK N o.dst (.v undef) f (fun f'=>aE0 P T r n df N L rest K f' σ)) h hs
  cases go with
  | true=>
   obtain ⟨hn,h2⟩:=af0 h1
   exact bY0 hT hn h2 hs hw (fun f' σ' a' h3 hs'=>ax9 hT h3 hs' hk)
  | false=>
   obtain ⟨f',hs',h4⟩:=ac7 h1 hs
   exact bB3 hw (ax9 hT h4 hs' hk)
theorem aL4 {Ls:List Tmp}:∀ {f:Frm} {i:Nat} {d:D},am5 (cutF Ls f) i=some d→am5 f i=some d∧i∈Ls
 | [],i,d,h=>by simp [cutF,am5] at h
 | (j,e) :: f,i,d,h=>by
  simp only [cutF] at h
  cases hb:Ls.any (Nat.beq j) with
  | true=>
   rw [hb] at h
   simp only [cond_true,am5] at h ⊢
   cases hj:Nat.beq j i with
   | true=>
    rw [hj] at h
    simp only [cond_true,Option.some.injEq] at h
    have:=Nat.eq_of_beq_eq_true hj
    subst this h
    obtain ⟨k,hk,hk2⟩:=List.any_eq_true.1 hb
    have:=Nat.eq_of_beq_eq_true hk2
    subst this
    exact ⟨rfl,hk⟩
   | false=>
    rw [hj] at h
    exact aL4 h
  | false=>
   rw [hb] at h
   simp only [cond_false] at h
   obtain ⟨h1,h2⟩:=aL4 h
   simp only [am5]
   cases hj:Nat.beq j i with
   | true=>
    have:=Nat.eq_of_beq_eq_true hj
    subst this
    have:Ls.any (Nat.beq j)=true:=List.any_eq_true.2 ⟨j,h2,by simp⟩
    rw [hb] at this;cases this
   | false=>exact ⟨h1,h2⟩
theorem Sp.cut (h:Sp N a f) (Ls:List Tmp):Sp N (only Ls a) (cutF Ls f):=by
 refine ⟨by rw [bj9];exact h.len,fun i d hd=>?_⟩
 obtain ⟨h1,h2⟩:=aL4 hd
 rcases h.at_ i d h1 with h3|h3
 ·exact .inl h3
 ·exact .inr (by simp [only,List.getElem?_mapIdx,h3,h2])
theorem az4 (hT:∀ t i,T t=some i→tiOf P t=some i):∀ {hs:List Nat} {E:Nat→Bool} {K:Frm→Prop} {f:Frm} {a:List D},exHs P T N L E σ hs K f→Sp N a f→gLex P .any L.toArray E (fun a' σ'=>σ'=σ∧∃ f',Sp N a' f'∧K f') hs a σ
 | [],E,K,f,a,h,hs=>⟨rfl,f,hs,h⟩
 | i :: il,E,K,f,a,h,hs=>by
  unfold exHs at h
  split at h
  ·exact h.elim
  ·rename_i o ho
   have ho':L.toArray[i]?=some o:=by simpa using ho
   obtain ⟨go,hw,h1⟩:=aP2 (K:=fun go=>match go with
    | true=>bif ag7 o.op then
      (match cf4 o f with
      | true=>Cb (barB .any L.toArray E i) (exY P T o f σ (fun d=>putK N o.dst d f (exHs P T N L E σ il K)))
      | false=>exY P T o f [] (fun d=>putK N o.dst d f (exHs P T N L E σ il K))) else False
    | false=>putK N o.dst (.v undef) f (exHs P T N L E σ il K)) h hs
   cases go with
   | true=>
    obtain ⟨hn,h2⟩:=af0 h1
    split at h2
    ·obtain ⟨d,hy,h3⟩:=aP1 hT h2.k
     obtain ⟨f',hs',h4⟩:=ac7 h3 hs
     exact ⟨o,d,ho',.inl ⟨h2.s,.inl ⟨hw,hn,.of (hy.le hs.le)⟩⟩,az4 hT h4 hs'⟩
    ·obtain ⟨d,hy,h3⟩:=aP1 hT h2
     obtain ⟨f',hs',h4⟩:=ac7 h3 hs
     exact ⟨o,d,ho',.inr (.inl ⟨hw,hn,.of (hy.le hs.le)⟩),az4 hT h4 hs'⟩
   | false=>
    obtain ⟨f',hs',h4⟩:=ac7 h1 hs
    exact ⟨o,_,ho',.inr (.inr ⟨hw,rfl⟩),az4 hT h4 hs'⟩
theorem ao8 (hT:∀ t i,T t=some i→tiOf P t=some i) {E:Nat→Bool} {k:Nat} {K:Frm→aa1→Prop} {G:List D→aa1→Prop} (hE:E k=true) (h:ay6 P T r n df N L k K f σ) (hs:Sp N a f)
  (hk:∀ f' σ' a',K f' σ'→Sp N a' f'→G a' σ'):gOp P r n df L.toArray E k G a σ:=by
 unfold ay6 at h
 split at h
 ·exact h.elim
 ·rename_i o ho
  have ho':L.toArray[k]?=some o:=by simpa using ho
  unfold gOp
  rw [ho']
  simp only [hE]
  refine ax9 hT h (hs.cut _) (fun f' σ' a' h' hs'=>⟨rfl,by rw [hs'.len,hs.len],?_⟩)
  cases hd:o.dst with
  | none=>
   rw [hd] at h'
   exact ⟨.any,(fun i hi=>by cases hi),hk _ _ _ h' hs⟩
  | some i=>
   rw [hd] at h'
   simp only at h'
   split at h'
   ·exact h'.elim
   ·rename_i d hf'
    obtain ⟨hi,h2⟩:=af0 h'
    rw [Nat.blt_eq] at hi
    have hia:i<a'.length:=by rw [hs'.len];exact hi
    refine ⟨a'[i],fun j hj _=>by cases hj;exact List.getElem?_eq_getElem hia,hk _ _ _ h2 ?_⟩
    refine ⟨by simp [putD,hs.len],fun j d' hj=>?_⟩
    simp only [am5] at hj
    cases he:Nat.beq i j with
    | true=>
     rw [he] at hj
     simp only [cond_true,Option.some.injEq] at hj
     have:=Nat.eq_of_beq_eq_true he
     subst this hj
     rcases hs'.at_ i _ hf' with h3|h3
     ·exact .inl h3
     ·right
      rw [List.getElem?_eq_getElem hia] at h3
      simp only [Option.some.injEq] at h3
      simp [putD,hs.len,hi,h3]
    | false=>
     rw [he] at hj
     have hne:i≠j:=fun e=>by subst e;simp at he
     rcases hs.at_ j d' hj with h1|h1
     ·exact .inl h1
     ·exact .inr (by simp [putD,List.getElem?_set,hne,h1])
theorem aZ6 (hT:∀ t i,T t=some i→tiOf P t=some i):∀ {l:List Nat} {K:Frm→aa1→Prop} {f:Frm} {σ:aa1} {a:List D},(∀ k∈l,mxE L k=true)→aZ7 P T r n df N L l K f σ→Sp N a f→gSeq P r n df L.toArray (mxE L) (fun a' σ'=>∃ f',Sp N a' f'∧K f' σ') l a σ
 | [],K,f,σ,a,hE,h,hs=>⟨f,hs,h⟩
 | k :: l,K,f,σ,a,hE,h,hs=>by
  have h':ay6 P T r n df N L k (aZ7 P T r n df N L l K) f σ:=h
  exact ao8 hT (hE k (by simp)) h' hs (fun f' σ' a' h2 hs'=>aZ6 hT (fun k hk=>hE k (by simp [hk])) h2 hs')
def av4 (p:Nat→Bool):Ord→Bool
 | .done=>true
 | .one i t=>p i && av4 p t
 | .two i t j u=>p i && (av4 p t && (p j && av4 p u))
 | .three i t j u k v=>p i && (av4 p t && (p j && (av4 p u && (p k && av4 p v))))
theorem as1 (hT:∀ t i,T t=some i→tiOf P t=some i) {E:Nat→Bool}:∀ {t:Ord} {K:Frm→aa1→Prop} {f:Frm} {σ:aa1} {a:List D},av4 E t=true→aU4 P T r n df N L K t f σ→Sp N a f→gOrd P r n df L.toArray E (fun a' σ'=>∃ f',Sp N a' f'∧K f' σ') t a σ
 | .done,K,f,σ,a,hE,h,hs=>⟨f,hs,h⟩
 | .one i t,K,f,σ,a,hE,h,hs=>by
  simp only [av4,Bool.and_eq_true] at hE
  exact ao8 hT hE.1 h hs (fun f' σ' a' h2 hs'=>as1 hT hE.2 h2 hs')
 | .two i t j u,K,f,σ,a,hE,h,hs=>by
  simp only [av4,Bool.and_eq_true] at hE
  exact ⟨ao8 hT hE.1 h.1 hs (fun f' σ' a' h2 hs'=>as1 hT hE.2.1 h2 hs'),ao8 hT hE.2.2.1 h.2 hs (fun f' σ' a' h2 hs'=>as1 hT hE.2.2.2 h2 hs')⟩
 | .three i t j u k v,K,f,σ,a,hE,h,hs=>by
  simp only [av4,Bool.and_eq_true] at hE
  exact ⟨ao8 hT hE.1 h.1 hs (fun f' σ' a' h2 hs'=>as1 hT hE.2.1 h2 hs'),ao8 hT hE.2.2.1 h.2.1 hs (fun f' σ' a' h2 hs'=>as1 hT hE.2.2.2.1 h2 hs'),ao8 hT hE.2.2.2.2.1 h.2.2 hs (fun f' σ' a' h2 hs'=>as1 hT hE.2.2.2.2.2 h2 hs')⟩
theorem aw9 {E:Nat→Bool} {ops:Array Oper} {K K':List D→aa1→Prop} (h:∀ a σ,K a σ→K' a σ):∀ {hs:List Nat} {a:List D},gLex P .any ops E K hs a σ→gLex P .any ops E K' hs a σ
 | [],a,hh=>h _ _ hh
 | i :: hs,a,hh=>let ⟨o,d,h1,h2,h3⟩:=hh;⟨o,d,h1,h2,aw9 h h3⟩
theorem bl4 (hm:P.follows .mixedOrders=true) (hT:∀ t i,T t=some i→tiOf P t=some i) {id:Nat} {Q:Fst} (h:by8 P T r n df N L (Q .normal) (Lp P r n df N (.region id L.toArray true) Q f σ) f σ) (hs:Sp N a f):AWP P r n df (.region id L.toArray true) (bH1 N Q) a σ:=by
 rcases h.run with ⟨hb,hk⟩|h
 ·unfold mxB at hb
  rw [Bool.and_eq_true] at hb
  refine bb3 (mxE L) (mxHs L) (aY0 L) hm (Nat.eq_of_beq_eq_true hb.1) hb.2 (aw9 (fun a' σ' h'=>?_) (az4 hT hk hs))
  obtain ⟨rfl,f',hs',h'⟩:=h'
  exact aZ6 hT (fun k hk=>List.any_eq_true.2 ⟨k,hk,by simp⟩) h' hs'
 ·exact h.run a hs
theorem am0 (hm:P.follows .mixedOrders=true) (hT:∀ t i,T t=some i→tiOf P t=some i):∀ {c:Code} {Q:Fst} {f:Frm} {σ:aa1} {a:List D},am1 P T r n df N c Q f σ→Sp N a f→AWP P r n df c (bH1 N Q) a σ:=by
 intro c
 induction c with
 | skip=>intro Q f σ a h hs;exact bJ6 ⟨f,hs,h⟩
 | ret=>intro Q f σ a h hs;exact bZ6 ⟨f,hs,h⟩
 | exit id=>intro Q f σ a h hs;exact bJ7 ⟨f,hs,h⟩
 | seq x y ihx ihy=>
  intro Q f σ a h hs
  refine bZ5 (ap6 (ihx h hs) ?_)
  rintro e a' σ' ⟨f',hs',h'⟩
  cases e <;> first|exact ihy h' hs' | exact ⟨f',hs',h'⟩
 | cond c x y ihx ihy=>
  intro Q f σ a h hs
  simp only [am1] at h
  split at h
  ·rename_i t ht
   rcases h.run with h|h
   ·exact bA6 (hs.eq ht (fun h=>by cases h)) (fun e=>ihx (h.yes e) hs) (fun e=>ihy (h.no e) hs)
   ·exact h.run a hs
  ·exact h.elim
 | block id b ih=>
  intro Q f σ a h hs
  refine bB0 (ap6 (ih h hs) ?_)
  rintro e a' σ' ⟨f',hs',h'⟩
  cases e with
  | exit id'=>
   simp only [bO6] at h'
   simp only [bA2]
   cases hb:Nat.beq id' id with
   | true=>rw [hb] at h';rw [if_pos (Nat.eq_of_beq_eq_true hb)];exact ⟨f',hs',h'⟩
   | false=>rw [hb] at h';rw [if_neg (fun e=>by subst e;simp at hb)];exact ⟨f',hs',h'⟩
  | _=>exact ⟨f',hs',h'⟩
 | region id ops draw=>
  intro Q f σ a h hs
  obtain ⟨l⟩:=ops
  simp only [am1] at h
  cases draw with
  | false=>exact bo8 (ax9 (L:=l) hT h hs (fun f' σ' a' h' hs'=>⟨f',hs',h'⟩))
  | true=>
   simp only at h
   split at h
   ·rcases h.run with ⟨hb,hk⟩|h
    ·exact bJ9 hm hb (bb6 (aC2 (L:=l) hT hk hs) (fun a' ⟨f',hs',h'⟩=>⟨f',hs',h'⟩))
    ·exact h.run a hs
   ·rename_i m he
    have old:Dr (Region.lexTailB .any l.toArray m) (aC3 P T N l σ (l.take m) (fun f'=>aE0 P T r n df N l (l.drop m) (Q .normal) f' σ) f) (by8 P T r n df N l (Q .normal) (Lp P r n df N (.region id l.toArray true) Q f σ) f σ)→AWP P r n df (.region id l.toArray true) (bH1 N Q) a σ:=fun h=>by
     rcases h.run with ⟨hb,hk⟩|hmx
     ·refine aV0 m hm hb (bb6 (aC2 (L:=l) hT hk hs) (fun a' ⟨f',hs',h'⟩=>?_))
      exact ax9 (L:=l) hT h' hs' (fun f' σ' a' h' hs'=>⟨f',hs',h'⟩)
     ·exact bl4 hm hT hmx hs
    split at h
    ·exact h.elim
    ·rename_i o0 ho0
     split at h
     ·rename_i t0 hop
      split at h
      ·exact old h
      ·rename_i m2 he2
       split at h
       ·exact h.elim
       ·rename_i s hd0
        split at h
        ·exact h.elim
        ·rename_i ti hti
         obtain ⟨hc,hk⟩:=af0 h
         simp only [Bool.and_eq_true,Nat.blt_eq] at hc
         obtain ⟨⟨⟨⟨c1,c2⟩,c3⟩,c4⟩,c5⟩:=hc
         rcases hk.run with ⟨hkb,hk⟩|hmx
         ·refine bb2 (m+1+m2) m s t0 o0 hT hti (Nat.eq_of_beq_eq_true c1) c2 hm hkb ho0 (by omega) hop hd0 (by simpa using c5) (fun j o hj hd=>by have:=aV5 c4 j o hj hd;omega) (by rw [hs.len];exact c3)
           (ax2 (fun a' ⟨f',hs',h'⟩=>⟨by rw [hs'.len,hs.len],fun b=>?_⟩) (ax8 (L:=l) hT hk hs))
          have h2:=ah7 (K:=fun cs=>∀ b,aE0 P T r n df N l (l.drop (m+1+m2)) (Q .normal) ((s,.v (.pointer (some ⟨b,0,none⟩))) :: f') ((b,.cells t0 cs) :: σ)) h' b
          exact ax9 (L:=l) hT h2 (hs'.set c3) (fun f' σ' a' h' hs'=>⟨f',hs',h'⟩)
         ·exact bl4 hm hT hmx hs
     ·exact old h
 | loop b ih=>intro Q f σ a h hs;exact h.run a hs
 | rangeFunc x p s b ih1 ih2=>intro Q f σ a h hs;exact h.run a hs
 | scope b ih=>intro Q f σ a h hs;exact h.run a hs
 | label l=>intro Q f σ a h hs;exact h.run a hs
 | goto l=>intro Q f σ a h hs;exact h.run a hs
 | refuse w=>intro Q f σ a h hs;exact h.run a hs
end
end
section
open Go Go.RowKit Go.Shelf
structure W (p:Prop):Prop where
 h:p
def memN:Nat→List Nat→Bool
 | _,[]=>false
 | i,j :: l=>bif Nat.beq i j then true else memN i l
def bz8:List Nat→Frm→Frm
 | _,[]=>[]
 | js,(i,d) :: f=>bif memN i js then bz8 js f else (i,d) :: bz8 (i :: js) f
def asg:Code→List Nat
 | .region _ ops _=>ops.toList.filterMap (·.dst)
 | .seq x y=>asg x ++ asg y
 | .cond _ x y=>asg x ++ asg y
 | .block _ b=>asg b
 | .loop b=>asg b
 | .rangeFunc _ ps x y=>ps.toList ++ (asg x ++ asg y)
 | .scope b=>asg b
 | _=>[]
def aq3 (c:Code) (f:Frm) (ps:Frm):Frm:=ps ++ bz8 (ps.map Prod.fst ++ asg c) f
def chkF (f' F:Frm):Prop:=F.map (fun p=>am5 f' p.1)=F.map (fun p=>some p.2)
def aC1:Frm→(Frm→Prop)→Prop
 | [],K=>K []
 | (i,d) :: f,K=>aC1 f fun f=>K ((i,d) :: f)
theorem ao5:∀ {f:Frm} {K:Frm→Prop},aC1 f K→K f
 | [],_,h=>h
 | (i,d) :: f,K,h=>ao5 (K:=fun f=>K ((i,d) :: f)) h
theorem aK4:∀ {f:Frm} {i:Nat} {d:D},am5 f i=some d→(i,d)∈f
 | [],i,d,h=>by simp [am5] at h
 | (j,e) :: f,i,d,h=>by
  simp only [am5] at h
  cases hb:Nat.beq j i with
  | true=>rw [hb] at h;simp at h;have:=Nat.eq_of_beq_eq_true hb;subst this h;simp
  | false=>rw [hb] at h;exact List.mem_cons_of_mem _ (aK4 h)
theorem bJ3 {f' F:Frm} (h:chkF f' F) {i:Nat} {d:D} (hl:am5 F i=some d):am5 f' i=some d:=by
 have hm:=aK4 hl
 unfold chkF at h
 obtain ⟨j,hj⟩:=List.getElem?_of_mem hm
 have h1:(F.map (fun p=>am5 f' p.1))[j]?=(F.map (fun p=>some p.2))[j]?:=by rw [h]
 simp [hj] at h1
 exact h1
theorem Sp.sub {N:Nat} {a:List D} {f' F:Frm} (hs:Sp N a f') (h:chkF f' F):Sp N a F:=
 ⟨hs.len,fun i d hd=>hs.at_ i d (bJ3 h hd)⟩
section
variable {P:Program} {r:Option Nat} {n:Nat} {df:Nat} {N:Nat} {σ:aa1} {a:List D} {f:Frm} {T:TypeId→Option TI} {Q:Fst}
theorem ad5 (hm:P.follows .mixedOrders=true) (hT:∀ t i,T t=some i→tiOf P t=some i) {c:Code} {γ:Type} (ps:γ→Frm) (S:γ→aa1) (I:γ→Prop) (μ:γ→Nat) (g₀:γ)
  (h1:chkF f (aq3 c f (ps g₀))) (h2:σ=S g₀) (h3:I g₀)
  (h4:∀ g,I g→W (aC1 (aq3 c f (ps g)) fun F=>am1 P T r n df N c (bs7 (fun f' σ'=>∃ g',chkF f' (aq3 c f (ps g'))∧σ'=S g'∧I g'∧μ g' < μ g) Q) F (S g))) :
  Lp P r n df N (.loop c) Q f σ:=by
 refine ⟨fun a hs=>?_⟩
 refine aU9 (fun m a σ=>∃ g,μ g=m∧I g∧Sp N a (aq3 c f (ps g))∧σ=S g) (μ g₀) ⟨g₀,rfl,h3,hs.sub h1,h2⟩ ?_
 rintro m a σ ⟨g,rfl,hI,hS,rfl⟩
 refine ap6 (am0 hm hT (ao5 (h4 g hI).h) hS) ?_
 rintro e a' σ' ⟨f',hs',h'⟩
 cases e with
 | normal=>obtain ⟨g',k1,k2,k3,k4⟩:=h';exact ⟨μ g',k4,g',rfl,k3,hs'.sub k1,k2⟩
 | _=>exact ⟨f',hs',h'⟩
structure Vs (σ:aa1) (d:D) (σ':aa1) (d':D):Prop where
 run:∀ (w:World) (X:Nat→Prop) (u:Value),StOK w X σ→Rd w (Own σ X) d u→StOK w X σ'∧Rd w (Own σ' X) d' u
 sub:∀ b,b∈ab4 σ'→b∈ab4 σ
theorem Vs.refl (σ:aa1) (d:D):Vs σ d σ d:=⟨fun _ _ _ h1 h2=>⟨h1,h2⟩,fun _ h=>h⟩
theorem Vs.le {σ:aa1} {d d':D} (h:Le d d'):Vs σ d σ d':=⟨fun _ _ _ h1 h2=>⟨h1,h _ _ _ h2⟩,fun _ h=>h⟩
theorem Vs.trans {σ σ' σ'':aa1} {d d' d'':D} (h:Vs σ d σ' d') (k:Vs σ' d' σ'' d''):Vs σ d σ'' d'':=
 ⟨fun w X u h1 h2=>let ⟨g1,g2⟩:=h.run w X u h1 h2;k.run w X u g1 g2,fun b hb=>h.sub b (k.sub b hb)⟩
structure Rt (R:D→aa1→Prop) (d:D) (σ:aa1):Prop where
 run:∃ d' σ',Vs σ d σ' d'∧R d' σ'
theorem ACall.vs {P:Program} {g:FuncId} {args:List D} {σ:aa1} {R:D→aa1→Prop} (h:ACall P g args σ (fun d σ'=>Rt R d σ')):ACall P g args σ R:=
 ⟨h.ent,fun w X vs hv hs=>(h.run w X vs hv hs).mono fun e w' ⟨u,d,σ',h1,⟨d',σ'',h2,h3⟩,h4,h5,h6⟩=>
  let ⟨g1,g2⟩:=h2.run w' X u h5 h4;⟨u,d',σ'',h1,h3,g2,g1,h6.keep,fun b hb=>h6.new b (h2.sub b hb)⟩⟩
structure Rs (P:Program) (N:Nat) (fn:Func) (f:Frm) (σ:aa1) (K:D→Prop):Prop where
 run:∃ d,(∀ a,Sp N a f→ResOK P fn a σ d)∧K d
def bI7 (P:Program) (N:Nat) (fn:Func) (f:Frm) (σ:aa1) (K:D→Prop):Prop:=
 match fn.results.toList with
 | []=>K (.v (.tuple #[]))
 | [.tmp i]=>ab7 (evF f (.tmp i)) K
 | [.tmp i,.tmp j]=>ab7 (evF f (.tmp i)) fun d=>ab7 (evF f (.tmp j)) fun e=>K (.tup [d,e])
 | [.tmp i,.tmp j,.tmp k]=>ab7 (evF f (.tmp i)) fun d=>ab7 (evF f (.tmp j)) fun e=>ab7 (evF f (.tmp k)) fun g=>K (.tup [d,e,g])
 | [.tmp i1,.tmp i2,.tmp i3,.tmp i4,.tmp i5]=>ab7 (evF f (.tmp i1)) fun d1=>ab7 (evF f (.tmp i2)) fun d2=>ab7 (evF f (.tmp i3)) fun d3=>ab7 (evF f (.tmp i4)) fun d4=>ab7 (evF f (.tmp i5)) fun d5=>K (.tup [d1,d2,d3,d4,d5])
 | _=>Rs P N fn f σ K
def retF (P:Program) (N:Nat) (fn:Func) (R:D→aa1→Prop):Fst
 | .ret,f,σ=>bI7 P N fn f σ fun d=>Rt R d σ
 | .normal,f,σ=>bI7 P N fn f σ fun d=>Rt R d σ
 | _,_,_=>False
theorem ResOK.le {fn:Func} {d d':D} (h:ResOK P fn a σ d) (hl:Le d d'):ResOK P fn a σ d':=fun w X t hf hs=>let ⟨u,h1,h2⟩:=h w X t hf hs;⟨u,h1,hl _ _ _ h2⟩
theorem an2 (hs:Sp N a f) (i:Nat):Le (a.getD i (.v undef)) (evF f (.tmp i)):=hs.le (.tmp i)
theorem aO9 {d:D} {K:D→Prop}:ab7 d K=K d:=by cases d <;> rfl
theorem bE5 {fn:Func} {i1 i2 i3:Tmp} (h:fn.results = #[.tmp i1,.tmp i2,.tmp i3]) :
  ResOK P fn a σ (.tup [a.getD i1 (.v undef),a.getD i2 (.v undef),a.getD i3 (.v undef)]):=fun w X t hf _=>by
 refine ⟨.tuple #[t.getD i1 undef,t.getD i2 undef,t.getD i3 undef],by simp [results,h],?_⟩
 have:=RdL.cons (ai9 hf i1) (RdL.cons (ai9 hf i2) (RdL.cons (ai9 hf i3) RdL.nil))
 exact .tup _ _ this.len this.at_
theorem bl3 {fn:Func} {K:D→Prop} (h:bI7 P N fn f σ K) (hs:Sp N a f):∃ d,ResOK P fn a σ d∧K d:=by
 unfold bI7 at h
 split at h
 ·rename_i e;exact ⟨_,bE7 (by apply Array.ext';simpa using e),h⟩
 ·rename_i i e
  exact ⟨_,(bS2 (i:=i) (by apply Array.ext';simpa using e)).le (an2 hs i),ad6 h⟩
 ·rename_i i j e
  refine ⟨_,(bE6 (i:=i) (j:=j) (by apply Array.ext';simpa using e)).le (ar8 (.cons (an2 hs i) (.cons (an2 hs j) .nil))),?_⟩
  exact ad6 (K:=fun e=>K (.tup [_,e])) (ad6 (K:=fun d=>ab7 (evF f (.tmp j)) fun e=>K (.tup [d,e])) h)
 ·rename_i i j k e
  simp only [aO9] at h
  exact ⟨_,(bE5 (i1:=i) (i2:=j) (i3:=k) (by apply Array.ext';simpa using e)).le (ar8 (.cons (an2 hs i) (.cons (an2 hs j) (.cons (an2 hs k) .nil)))),h⟩
 ·rename_i i1 i2 i3 i4 i5 e
  simp only [aO9] at h
  exact ⟨_,(bE4 (i1:=i1) (i2:=i2) (i3:=i3) (i4:=i4) (i5:=i5) (by apply Array.ext';simpa using e)).le (ar8 (.cons (an2 hs i1) (.cons (an2 hs i2) (.cons (an2 hs i3) (.cons (an2 hs i4) (.cons (an2 hs i5) .nil)))))),h⟩
 ·obtain ⟨d,h1,h2⟩:=h.run;exact ⟨d,h1 a hs,h2⟩
def argF:List D→Frm
 | []=>[]
 | [a]=>[(0,a)]
 | [a,b]=>[(0,a),(1,b)]
 | [a,b,c]=>[(0,a),(1,b),(2,c)]
 | [a,b,c,d]=>[(0,a),(1,b),(2,c),(3,d)]
 | [a,b,c,d,e]=>[(0,a),(1,b),(2,c),(3,d),(4,e)]
 | [a,b,c,d,e,g]=>[(0,a),(1,b),(2,c),(3,d),(4,e),(5,g)]
 | [a,b,c,d,e,g,h]=>[(0,a),(1,b),(2,c),(3,d),(4,e),(5,g),(6,h)]
 | [a,b,c,d,e,g,h,i]=>[(0,a),(1,b),(2,c),(3,d),(4,e),(5,g),(6,h),(7,i)]
 | _=>[]
theorem bZ7 (l m:List D):∀ i d,am5 (argF l) i=some d→d = .any∨(l ++ m)[i]?=some d:=by
 intro i d h
 right
 have key:∀ p∈argF l,(l ++ m)[p.1]?=some p.2:=by
  unfold argF
  split <;> simp
 exact key _ (aK4 h)
theorem bO3 (hm:P.follows .mixedOrders=true) (hT:∀ t i,T t=some i→tiOf P t=some i) {g:FuncId} {fn:Func} {c:Code} {args:List D} {R:D→aa1→Prop} (hf:P.funcs[g]?=some fn) (hname:(fn.name == "runtime.NumGoroutine")=false) (hb:fn.body=some c) (hN:fn.ntmps=N) (hl:Nat.ble args.length N=true)
  (h:∀ B,W (am1 P T none 9 B N c (retF P N fn R) (argF args) σ)):ACall P g args σ R:=by
 refine ACall.vs (bb8 hf hname hb fun B=>(ap6 (am0 hm hT (h B).h ⟨by rw [Nat.ble_eq] at hl;simp [hN];omega,bZ7 _ _⟩) ?_))
 rintro e a' σ' ⟨f',hs',h'⟩
 cases e with
 | ret=>exact bl3 (K:=fun d=>Rt R d σ') h' hs'
 | normal=>exact bl3 (K:=fun d=>Rt R d σ') h' hs'
 | _=>exact h'.elim
end
/-! ### What to say where the executor stops -/
section
variable {P:Program} {σ:aa1} {A B:Prop} {T:TypeId→Option TI}
theorem Bc.l {t:Bool} {C:Prop} (h:Br t A B):Bc t A B C:=⟨.inl h⟩
theorem Bc.j {t:Bool} {C:Prop} (h:C):Bc t A B C:=⟨.inr h⟩
theorem Bx.l (h:W A):Bx A B:=⟨.inl h.h⟩
theorem Bx.r (h:B):Bx A B:=⟨.inr h⟩
theorem Br.tt (h:W A):Br true A B:=⟨fun _=>h.h,(fun e=>by cases e)⟩
theorem Br.ff (h:W B):Br false A B:=⟨(fun e=>by cases e),fun _=>h.h⟩
theorem Br.t {t:Bool} (e:t=true) (h:W A):Br t A B:=by subst e;exact Br.tt h
theorem Br.f {t:Bool} (e:t=false) (h:W B):Br t A B:=by subst e;exact Br.ff h
theorem Br.dt {p:Prop} [Decidable p] (e:p) (h:W A):Br (decide p) A B:=Br.t (decide_eq_true e) h
theorem Br.df {p:Prop} [Decidable p] (e:¬ p) (h:W B):Br (decide p) A B:=Br.f (decide_eq_false e) h
theorem Br.d {p:Prop} [Decidable p] (h:p→W A) (k:¬ p→W B):Br (decide p) A B:=⟨fun e=>(h (of_decide_eq_true e)).h,fun e=>(k (of_decide_eq_false e)).h⟩
theorem Br.n {t:Bool} (h:Br t B A):Br (!t) A B:=⟨fun e=>h.no (by simpa using e),fun e=>h.yes (by simpa using e)⟩
theorem Br.b {t:Bool} (h:t=true→W A) (k:t=false→W B):Br t A B:=⟨fun e=>(h e).h,fun e=>(k e).h⟩
theorem Br.eq {t t':Bool} (e:t=t') (h:Br t' A B):Br t A B:=by subst e;exact h
theorem Sd.eq {s s':Prop} (e:s=s') (h:Sd s' A):Sd s A:=by subst e;exact h
theorem Sd.go {s:Prop} (h:s) (k:W A):Sd s A:=⟨h,k.h⟩
theorem Ck.go {b:Bool} (h:b=true) (k:W A):Ck b A:=⟨h,k.h⟩
theorem Dm.l {b:Bool} (h:b=true) (k:W A):Dm b A B:=⟨.inl ⟨h,k.h⟩⟩
theorem Dm.r {b:Bool} (k:W B):Dm b A B:=⟨.inr k.h⟩
theorem Cb.go {b:Bool} (h:b=true) (k:W A):Cb b A:=⟨h,k.h⟩
theorem Dr.l {b:Bool} (h:b=true) (k:W A):Dr b A B:=⟨.inl ⟨h,k.h⟩⟩
theorem Dr.r {b:Bool} (k:W B):Dr b A B:=⟨.inr k.h⟩
theorem Ix.map {α:Type} {g:α→List D} {l:List α} {j:Int} {K:List D→Prop} (h0:0≤j∧j<l.length) (h:∀ y,l[j.toNat]?=some y→W (K (g y))):Ix (l.map g) j K:=by
 have hlt:j.toNat<l.length:=by omega
 exact ⟨h0.1,_,by rw [List.getElem?_map,List.getElem?_eq_getElem hlt];rfl,(h _ (List.getElem?_eq_getElem hlt)).h⟩
structure IxM (p:Prop):Prop where
 run:p
theorem Ix.mapM {α:Type} {g:α→List D} {l:List α} {j:Int} {K:List D→Prop} (h0:0≤j∧j<l.length) (h:IxM (∀ y,l[j.toNat]?=some y→W (K (g y)))):Ix (l.map g) j K:=Ix.map h0 h.run
theorem Ix.mapAt {α:Type} {g:α→List D} {l:List α} {j:Int} {y:α} {K:List D→Prop} (hy:l[j.toNat]?=some y) (h0:0≤j) (h:W (K (g y))):Ix (l.map g) j K:=
 ⟨h0,_,by rw [List.getElem?_map,hy];rfl,h.h⟩
theorem Ix.at {xs:List (List D)} {j:Int} {cs:List D} {K:List D→Prop} (hy:xs[j.toNat]?=some cs) (h0:0≤j) (h:W (K cs)):Ix xs j K:=⟨h0,cs,hy,h.h⟩
theorem Ld.at {o:Oper} {ρ:Operand→D} {b off:Nat} {ag:Bool} {sz:Nat} {K:D→Prop} (j:Nat) {tb:TypeId} {cs:List D} {d:D} (h1:σ[j]?=some (b,.cells tb cs)) (h2:Nat.ble (off+sz) cs.length=true) (h3:mkD ag ((cs.drop off).take sz)=d) (h:W (K d)):Ld P o ρ σ b off ag sz K:=
 ⟨.inl ⟨j,tb,cs,h1,by rwa [Nat.ble_eq] at h2,by rw [h3];exact h.h⟩⟩
theorem Ld.yd {b off:Nat} {ag:Bool} {sz:Nat} {K:D→Prop} {o:Oper} {ρ:Operand→D} {d:D} (h:Yd P o ρ σ d) (k:W (K d)):Ld P o ρ σ b off ag sz K:=⟨.inr ⟨d,h,k.h⟩⟩
theorem Sv.at {b off:Nat} {new:List D} {sz:Nat} {K:aa1→Prop} (j:Nat) {tb:TypeId} {cs:List D} {σ':aa1} (h1:σ[j]?=some (b,.cells tb cs)) (h2:new.length=sz) (h3:Nat.ble (off+sz) cs.length=true) (h4:new.all oneD=true) (h5:σ.set j (b,.cells tb (spl cs off new))=σ') (h:W (K σ')):Sv σ b off new sz K:=
 ⟨j,tb,cs,σ',h1,h2,by rwa [Nat.ble_eq] at h3,h4,List.Perm.of_eq h5,h.h⟩
theorem Sv.perm {b off:Nat} {new:List D} {sz:Nat} {K:aa1→Prop} {tb:TypeId} {cs cs':List D} {τ:aa1} (h1:σ.Perm ((b,.cells tb cs) :: τ)) (h2:new.length=sz) (h3:off+sz≤cs.length) (h4:new.all oneD=true) (h5:spl cs off new=cs') (h:W (K ((b,.cells tb cs') :: τ))):Sv σ b off new sz K:=by
 obtain ⟨j,hj⟩:=List.getElem?_of_mem (h1.mem_iff.2 (List.mem_cons_self (a:=(b,Blk.cells tb cs))))
 obtain ⟨hl,he⟩:=List.getElem?_eq_some_iff.1 hj
 refine ⟨j,tb,cs,_,hj,h2,h3,h4,?_,h.h⟩
 rw [h5]
 have e1:σ=σ.take j ++ (b,Blk.cells tb cs) :: σ.drop (j+1):=by
  rw [← he,List.getElem_cons_drop,List.take_append_drop]
 have e2:σ.set j (b,Blk.cells tb cs')=σ.take j ++ (b,Blk.cells tb cs') :: σ.drop (j+1):=by
  rw [List.set_eq_take_append_cons_drop,if_pos hl]
 have h6:σ.Perm ((b,Blk.cells tb cs) :: (σ.take j ++ σ.drop (j+1))):=by
  refine (List.Perm.of_eq e1).trans List.perm_middle
 have h7:τ.Perm (σ.take j ++ σ.drop (j+1)):=(List.perm_cons _).1 (h1.symm.trans h6)
 rw [e2]
 exact List.perm_middle.trans (List.Perm.cons _ h7.symm)
theorem Ld.mem {b off:Nat} {ag:Bool} {sz:Nat} {K:D→Prop} {o:Oper} {ρ:Operand→D} {tb:TypeId} {cs:List D} {d:D} (h1:(b,Blk.cells tb cs)∈σ) (h2:off+sz≤cs.length) (h3:mkD ag ((cs.drop off).take sz)=d) (h:W (K d)):Ld P o ρ σ b off ag sz K:=by
 obtain ⟨j,hj⟩:=List.getElem?_of_mem h1
 exact ⟨.inl ⟨j,tb,cs,hj,h2,by rw [h3];exact h.h⟩⟩
theorem Ot.yd {o:Oper} {ρ:Operand→D} {K:D→Prop} {d:D} (h:Yd P o ρ σ d) (k:W (K d)):Ot P o ρ σ K:=⟨d,h,k.h⟩
theorem Cp.by {g:FuncId} {args:List D} {K:D→Prop} {d:D} (h:APure P g args d) (k:W (K d)):Cp P g args σ K:=⟨d,h.pk,k.h⟩
theorem Cp.pk {g:FuncId} {args:List D} {K:D→Prop} {d:D} (h:APk P g args σ d) (k:W (K d)):Cp P g args σ K:=⟨d,h,k.h⟩
theorem APure.call {g:FuncId} {args:List D} {d:D} (h:APure P g args d):ACall P g args [] (fun d' s'=>d'=d∧s'=[]):=
 ⟨h.ent,fun w X vs hv hs=>(h.run w (Own [] X) vs hv hs.gok).mono fun e w' ⟨u,h1,h2,h3⟩=>⟨u,d,[],h1,⟨rfl,rfl⟩,h2,hs.ex h3,Mv.of_ex h3⟩⟩
theorem ASome.call {g:FuncId} {args:List D} {R:D→Prop} (h:ASome P g args R):ACall P g args [] (fun d' s'=>R d'∧s'=[]):=
 ⟨h.ent,fun w X vs hv hs=>(h.run w (Own [] X) vs hv hs.gok).mono fun e w' ⟨u,d,h1,h2,h3,h4⟩=>⟨u,d,[],h1,⟨h2,rfl⟩,h3,hs.ex h4,Mv.of_ex h4⟩⟩
theorem CE.pure {g:FuncId} {args:List D} {K:D→aa1→Prop} {d:D} (h:APure P g args d) (k:W (K d σ)):CE P g args σ K:=
 ⟨[],σ,_,List.Perm.refl _,h.call,fun d' s' ⟨h1,h2⟩=>by subst h1 h2;exact ⟨σ,List.Perm.refl _,k.h⟩⟩
theorem CE.some {g:FuncId} {args:List D} {K:D→aa1→Prop} {R:D→Prop} (h:ASome P g args R) (k:∀ d,R d→W (K d σ)):CE P g args σ K:=
 ⟨[],σ,_,List.Perm.refl _,h.call,fun d' s' ⟨h1,h2⟩=>by subst h2;exact ⟨σ,List.Perm.refl _,(k _ h1).h⟩⟩
theorem APk.call {g:FuncId} {args:List D} {d:D} (h:APk P g args σ d):ACall P g args σ (fun d' s'=>d'=d∧s'=σ):=
 ⟨h.ent,fun w X vs hv hs=>(h.run w X vs hv hs).mono fun e w' ⟨u,h1,h2,h3⟩=>⟨u,d,σ,h1,⟨rfl,rfl⟩,h2,hs.ex h3,Mv.of_ex h3⟩⟩
theorem CE.pk {g:FuncId} {args:List D} {K:D→aa1→Prop} {d:D} (h:APk P g args σ d) (k:W (K d σ)):CE P g args σ K:=
 ⟨σ,[],_,by simp,h.call,fun d' s' ⟨h1,h2⟩=>by subst h1 h2;exact ⟨_,by simp,k.h⟩⟩
theorem CE.own {g:FuncId} {args:List D} {s t:aa1} {K:D→aa1→Prop} {R:D→aa1→Prop} (h:ACall P g args s R) (hp:σ.Perm (s ++ t)) (fs:aa1→aa1) (hq:∀ s',(s' ++ t).Perm (fs s')) (k:∀ d s',R d s'→W (K d (fs s'))):CE P g args σ K:=⟨s,t,R,hp,h,fun d s' hr=>⟨_,hq s',(k d s' hr).h⟩⟩
theorem Rt.by {R:D→aa1→Prop} {d d':D} {σ':aa1} (h:Vs σ d σ' d') (k:R d' σ'):Rt R d σ:=⟨d',σ',h,k⟩
theorem Rt.same {R:D→aa1→Prop} {d:D} (k:R d σ):Rt R d σ:=⟨d,σ,Vs.refl _ _,k⟩
theorem Rt.pure {d d':D} (h:d=d'):Rt (fun x _=>x=d') d σ:=⟨d',σ,by rw [h];exact Vs.refl _ _,rfl⟩
theorem Rt.le {d d':D} (h:Le d d'):Rt (fun x _=>x=d') d σ:=⟨d',σ,Vs.le h,rfl⟩
theorem Rt.vs {d d':D} {σ':aa1} (h:Vs σ d σ' d'):Rt (fun x _=>x=d') d σ:=⟨d',σ',h,rfl⟩
end
end
section
open Go Go.RowKit Go.Shelf
section
variable {P:Program} {σ τ:aa1} {T:TypeId→Option TI} {w:World}
theorem Rd.stable {O:Nat→Prop} {d:D} {u:Value} (h:Rd w O d u):Rd w (fun _=>False) d u:=
 h.keep (Nat.le_refl _) (fun _ _ _ h=>h) (fun _ _ _=>rfl)
theorem RdL.stable {O:Nat→Prop} {d:List D} {u:List Value} (h:RdL w O d u):RdL w (fun _=>False) d u:=
 h.keep (Nat.le_refl _) (fun _ _ _ h=>h) (fun _ _ _=>rfl)
structure Pk (σ:aa1) (d d':D):Prop where
 run:∀ (w:World) (X:Nat→Prop) (u:Value),StOK w X σ→Rd w (Own σ X) d u→Rd w (fun _=>False) d' u
inductive PkL (σ:aa1):List D→List D→Prop
 | nil:PkL σ [] []
 | cons {d d':D} {ds ds':List D} (h:Pk σ d d') (t:PkL σ ds ds'):PkL σ (d :: ds) (d' :: ds')
theorem Pk.same (d:D):Pk σ d d:=⟨fun _ _ _ _ h=>h.stable⟩
theorem Pk.le {d d':D} (h:Le d d'):Pk σ d d':=⟨fun _ _ _ _ k=>h _ _ _ k.stable⟩
theorem Pk.row {e:TypeId} {k:Nat} {xs:List (List D)} {v:Value} {s:aa1} (h:RowIs e k xs v s) (hp:σ.Perm (s ++ τ)):Pk σ (.v v) (.sl k xs):=
 ⟨fun w X u hs hr=>by have:=hr.val rfl;subst this;exact (ay3 h (hs.perm hp)).stable⟩
theorem PkL.rd {ds ds':List D} (h:PkL σ ds ds') {X:Nat→Prop} (hs:StOK w X σ):∀ {us:List Value},RdL w (Own σ X) ds us→RdL w (fun _=>False) ds' us:=by
 induction h with
 | nil=>exact fun h=>⟨h.len,fun j d u h1=>by simp at h1⟩
 | cons h t ih=>
  intro vs hv
  cases vs with
  | nil=>have:=hv.len;simp at this
  | cons v vs=>
   exact .cons (h.run _ _ _ hs (hv.at_ 0 _ _ rfl rfl)) (ih ⟨by have:=hv.len;simpa using this,fun j d u h1 h2=>hv.at_ (j+1) d u (by simpa using h1) (by simpa using h2)⟩)
theorem Pk.agg {ds ds':List D} (h:PkL σ ds ds'):Pk σ (.agg ds) (.agg ds'):=⟨fun w X u hs hr=>by
 obtain ⟨vs,rfl,h1⟩:=hr.agg_inv
 have:=h.rd hs h1
 exact .agg _ _ this.len this.at_⟩
theorem Pk.clo {f:FuncId} {ds ds':List D} (h:PkL σ ds ds'):Pk σ (.clo f ds) (.clo f ds'):=⟨fun w X u hs hr=>by
 obtain ⟨vs,rfl,h1⟩:=hr.clo_inv
 have:=h.rd hs h1
 exact .clo _ _ _ this.len this.at_⟩
theorem PkL.refl:∀ ds:List D,PkL σ ds ds
 | []=>.nil
 | d :: ds=>.cons (Pk.same d) (PkL.refl ds)
theorem Pk.ptr {j b:Nat} {tb:TypeId} {cs cs':List D} (hb:σ[j]?=some (b,.cells tb cs)) (h:PkL σ cs cs'):Pk σ (.v (.pointer (some ⟨b,0,none⟩))) (.ro cs'):=⟨fun w X u hs hr=>by
 have:=hr.val rfl
 subst this
 obtain ⟨_,ob,hob,vs,rfl,hvs⟩:=hs.at_ b _ (List.mem_of_getElem? hb)
 have hr:=h.rd hs hvs
 refine .ro _ _ _ (fun m=>vs.getD m undef) (fun h=>h) (Array.getElem?_eq_some_iff.1 hob).1 (fun m hm=>?_) (fun m d hd=>?_)
 ·have:m<vs.length:=by rw [hr.len];exact hm
  simp [World.cell?,hob,this]
 ·obtain ⟨u,k1,k2⟩:=hr.get hd
  simpa [List.getD_eq_getElem?_getD,k1] using k2⟩
def isV:D→Bool
 | .v _=>true
 | _=>false
def bI1:D→Bool
 | .v _=>true
 | .tup ds=>ds.all isV
 | .agg ds=>ds.all isV
 | _=>false
theorem bx1 {O O':Nat→Prop} {w':World} {d:D} {u:Value} (h:Rd w O d u) (hd:isV d=true):Rd w' O' d u:=by
 cases d <;> first|(have:=h.val rfl;subst this;exact .v _)|cases hd
theorem bf4 {O O':Nat→Prop} {d:D} {u:Value} (h:Rd w O d u) (hd:bI1 d=true):Rd w O' d u:=by
 cases d with
 | v x=>exact bx1 h rfl
 | tup ds=>
  obtain ⟨vs,rfl,h1⟩:=h.tup_inv
  exact .tup _ _ h1.len fun j d u g1 g2=>bx1 (h1.at_ j d u g1 g2) (List.all_eq_true.1 hd _ (List.mem_of_getElem? g1))
 | agg ds=>
  obtain ⟨vs,rfl,h1⟩:=h.agg_inv
  exact .agg _ _ h1.len fun j d u g1 g2=>bx1 (h1.at_ j d u g1 g2) (List.all_eq_true.1 hd _ (List.mem_of_getElem? g1))
 | _=>cases hd
theorem APk.peek {g:FuncId} {args args':List D} {d:D} (hp:PkL σ args args') (h:APure P g args' d) (hf:bI1 d=true):APk P g args σ d:=
 ⟨h.ent,fun w X vs hv hs=>(h.run w (fun _=>False) vs (hp.rd hs hv) (hs.gok.mono (fun b hb=>hb.elim))).mono fun e w' ⟨u,h1,h2,h3⟩=>⟨u,h1,bf4 h2 hf,h3⟩⟩
theorem APk.le {g:FuncId} {args args':List D} {d:D} (hl:LeL args args') (h:APure P g args' d):APk P g args σ d:=
 ⟨h.ent,fun w X vs hv hs=>h.run w _ vs (hl.rd hv) hs.gok⟩
/-! ### What is handed back -/
structure VsL (σ:aa1) (ds:List D) (σ':aa1) (ds':List D):Prop where
 run:∀ (w:World) (X:Nat→Prop) (us:List Value),StOK w X σ→RdL w (Own σ X) ds us→StOK w X σ'∧RdL w (Own σ' X) ds' us
 sub:∀ b,b∈ab4 σ'→b∈ab4 σ
theorem aT1 {σ':aa1} {X:Nat→Prop} (h:∀ b,b∈ab4 σ'→b∈ab4 σ) (b:Nat) (hn:¬ Own σ X b):¬ Own σ' X b:=fun ho=>hn (ho.imp id (h b))
theorem VsL.nil (σ:aa1):VsL σ [] σ []:=⟨fun _ _ _ h1 h2=>⟨h1,h2⟩,fun _ h=>h⟩
theorem VsL.cons {σ' σ'':aa1} {d d':D} {ds ds':List D} (h:Vs σ d σ' d') (t:VsL σ' ds σ'' ds'):VsL σ (d :: ds) σ'' (d' :: ds'):=
 ⟨fun w X us hs hr=>by
  cases us with
  | nil=>have:=hr.len;simp at this
  | cons v vs=>
   obtain ⟨g1,g2⟩:=h.run w X v hs (hr.at_ 0 _ _ rfl rfl)
   have htl:RdL w (Own σ X) ds vs:=⟨by have:=hr.len;simpa using this,fun j d u h1 h2=>hr.at_ (j+1) d u (by simpa using h1) (by simpa using h2)⟩
   obtain ⟨k1,k2⟩:=t.run w X vs g1 (htl.keep (Nat.le_refl _) (fun b _ hn=>aT1 h.sub b hn) (fun _ _ _=>rfl))
   exact ⟨k1,.cons (g2.keep (Nat.le_refl _) (fun b _ hn=>aT1 t.sub b hn) (fun _ _ _=>rfl)) k2⟩,fun b hb=>h.sub b (t.sub b hb)⟩
theorem Vs.tup {σ':aa1} {ds ds':List D} (h:VsL σ ds σ' ds'):Vs σ (.tup ds) σ' (.tup ds'):=⟨fun w X u hs hr=>by
 obtain ⟨vs,rfl,h1⟩:=hr.tup_inv
 obtain ⟨g1,g2⟩:=h.run w X vs hs h1
 exact ⟨g1,.tup _ _ g2.len g2.at_⟩,h.sub⟩
theorem Vs.agg {σ':aa1} {ds ds':List D} (h:VsL σ ds σ' ds'):Vs σ (.agg ds) σ' (.agg ds'):=⟨fun w X u hs hr=>by
 obtain ⟨vs,rfl,h1⟩:=hr.agg_inv
 obtain ⟨g1,g2⟩:=h.run w X vs hs h1
 exact ⟨g1,.agg _ _ g2.len g2.at_⟩,h.sub⟩
theorem ag6 {σ':aa1} (h:σ.Perm σ') (b:Nat) (hb:b∈ab4 σ'):b∈ab4 σ:=(h.map Prod.fst).mem_iff.2 hb
theorem Vs.row {e:TypeId} {k:Nat} {xs:List (List D)} {v:Value} {s:aa1} (h:RowIs e k xs v s) (hp:σ.Perm (s ++ τ)):Vs σ (.v v) τ (.sl k xs):=
 ⟨fun w X u hs hr=>by
  have:=hr.val rfl
  subst this
  exact ⟨(hs.perm hp).sub (List.sublist_append_right _ _),ay3 h (hs.perm hp)⟩,fun b hb=>ag6 hp b (by rw [aa4];exact List.mem_append_right _ hb)⟩
theorem Vs.drop {d:D} (hs:τ.Sublist σ):Vs σ d τ d:=
 ⟨fun w X u h1 h2=>⟨h1.sub hs,h2.keep (Nat.le_refl _) (fun b _ hn=>ak3 hs b hn) (fun _ _ _=>rfl)⟩,fun b hb=>(hs.map Prod.fst).subset hb⟩
theorem Vs.perm {d:D} (hp:σ.Perm τ):Vs σ d τ d:=
 ⟨fun w X u h1 h2=>⟨h1.perm hp,h2.keep (Nat.le_refl _) (fun b _ hn=>aT1 (ag6 hp) b hn) (fun _ _ _=>rfl)⟩,ag6 hp⟩
theorem Vs.ptr {b:Nat} {tb:TypeId} {cs:List D} (hp:σ.Perm ((b,.cells tb cs) :: τ)):Vs σ (.v (.pointer (some ⟨b,0,none⟩))) τ (.ro cs):=
 ⟨fun w X u hs hr=>by
  have:=hr.val rfl
  subst this
  have hs':=hs.perm hp
  have hsub:τ.Sublist ((b,Blk.cells tb cs) :: τ):=List.sublist_cons_self _ _
  obtain ⟨hX,ob,hob,vs,rfl,hvs⟩:=hs'.at_ b _ List.mem_cons_self
  have hnO:¬ Own τ X b:=by
   rintro (h|h)
   ·exact hX h
   ·have hnd:=hs'.nodup
    simp only [ab4,List.map_cons,List.nodup_cons] at hnd
    exact hnd.1 h
  refine ⟨hs'.sub hsub,.ro _ _ _ (fun m=>vs.getD m undef) hnO (Array.getElem?_eq_some_iff.1 hob).1 (fun m hm=>?_) (fun m d hd=>?_)⟩
  ·have:m<vs.length:=by rw [hvs.len];exact hm
   simp [World.cell?,hob,this]
  ·obtain ⟨u,k1,k2⟩:=hvs.get hd
   have:Rd w (Own τ X) d u:=k2.keep (Nat.le_refl _) (fun b _ hn=>ak3 hsub b hn) (fun _ _ _=>rfl)
   simpa [List.getD_eq_getElem?_getD,k1] using this,fun b hb=>ag6 hp b (List.mem_cons_of_mem _ hb)⟩
inductive Chk (f':Frm):Frm→Prop
 | nil:Chk f' []
 | cons {i:Nat} {d:D} {F:Frm} (h:am5 f' i=some d) (t:Chk f' F):Chk f' ((i,d) :: F)
theorem aa2 {f' F:Frm} (h:Chk f' F):chkF f' F:=by
 induction h with
 | nil=>rfl
 | cons h t ih=>unfold chkF at *;simp only [List.map_cons,h,ih]
theorem OtE.yd {P:Program} {r:Option Nat} {n df N:Nat} {L:List Oper} {o:Oper} {f:Frm} {K:Frm→aa1→Prop} {d:D} (hn:ag7 o.op=true) (h:Yd P o (evF f) σ d) (k:W (putK N o.dst d f (fun f'=>K f' σ))):OtE P r n df L N o f σ K:=
 ⟨fun rest Q a hs hw hk=>by obtain ⟨f',hs',h4⟩:=ac7 k.h hs;exact bB2 hw hn (h.le hs.le) (hk _ _ _ h4 hs')⟩
theorem ai2 (hm:P.follows .mixedOrders=true) (hT:∀ t i,T t=some i→tiOf P t=some i) {r:Option Nat} {n:Nat} {df:Nat} {N:Nat} {f:Frm} {Q:Fst} {c:Code} {γ:Type} (ps:γ→Frm) (S:γ→aa1) (I:γ→Prop) (μ:γ→Nat) (g₀:γ)
  (h1:chkF f (aq3 c f (ps g₀))) (h2:(S g₀).Sublist σ) (h3:I g₀)
  (h4:∀ g,I g→W (aC1 (aq3 c f (ps g)) fun F=>am1 P T r n df N c (bs7 (fun f' σ'=>∃ g',chkF f' (aq3 c f (ps g'))∧(S g').Sublist σ'∧I g'∧μ g' < μ g) Q) F (S g))) :
  Lp P r n df N (.loop c) Q f σ:=by
 refine ⟨fun a hs=>?_⟩
 refine aU9 (fun m a σ=>∃ g,μ g=m∧I g∧Sp N a (aq3 c f (ps g))∧(S g).Sublist σ) (μ g₀) ⟨g₀,rfl,h3,hs.sub h1,h2⟩ ?_
 rintro m a σ ⟨g,rfl,hI,hS,hsub⟩
 refine bJ8 hsub (ap6 (am0 hm hT (ao5 (h4 g hI).h) hS) ?_)
 rintro e a' σ' ⟨f',hs',h'⟩
 cases e with
 | normal=>obtain ⟨g',k1,k2,k3,k4⟩:=h';exact ⟨μ g',k4,g',rfl,k3,hs'.sub k1,k2⟩
 | _=>exact ⟨f',hs',h'⟩
/-! ### append,at the stops -/
theorem Ap.go {t e:TypeId} {i j:TI} {ag:Bool} {k by_:Nat} {xs ys zs:List (List D)} {v:Value} {s:aa1} {K:D→aa1→Prop} (h1:T t=some i) (h2:i.sl=some (e,ag,k,by_)) (h3:T e=some j) (h4:(Nat.beq j.zero.length j.size && Nat.blt 0 k && Nat.beq j.size k)=true)
  (hr:RowIs e k xs v s) (hp:σ.Perm (s ++ τ)) (ho:(ys.all fun y=>y.all oneD)=true) (hz:xs ++ ys=zs) (hb:zs.length*by_≤140737488355328) (hm:zs.length≤1000000000) (fs:aa1→aa1) (hq:∀ s',(s' ++ τ).Perm (fs s'))
  (kk:∀ a c s',RowIs e k zs (.slice a zs.length c) s'→W (K (.v (.slice a zs.length c)) (fs s'))):Ap P T σ (.v v) (.sl k ys) t K:=by
 subst hz
 simp only [Bool.and_eq_true] at h4
 rw [List.length_append] at hb hm
 refine ⟨e,i,j,ag,k,by_,xs,ys,v,s,[],τ,h1,h2,h3,Nat.eq_of_beq_eq_true h4.1.1,by simpa [Nat.blt_eq] using h4.1.2,Nat.eq_of_beq_eq_true h4.2,rfl,.inl ⟨rfl,rfl⟩,hr,hp,fun y hy=>List.all_eq_true.1 ho y hy,hb,hm,.inl fun v' s' hr'=>?_⟩
 obtain ⟨a,c,rfl⟩:=hr'.slice
 exact ⟨_,hq s',(kk a c s' hr').h⟩
theorem ai4 (s:aa1):s.Perm (s ++ []):=by simp
theorem ao0 (s:aa1):(s ++ []).Perm s:=by simp
theorem bd9 (x:Nat × Blk) (s:aa1):(x :: s).Perm (s ++ [x]):=(List.perm_append_singleton x s).symm
theorem aO2 (x:Nat × Blk) (s:aa1):(s ++ [x]).Perm (x :: s):=List.perm_append_singleton x s
theorem Ap.frz {t e:TypeId} {i j:TI} {ag:Bool} {k by_:Nat} {xs ys zs:List (List D)} {v:Value} {s:aa1} {K:D→aa1→Prop} (h1:T t=some i) (h2:i.sl=some (e,ag,k,by_)) (h3:T e=some j) (h4:(Nat.beq j.zero.length j.size && Nat.blt 0 k && Nat.beq j.size k)=true)
  (hr:RowIs e k xs v s) (hp:σ.Perm (s ++ τ)) (ho:(ys.all fun y=>y.all oneD)=true) (hz:xs ++ ys=zs) (hb:zs.length*by_≤140737488355328) (hm:zs.length≤1000000000)
  (kk:W (K (.sl k zs) τ)):Ap P T σ (.v v) (.sl k ys) t K:=by
 subst hz
 simp only [Bool.and_eq_true] at h4
 rw [List.length_append] at hb hm
 exact ⟨e,i,j,ag,k,by_,xs,ys,v,s,[],τ,h1,h2,h3,Nat.eq_of_beq_eq_true h4.1.1,by simpa [Nat.blt_eq] using h4.1.2,Nat.eq_of_beq_eq_true h4.2,rfl,.inl ⟨rfl,rfl⟩,hr,hp,fun y hy=>List.all_eq_true.1 ho y hy,hb,hm,.inr kk.h⟩
theorem Ld.cell {o:Oper} {ρ:Operand→D} {b off:Nat} {K:D→Prop} (j:Nat) {tb:TypeId} {cs:List D} {d:D} (h1:σ[j]?=some (b,.cells tb cs)) (h2:cs[off]?=some d) (h:W (K d)):Ld P o ρ σ b off false 1 K:=by
 have hlt:=(List.getElem?_eq_some_iff.1 h2).1
 refine ⟨.inl ⟨j,tb,cs,h1,by omega,?_⟩⟩
 have:(cs.drop off).take 1=[d]:=by
  rw [List.drop_eq_getElem_cons hlt]
  simp [(List.getElem?_eq_some_iff.1 h2).2]
 rw [this]
 exact h.h
theorem Sv.cell {b off:Nat} {d:D} {K:aa1→Prop} (j:Nat) {tb:TypeId} {cs cs':List D} (h1:σ[j]?=some (b,.cells tb cs)) (h2:off<cs.length) (h3:oneD d=true) (h4:cs.set off d=cs') (h:W (K (σ.set j (b,.cells tb cs')))):Sv σ b off [d] 1 K:=by
 subst h4
 refine ⟨j,tb,cs,_,h1,rfl,h2,by simp [h3],List.Perm.of_eq ?_,h.h⟩
 congr 3
 unfold spl
 rw [List.set_eq_take_append_cons_drop,if_pos h2]
 simp
/-! ### Results that lie in memory -/
theorem ay7 {b:Nat} {t tb:TypeId} {cs:List D} {ti:TI} {X:Nat→Prop} (hT:∀ t i,T t=some i→tiOf P t=some i) (hst:StOK w X σ) {m:Nat} (hb:σ[m]?=some (b,.cells tb cs)) (ht:T t=some ti) (hag:ti.agg=true) (hs:ti.size=cs.length) :
  ∃ vs:List Value,(loadVar t ⟨b,0,none⟩).run P w = .ok (.agg vs.toArray) w∧RdL w (Own σ X) cs vs:=by
 obtain ⟨_,ob,hob,vs,rfl,hvs⟩:=hst.at_ b _ (List.mem_of_getElem? hb)
 obtain ⟨g1,g2⟩:=aE6 (hT t ti ht) w
 rw [hag] at g1
 have hcell:∀ q,q<cs.length→w.cell? ⟨b,0+q,none⟩=some (vs.getD q undef):=by
  intro q hq
  have:q<vs.length:=by rw [hvs.len];exact hq
  simp [World.cell?,hob,this]
 have hl:=ar2 (P:=P) (w:=w) (f:=fun q=>vs.getD q undef) g1 g2 (fun q hq=>hcell q (by omega))
 have hmap:(List.range ti.size).map (fun q=>vs.getD q undef)=vs:=by
  apply List.ext_getElem?
  intro q
  by_cases hq:q<ti.size
  ·have:q<vs.length:=by rw [hvs.len];omega
   simp [hq,this]
  ·have:vs.length≤q:=by rw [hvs.len];omega
   simp [hq,this]
 rw [hmap] at hl
 refine ⟨vs,?_,hvs⟩
 have:=hl
 simp only [Instr.loadAt,Instr.sureAddr,Sem.run_bind,Sem.run_pure,Result.andThen] at this
 exact this
variable {N:Nat} {f:Frm} {fn:Func}
theorem Rs.c (hT:∀ t i,T t=some i→tiOf P t=some i) {j m b:Nat} {t tb:TypeId} {cs:List D} {ti:TI} {K:D→Prop} (h:fn.results = #[.cell j t]) (hj:evF f (.tmp j) = .v (.pointer (some ⟨b,0,none⟩))) (hb:σ[m]?=some (b,.cells tb cs)) (ht:T t=some ti) (hag:ti.agg=true) (hs:ti.size=cs.length)
  (k:W (K (.agg cs))):Rs P N fn f σ K:=by
 refine ⟨_,fun a ha=>?_,k.h⟩
 intro w X tm hf hst
 obtain ⟨vs,h1,h2⟩:=ay7 hT hst hb ht hag hs
 have hp:=(ai9 hf j).val (ha.eq hj (fun h=>by cases h))
 exact ⟨.agg vs.toArray,by simp [results,h,hp,asAddr,h1,Result.andThen,-Array.getD_eq_getD_getElem?],.agg _ _ h2.len h2.at_⟩
theorem Rs.tc (hT:∀ t i,T t=some i→tiOf P t=some i) {i j m b:Nat} {t tb:TypeId} {cs:List D} {ti:TI} {d:D} {K:D→Prop} (h:fn.results = #[.tmp i,.cell j t]) (hi:evF f (.tmp i)=d) (hj:evF f (.tmp j) = .v (.pointer (some ⟨b,0,none⟩))) (hb:σ[m]?=some (b,.cells tb cs)) (ht:T t=some ti) (hag:ti.agg=true) (hs:ti.size=cs.length)
  (k:W (K (.tup [d,.agg cs]))):Rs P N fn f σ K:=by
 subst hi
 refine ⟨_,fun a ha=>?_,k.h⟩
 intro w X tm hf hst
 obtain ⟨vs,h1,h2⟩:=ay7 hT hst hb ht hag hs
 have hp:=(ai9 hf j).val (ha.eq hj (fun h=>by cases h))
 refine ⟨.tuple #[tm.getD i undef,.agg vs.toArray],by simp [results,h,hp,asAddr,h1,Result.andThen,-Array.getD_eq_getD_getElem?],?_⟩
 have:=RdL.cons (an2 ha i _ _ _ (ai9 hf i)) (RdL.cons (Rd.agg (w:=w) (O:=Own σ X) cs vs h2.len h2.at_) RdL.nil)
 exact .tup _ _ this.len this.at_
theorem Rs.ct (hT:∀ t i,T t=some i→tiOf P t=some i) {i j m b:Nat} {t tb:TypeId} {cs:List D} {ti:TI} {d:D} {K:D→Prop} (h:fn.results = #[.cell j t,.tmp i]) (hi:evF f (.tmp i)=d) (hj:evF f (.tmp j) = .v (.pointer (some ⟨b,0,none⟩))) (hb:σ[m]?=some (b,.cells tb cs)) (ht:T t=some ti) (hag:ti.agg=true) (hs:ti.size=cs.length)
  (k:W (K (.tup [.agg cs,d]))):Rs P N fn f σ K:=by
 subst hi
 refine ⟨_,fun a ha=>?_,k.h⟩
 intro w X tm hf hst
 obtain ⟨vs,h1,h2⟩:=ay7 hT hst hb ht hag hs
 have hp:=(ai9 hf j).val (ha.eq hj (fun h=>by cases h))
 refine ⟨.tuple #[.agg vs.toArray,tm.getD i undef],by simp [results,h,hp,asAddr,h1,Result.andThen,-Array.getD_eq_getD_getElem?],?_⟩
 have:=RdL.cons (Rd.agg (w:=w) (O:=Own σ X) cs vs h2.len h2.at_) (RdL.cons (an2 ha i _ _ _ (ai9 hf i)) RdL.nil)
 exact .tup _ _ this.len this.at_
end
end
section
open Go
def aq2 (x:Sch) (o i:Int) (f:Fld) (g:Fld) (j:Nat):Bool:=decide (g.kind=7) && seq g.of f.name && decide (upIx x o j=i)
def ai1 (x:Sch) (o i:Int) (f:Fld) (fs:List Fld) (n:Nat):List Int:=
 ((List.range n).filter fun (j:Nat)=>match fs[j]? with|some g=>aq2 x o i f g j|none=>false).map (fun (j:Nat)=>(j:Int))
theorem ap4 (x:Sch) (o i:Int) (f:Fld) (fs:List Fld) (n:Nat) (g:Fld) (h:fs[n]?=some g):ai1 x o i f fs (n+1)=ai1 x o i f fs n ++ (if aq2 x o i f g n then [(n:Int)] else []):=by
 simp only [ai1,List.range_succ,List.filter_append,List.map_append]
 congr 1
 simp only [List.filter_cons,h,List.filter_nil]
 split <;> simp_all
theorem aE7 (x:Sch) (o i:Int) (f:Fld) (fs:List Fld) (n:Nat):(ai1 x o i f fs n).length≤n:=by
 simp only [ai1,List.length_map]
 exact Nat.le_trans (List.length_filter_le _ _) (by simp)
theorem bd2 (x:Sch) (i:Int) (f:Fld) (k:Knd) (hk:af3 x (ab6 x f.of)=some k):aG6 x i f=ai1 x (ab6 x f.of) i f k.fields k.fields.length:=by
 simp only [aG6,hk,ai1,aq2] <;> rfl
theorem bw7 (x:Sch) (n:ByteArray) (h:0≤ab6 x n):∃ (o:Nat) (k:Knd),ab6 x n=o∧x.kinds[o]?=some k∧seq k.name n=true:=by
 unfold ab6 idx at *
 split at h
 ·rename_i o ho
  obtain ⟨h1,h2,_⟩:=List.findIdx?_eq_some_iff_getElem.1 ho
  exact ⟨o,x.kinds[o],by simp [ho],List.getElem?_eq_getElem h1,h2⟩
 ·omega
theorem bj0 (x:Sch) (i:Int) (f:Fld) (h:0≤au3 x i f):∃ (o:Nat) (k:Knd),au3 x i f=o∧x.kinds[o]?=some k:=by
 unfold au3 at *
 split at h
 ·obtain ⟨o,k,h1,h2,_⟩:=bw7 x f.of h
  exact ⟨o,k,by rw [if_pos (by assumption)];exact h1,h2⟩
 ·omega
theorem bQ5 (x:Sch) (i j:Int) (h:0≤upIx x i j):∃ (o:Nat) (k:Knd),upIx x i j=o∧x.kinds[o]?=some k:=by
 unfold upIx at *
 cases hf:fieldAt x i j with
 | none=>simp [hf] at h
 | some f=>
  simp only [hf] at h ⊢
  split at h
  ·rename_i h7
   simp only [h7,if_true]
   unfold aB0 at *
   split at h
   ·rename_i g hg;exact bj0 x i g h
   ·omega
  ·rename_i h7
   simp only [h7,if_false]
   split at h
   ·rename_i h1;simp only [h1,if_true];exact bj0 x i f h
   ·omega
def topF (x:Sch) (i j:Int) (f:Fld):Option Fld:=
 if upIx x i j<0 then none else match af3 x (upIx x i j) with|some k=>fieldAt x (upIx x i j) (ac2 k f.of)|none=>none
def aI1:Fld:=⟨⟨#[]⟩,⟨#[]⟩,⟨#[]⟩,0,0,0,[],[]⟩
def topR (x:Sch) (i j:Int) (f:Fld):Fld × Bool:=match topF x i j f with|some g=>(g,true)|none=>(aI1,false)
def atR (x:Sch) (i j:Int):Fld × Bool:=match fieldAt x i j with|some g=>(g,true)|none=>(aI1,false)
def am9:List (Bool × Int)→Int
 | []=>0
 | (true,c) :: _=>c
 | (false,_) :: l=>am9 l
def ag9 (x:Sch) (k:Knd) (o:Int) (n:ByteArray):Bool:=!isE n && !(atR x o (ac2 k n)).2
def ae3 (x:Sch) (k:Knd) (o:Int) (n:ByteArray):Bool:=!isE n && ((atR x o (ac2 k n)).1.kind != 2 && (atR x o (ac2 k n)).1.kind != 4)
def ag5 (x:Sch) (i:Nat) (r:Rul):Bool:=(x.rules.take i).any (fun s=>seq s.name r.name)
def ay1 (x:Sch) (i:Nat) (r:Rul):Int:=
 match af3 x (ab6 x r.kind) with
 | none=>am9 [(ag5 x i r,7),(true,12),(false,13),(seq r.a r.b,1)]
 | some k=>am9 [(ag5 x i r,7),(ag9 x k (ab6 x r.kind) r.a || ag9 x k (ab6 x r.kind) r.b,12),(ae3 x k (ab6 x r.kind) r.a || ae3 x k (ab6 x r.kind) r.b,13),(seq r.a r.b,1)]
theorem az3:∀ (fs:List (Bool × Int)) (n:Nat),(∀ (j:Nat) x,j<n→fs[j]?=some x→x.1=false)→am9 (fs.drop n)=am9 fs
 | fs,0,_=>by simp
 | [],n+1,_=>by simp
 | (b,c) :: l,n+1,h=>by
  have hb:b=false:=h 0 (b,c) (by omega) rfl
  subst hb
  have:=az3 l n (fun j x hj hx=>h (j+1) x (by omega) (by simpa using hx))
  simpa [am9] using this
theorem by6 {fs:List (Bool × Int)} {n:Nat} {x:Bool × Int} (h:∀ (j:Nat) x,j<n→fs[j]?=some x→x.1=false) (hx:fs[n]?=some x) (hb:x.1=true):am9 fs=x.2:=by
 rw [← az3 fs n h]
 have hlt:=(List.getElem?_eq_some_iff.1 hx).1
 have he:=(List.getElem?_eq_some_iff.1 hx).2
 rw [List.drop_eq_getElem_cons hlt,he]
 obtain ⟨b,c⟩:=x
 simp only at hb;subst hb;rfl
theorem bf5 {fs:List (Bool × Int)} (h:∀ (j:Nat) x,fs[j]?=some x→x.1=false):am9 fs=0:=by
 rw [← az3 fs fs.length (fun j x _ hx=>h j x hx),List.drop_length];rfl
end
section
open Go
abbrev Prb:=Int × Int × Int × Int
def one (k f r e:Int):List Prb:=if e=0 then [] else [(k,f,r,e)]
theorem aw4 (k f r e:Int):(one k f r e).length≤1:=by unfold one;split <;> simp
def upTo {α:Type} (q:Nat) (g:Nat→List α):List α:=(List.range q).flatMap g
theorem ag4 {α:Type} (q:Nat) (g:Nat→List α):upTo (q+1) g=upTo q g ++ g q:=by simp [upTo,List.range_succ,List.flatMap_append]
theorem ad9 {α:Type} {g:Nat→List α} {m:Nat} (h:∀ i,(g i).length≤m):∀ q,(upTo q g).length≤q*m
 | 0=>by simp [upTo]
 | q+1=>by rw [ag4,List.length_append,Nat.add_mul];have:=ad9 h q;have:=h q;omega
def as5 (x:Sch) (i:Int) (f:Fld):Int × List Int:=if aA2 x i f then (-1,[]) else (ab6 x f.of,aG6 x i f)
def abvR (x:Sch) (i j:Int) (f:Fld):Int × Fld:=match topF x i j f with
 | none=>(-1,aI1)
 | some g=>(g.kind,g)
def bb9 (x:Sch) (i j:Int) (f:Fld) (up:Int):Int:=
 if up<0 then 12
 else if f.kind=7 then (if (abvR x i j f).1=6∧ab6 x (abvR x i j f).2.of=i then 0 else 13)
 else if (abvR x i j f).1<0∨(abvR x i j f).1=0∨(abvR x i j f).1=1∨(abvR x i j f).1=6∨(abvR x i j f).1=7 then 13 else 0
def dayE (x:Sch) (i j:Int) (f:Fld):Int:=match af3 x i with
 | none=>0
 | some k=>if isE f.of then 0 else if ac2 k f.of<0∨j≤ac2 k f.of then 12 else match k.fields[(ac2 k f.of).toNat]? with|some g=>if g.kind=4 then 0 else 12|none=>12
def af1 (x:Sch) (i j:Int) (f:Fld):Int:=
 if f.kind=0∧0<j then 13
 else if f.kind=0∨f.kind=2∨f.kind=3 then 0
 else if f.kind=1 then (if upIx x i j<0 then 12 else 0)
 else if f.kind=4 then dayE x i j f
 else if f.kind=5 then (if x.lives.any (fun l=>seq l.name f.of) then 0 else 12)
 else if f.kind=6 then (if (as5 x i f).1<0 then 12 else if (as5 x i f).2.length=1 then 0 else 11)
 else bb9 x i j f (upIx x i j)
def aY7 (fs:List Fld):Bool:=match fs with | []=>false|f :: _=>decide (f.kind=0)
def aK5 (x:Sch) (i:Nat) (l:Lif):Bool:=(x.lives.take i).any (fun m=>seq m.name l.name)
def aM9 (x:Sch) (i:Nat):List Prb:=match x.lives[i]? with|some l=>one (-1) i (-1) (if aK5 x i l then 7 else 0)|none=>[]
def ao3 (x:Sch) (i:Nat) (k:Knd):Int:=if ab6 x k.name<i then 7 else if aY7 k.fields then 0 else 11
def aL3 (x:Sch) (i:Nat) (k:Knd) (j:Nat) (f:Fld):Int:=if ac2 k f.name<j then 7 else af1 x i j f
def ag8 (x:Sch) (i:Nat) (k:Knd) (j:Nat):List Prb:=match k.fields[j]? with|some f=>one i j (-1) (aL3 x i k j f)|none=>[]
def al3 (x:Sch) (i:Nat):List Prb:=match x.kinds[i]? with|some k=>one i (-1) (-1) (ao3 x i k) ++ upTo k.fields.length (ag8 x i k)|none=>[]
def aR0 (x:Sch) (i:Nat):List Prb:=match x.rules[i]? with|some r=>one (-1) (-1) i (ay1 x i r)|none=>[]
def ak7 (x:Sch):Int:=if am6 x then 0 else 1
def aA9 (x:Sch):List Prb:=if ak7 x=0 then upTo x.lives.length (aM9 x) ++ upTo x.kinds.length (al3 x) ++ upTo x.rules.length (aR0 x) else [(-1,-1,-1,ak7 x)]
theorem aY2 (x:Sch) (i:Nat):(aM9 x i).length≤1:=by unfold aM9;split;exact aw4 _ _ _ _;simp
theorem aP0 (x:Sch) (i:Nat) (k:Knd) (j:Nat):(ag8 x i k j).length≤1:=by unfold ag8;split;exact aw4 _ _ _ _;simp
theorem bt8 (x:Sch) (i:Nat):(aR0 x i).length≤1:=by unfold aR0;split;exact aw4 _ _ _ _;simp
theorem bw6 (x:Sch) (i:Nat) (h:∀ k∈x.kinds,k.fields.length≤10):(al3 x i).length≤11:=by
 unfold al3
 split
 ·rename_i k hk
  rw [List.length_append]
  have h1:=ad9 (aP0 x i k) k.fields.length
  have h2:=h k (List.mem_of_getElem? hk)
  have h3:=aw4 i (-1) (-1) (ao3 x i k)
  omega
 ·simp
structure Vld (x:Sch):Prop where
 nk:x.kinds.length≤6
 nl:x.lives.length≤6
 nr:x.rules.length≤16
 nf:∀ k∈x.kinds,k.fields.length≤10
 kinds:∀ k∈x.kinds,al8 k=true
 lives:∀ l∈x.lives,al7 l=true
 rules:∀ r∈x.rules,aw7 r=true
theorem cc5 {x:Sch} (h:am6 x=true):Vld x:=by
 simp only [am6,Bool.and_eq_true,decide_eq_true_eq,List.all_eq_true] at h
 obtain ⟨⟨⟨⟨⟨⟨_,h2⟩,h3⟩,h4⟩,h5⟩,h6⟩,h7⟩:=h
 exact ⟨h2,h3,h4,fun k hk=>by have:=h5 k hk;simp only [al8,Bool.and_eq_true,decide_eq_true_eq] at this;exact this.1.2,h5,h6,h7⟩
theorem bq8 {x:Sch} (h:ak7 x=0):Vld x:=by
 unfold ak7 at h
 split at h
 ·exact cc5 (by assumption)
 ·omega
end
end Go.Proofs.YtlcfiilejnnlnaaGreatDoor
