/- A part of the proof: Mp Lo Jn Jp V2 Iv Ix Bl. -/
import Derived.Test.YtilnpcolgcmofaaGreatDoorS08
import Derived.WideKeyEntry
set_option maxRecDepth 100000
set_option maxHeartbeats 20000000
set_option linter.all false
namespace Go.Proofs.YtilnpcolgcmofaaGreatDoor
open Tryz
section
open Go Go.RowKit Go.Shelf Go.Maps Go.MapKept
open Go.ChangeMaps (setBlock modify_eq_set heap_setBlock_same heap_setBlock_other)
section
open Classical in
noncomputable local instance:DecidableEq (Nat×aE):=λ_ _=>propDecidable _
noncomputable def ct (a:Nat×aE) (l:af):Nat:=l.count a
noncomputable def ct1 (a x:Nat×aE):Nat:=[x].count a
theorem jh(a:Nat×aE):ct a []=0:=by simp[ct]
theorem iS(a x:Nat×aE)(l:af):ct a (x::l)=ct1 a x+ct a l:=by
 unfold ct ct1;rw[show x::l=[x]++l from rfl,List.count_append]
theorem jP(a:Nat×aE)(l m:af):ct a (l++m)=ct a l+ct a m:=by simp[ct]
theorem IB{l m:af}(h:l.Perm m)(a:Nat×aE):ct a l=ct a m:=by unfold ct;exact h.count_eq a
theorem iT{l m:af}(h:∀a,ct a l=ct a m):l.Perm m:=List.perm_iff_count.2 h
end
def be(P:Program)(k:TypeId)(f:Value->Option Value)(o:Obj):Prop:=∃e c n,o= .map e c/\fG P k e c n f
def xi(P:Program)(k:TypeId)(f:Value->Option Value)(y s:Value)(o:Obj):Prop:=∃a c n,o= .map a c/\fG P k a c n f/\∃e∈a.toList,e.key=y/\s=goInt e.born
theorem xi.is{P:Program}{k:TypeId}{f:Value->Option Value}{y s:Value}{o:Obj}(h:xi P k f y s o):be P k f o:=by
 obtain⟨e,c,n,b,a,_⟩:=h;exact⟨e,c,n,b,a⟩
def gw(d:D)(kv:Value):Prop:=∀(w:World)(O:Nat->Prop)(u:Value),Rd w O d u->u=kv
theorem gw.v(x:Value):gw (.v x) x:=λ_ _ _ h=>h.val rfl
section
variable {P:Program} {r:Option Nat} {n:Nat} {df:Nat} {N:Nat} {σ τ:af} {ρ:Operand->D} {f:aM} {L:List Oper} {k t e:TypeId} {F:Value->Option Value} {b:Nat} {kv z:Value} {kl:Lit}
theorem sb{w:World}{X:Nat->Prop}{ok:Obj->Prop}(h:aU w X σ)(a:(b,aE.obj ok)∈σ):∃o,w.heap[b]?=some o/\ok o:=by
 obtain⟨_,o,d,c⟩:=h.at_ b _ a;exact⟨o,d,c⟩
theorem tG{o:Oper}{m y:Operand}{ok:Obj->Prop}(i:o.op= .lookup t m y false)(x:ρ m= .v (.map (some b)))(A:gw (ρ y) kv)(B:(b,aE.obj ok)∈σ)(f:∀o,ok o->be P k F o)
  (K:Keyed P k) (u:P.underlying t=some (.map k e)) (r:∀w,(zeroValue e).run P w= .ok z w) (a:keyOf P k kv=some kl):Yd P o ρ σ (.v ((F kv).getD z)):=by
 intro w X η h d;obtain⟨dst,I,H,pos,G,g⟩:=o;simp only at i;subst i;have D:=(h m (by simp[Op.operands])).val x;have C:=A _ _ _ (h y (by simp[Op.operands]));obtain⟨J,l,j⟩:=sb d B;obtain⟨E,c,p,rfl,q⟩:=f _ j;exact dC (s:=Instr.lookup t (η m) (η y) false) (by rw[D,C];exact bU.look (n:=p) ⟨E,c,l,q⟩ K u (r w) a) (Ex.refl w) (.v _)
theorem DW{p:Prop}(h:p:=by
 obtain⟨f',hs',h4⟩:=fE (kk w.heap.size).h hsp;exact⟨_,_,g2,(hst.mv g2 g1).put (.v _) o.dst,hk _ _ _ h4 hs'⟩):p:=h
theorem ci.makeMap{o:Oper}{K:aM->af->Prop}(d:o.op= .makeMap t none)(kk:∀b,W (aR N o.dst (.v (.map (some b))) f (λf'=>K f' ((b,.obj (be P k λ_=>none))::σ)))):ci P r n df L N o f σ K:=by
 refine⟨λc Q a hsp e hk=>?_⟩;refine oM e (by rw[d];rfl) λw X g hst=>?_;have e0:(execOp g.eval o).run P w= .ok (.value (.map (some w.heap.size))) (w.alloc (.map #[] 0)):=by
  simp only[execOp,d]
  rfl
 rw[e0];have z:be P k (λ_=>none) (.map #[] 0):=⟨#[],0,0,rfl,⟨by simp,stamped_empty 0,by simp,by simp,by simp⟩⟩
 obtain⟨g1,g2,i⟩:=hst.st.new (.map #[] 0) (.obj (be P k λ_=>none)) z;exact DW
theorem kK{w w':World}{s:af}(p:σ.Perm τ)(h:Mv w τ w' s):Mv w σ w' s:=h.wider (λb a=>(wy p b a))
theorem ci.obj{o:Oper}{K:aM->af->Prop}{ok:Obj->Prop}(I:iR o.op=true)(y:σ.Perm ((b,aE.obj ok)::τ))
  (h:∀(w:World)(q:Act)(X:Nat->Prop)(s:Obj),(∀x,Rd w (ay σ X) (aK f x) (q.eval x))->w.heap[b]?=some s->ok s ->
   ∃(d:D)(u:Value)(e:Obj->Prop)(k:World)(j:Obj),((execOp q.eval o).run P w= .ok (.value u) k\/((execOp q.eval o).run P w= .ok .skip k/\u=undef/\d= .v undef))/\(∀w O,Rd w O d u)/\aW (λx=>x=b) w k/\k.heap[b]?=some j/\e j/\aR N o.dst d f (λE=>K E ((b,.obj e)::τ))):ci P r n df L N o f σ K:=by
 refine⟨λA Q a p H B=>?_⟩;refine oM H I λw X q t=>?_;have c:=t.perm y;obtain⟨s,G,F⟩:=sb c.st (yN);obtain⟨d,u,e,k,j,m,T,S,R,M,J⟩:=h w q X s (λx=>p.le x _ _ _ (t.fr.eval x)) G F;obtain⟨U,z,W,V⟩:=c.st.upd (i:=0) (k':=.obj e) rfl S R M;obtain⟨E,l,C⟩:=fE J p;have g:=(c.mv z U).put (T k _) o.dst;rcases m with m|⟨m,rfl,rfl⟩
 .rw[m];exact⟨d,_,kK y z,g,B _ _ _ C l⟩
 .rw[m];exact⟨_,kK y z,g,B _ _ _ C l⟩
theorem ci.mapUpdate{o:Oper}{m y x:Operand}{a:Value}{K:aM->af->Prop}(l:o.op= .mapUpdate t m y x)(D:aK f m= .v (.map (some b)))(E:gw (aK f y) kv)(hx:aK f x= .v a)(G:σ.Perm ((b,aE.obj (be P k F))::τ))
  (S:Keyed P k) (C:P.underlying t=some (.map k e)) (d:keyOf P k kv=some kl) (B:W (aR N o.dst (.v undef) f (λO=>K O ((b,.obj (be P k (de F kv a)))::τ)))):ci P r n df L N o f σ K:=by
 refine ci.obj (by rw[l];rfl) G λw U X T h i g=>?_;obtain⟨Q,c,A,rfl,q⟩:=g;obtain⟨p,M,⟨j,R,J,I⟩,H⟩:=bU.update (v:=a) (n:=A) ⟨Q,c,i,q⟩ S C d;refine⟨.v undef,undef,be P k (de F kv a),p,_,.inr ⟨?_,rfl,rfl⟩,λ_ _=>.v _,H,J,⟨j,R,_,rfl,I⟩,B.h⟩;have z:=(h m).val D;have u:=E _ _ _ (h y);have s:=(h x).val hx;simp only[execOp,l,z,u,s]
 show(do let _ ←Instr.mapUpdate t (.map (some b)) kv a;pure Next.skip).run P w=_;simp only[Sem.run_bind,M,Result.andThen,Sem.run_pure]
theorem ci.mapEntry{o:Oper}{m key:Operand}{K:aM->af->Prop}{ok:Obj->Prop}(s:o.op= .mapEntry t m key)(R:aK f m= .v (.map (some b)))(T:gw (aK f key) kv)(U:σ.Perm ((b,aE.obj ok)::τ))(q:∀o,ok o->be P k F o)
  (p:Keyed P k) (I:P.underlying t=some (.map k e)) (Q:∀w,(zeroValue e).run P w= .ok z w) (a:keyOf P k kv=some kl) (H:∀st,W (aR N o.dst (.tup [.v ((F kv).getD z),.v st]) f (λV=>K V ((b,.obj (xi P k (de F kv ((F kv).getD z)) kv st))::τ)))):ci P r n df L N o f σ K:=by
 refine ci.obj (by rw[s];rfl) U λw fr X Z i d l=>?_;obtain⟨B,c,G,rfl,E⟩:=q _ l;have D:=(i m).val R;have C:=T _ _ _ (i key);have tup:∀(x y:Value)w O,Rd w O (.tup [.v x,.v y]) (.tuple #[x,y]):=λx y w O=>by
  have J:=bb.cons (w:=w) (O:=O) (Rd.v x) (bb.cons (Rd.v y) bb.nil);exact Rd.tup [.v x,.v y] _ J.len J.at_
 rcases E.look p a w with⟨u,A,g⟩|⟨j,e0,u,g,M,A⟩
 .refine⟨.tup [.v z,.v (goInt c)],.tuple #[z,goInt c],xi P k (de F kv z) kv (goInt c),setBlock w b (.map (B.push ⟨kv,z,c⟩) (c+1)),_,.inl ?_,λw O=>tup _ _ w O,aW.setBlock d,heap_setBlock_same d _,⟨_,_,G+1,rfl,E.push a g,⟨kv,z,c⟩,by simp,rfl,rfl⟩,?_⟩
  .simp only[execOp,s,D,C]
   show(do let v ←Instr.mapEntry t (.map (some b)) kv;pure (Next.value v)).run P w=_;simp[Instr.mapEntry,run_underlying I,MapKept.run_getObj_map d,p.check w false a,u,Q,MapKept.run_setObj_map _ d,Result.andThen,setBlock]
  .have:=(H (goInt c)).h;rw[A]at this;exact this
 .have S:B[j]?=some e0:=by simpa using g
  have Y:=E.modify (v:=e0.val) a g M (λe=>{ e with key:=kv }) (λ_=>rfl) rfl rfl;refine⟨.tup [.v e0.val,.v (goInt e0.born)],.tuple #[e0.val,goInt e0.born],xi P k (de F kv e0.val) kv (goInt e0.born),setBlock w b (.map (B.modify j λe=>{ e with key:=kv }) c),_,.inl ?_,λw O=>tup _ _ w O,aW.setBlock d,heap_setBlock_same d _,⟨_,_,G,rfl,Y,{ e0 with key:=kv },?_,rfl,rfl⟩,?_⟩
  .simp only[execOp,s,D,C]
   show(do let v ←Instr.mapEntry t (.map (some b)) kv;pure (Next.value v)).run P w=_;simp[Instr.mapEntry,run_underlying I,MapKept.run_getObj_map d,p.check w false a,u,S,M,p.stays w a,MapKept.run_setObj_map _ d,Result.andThen,setBlock]
  .rw[Array.toList_modify,modify_eq_set _ _ _ _ g];exact List.mem_set (zE.1 g).1 _
  .have:=(H (goInt e0.born)).h;rw[A]at this;exact this
theorem D6{s:Array MapEntry}{c n:Nat}(E:fG P k s c n F){e0:MapEntry}{j:Nat}(h:s.toList[j]?=some e0):s.findIdx? (λe=>((e.born:Nat):Int)==((e0.born:Nat):Int))=some j:=by
 rw[WideElems.findIdx_arr];exact WideElems.findIdx_born ((stamped_iff s c).1 E.stamped).2.1 h
theorem ci.entryStore{o:Oper}{m st x:Operand}{a s:Value}{K:aM->af->Prop}(l:o.op= .entryStore t m st x)(G:aK f m= .v (.map (some b)))(D:aK f st= .v s)(hx:aK f x= .v a)(H:σ.Perm ((b,aE.obj (xi P k F kv s))::τ))
  (y:keyOf P k kv=some kl) (C:W (aR N o.dst (.v undef) f (λI=>K I ((b,.obj (be P k (de F kv a)))::τ)))):ci P r n df L N o f σ K:=by
 refine ci.obj (by rw[l];rfl) H λw Q X O d h g=>?_;obtain⟨J,c,B,rfl,E,e0,i,p,rfl⟩:=g;obtain⟨j,q⟩:=yO i;have M:=E.modify (v:=a) y q p (λe=>{ e with val:=a }) (λ_=>rfl) p rfl;refine⟨.v undef,undef,be P k (de F kv a),setBlock w b (.map (J.modify j λe=>{ e with val:=a }) c),_,.inr ⟨?_,rfl,rfl⟩,λ_ _=>.v _,aW.setBlock h,heap_setBlock_same h _,⟨_,_,B,rfl,M⟩,C.h⟩;have A:=(d m).val G;have z:=(d st).val D;have u:=(d x).val hx;simp only[execOp,l,A,z,u]
 show(do let _ ←Instr.entryStore t (.map (some b)) (goInt e0.born) a;pure Next.skip).run P w=_;simp[Instr.entryStore,MapKept.run_getObj_map h,asInt,asIntOf,goInt,D6 E q,MapKept.run_setObj_map _ h,Result.andThen,setBlock]
end
end
section
open Go Go.RowKit Go.Shelf
section
variable {P:Program} {r:Option Nat} {n:Nat} {df:Nat} {N:Nat} {σ:af} {f:aM} {L:List Oper} {T:TypeId->Option TI} {Q:gJ}
theorem aF8{ρ:Operand->D}{k t e:TypeId}{F:Value->Option Value}{b:Nat}{kv z u:Value}{kl:Lit}{o:Oper}{m y:Operand}{ok:Obj->Prop}(g:o.op= .lookup t m y false)(i:ρ m= .v (.map (some b)))(j:gw (ρ y) kv)(l:(b,aE.obj ok)∈σ)(a:∀o,ok o->be P k F o)
  (K:Maps.Keyed P k) (f:P.underlying t=some (.map k e)) (c:∀w,(zeroValue e).run P w= .ok z w) (h:keyOf P k kv=some kl) (d:(F kv).getD z=u):Yd P o ρ σ (.v u):=by
 subst d;exact tG g i j l a K f c h
def KV(h:List Nat)(i:Nat):Bool:=!h.any (Nat.beq i)
theorem Pt{o:Array Oper}{E:Nat->Bool}{L c:List D->af->Prop}(h:∀a σ,L a σ->c a σ):∀{t:lV}{a:List D}{σ:af},gT P r n df o E L t a σ->gT P r n df o E c t a σ
 |.done,_,_,b=>h _ _ b
 |.one _ _,_,_,b=>cx (λ_ _=>Pt h) b
 |.two _ _ _ _,_,_,b=>⟨cx (λ_ _=>Pt h) b.1,cx (λ_ _=>Pt h) b.2⟩
 |.three _ _ _ _ _ _,_,_,b=>⟨cx (λ_ _=>Pt h) b.1,cx (λ_ _=>Pt h) b.2.1,cx (λ_ _=>Pt h) b.2.2⟩
theorem K4{p:Prop}(h:p:=by
 obtain⟨rfl,f',h1,h2⟩:=h';have:=Ph hT hB.2 h2 h1;exact Pt (λa σ h=>⟨rfl,h⟩) this):p:=h
theorem J7(m:P.follows .mixedOrders=true)(hT:∀t i,T t=some i->aD P t=some i){id:Nat}{O:Array Oper}(j:O=L.toArray)(s:List Nat)(u:Nat)(t:lV){γ:Type}(b:γ->aM)(S:γ->af)(I:γ->Prop)
  (hB:(Nat.beq (s.length+u) L.length&&jC .any L.toArray (KV s) u t s (Array.replicate L.length false)&&xu (KV s) t)=true)
  (h:W (gU P T N L (KV s) σ s (λf1=>I1 P T r n df N L (λf' σ'=>∃g,dK f' (gC (.region id O true) f (b g))/\S g=σ'/\I g) t f1 σ) f))
  (k:∀g,I g->W (Fj (gC (.region id O true) f (b g)) λF=>Q .normal F (S g))):Lp P r n df N (.region id O true) Q f σ:=by
 subst j;simp only[zJ]at hB;refine⟨λa c=>?_⟩;refine LV (aJ4 (Q:=λe d σ'=>e= .normal/\∃f',Sp N d f'/\∃g,dK f' (gC (.region id L.toArray true) f (b g))/\S g=σ'/\I g) (KV s) s u t m (yH hB.1.1) hB.1.2 (Y0 (λd σ' h'=>?_) (PQ hT h.h c))) ?_
 .exact K4
 .rintro e d σ' ⟨rfl,f',h1,g,h2,rfl,l⟩;exact⟨_,h1.sub h2,Pu (k g l).h⟩
end
end
section
open Go Go.RowKit Go.Shelf
section
variable {P:Program} {r:Option Nat} {n:Nat} {df:Nat} {N:Nat} {σ:af} {f:aM} {L:List Oper} {T:TypeId->Option TI} {Q:gJ}
theorem H6(m:P.follows .mixedOrders=true)(b:∀t i,T t=some i->aD P t=some i){c:Code}(h:W (lP P T r n df N c Q f σ)):Lp P r n df N c Q f σ:=⟨λa s=>LY m b h.h s⟩
theorem sv{c:Code}{τ:af}(p:σ.Perm τ)(k:Lp P r n df N c Q f τ):Lp P r n df N c Q f σ:=⟨λa s=>aL9 (λw X b h=>h.perm p) (λx hx=>wy p x hx) (k.run a s)⟩
def xI:=@List.getElem?_set_self
def wN:=@List.getElem?_set_ne
theorem xz{c:Code}{τ:af}{i:Nat}{d d':D}(G:gn f i=some d)(H:d ≠ .any)(h:Vs σ d τ d')(k:Lp P r n df N c Q ((i,d')::f) τ):Lp P r n df N c Q f σ:=by
 refine⟨λa s=>?_⟩;have o:a[i]?=some d:=by
  rcases s.at_ i d G with l|l
  .exact absurd l H
  .exact l
 have m:=(zE.1 o).1;refine aL9 (b:=a.set i d') (τ:=τ) (λw X K t=>?_) h.sub (k.run (a.set i d') ⟨by rw[yR];exact s.len,λj e g=>?_⟩)
 .obtain⟨u,B,C⟩:=t.fr.at_ i d o;obtain⟨J,I⟩:=h.run w X u t.st C;refine⟨⟨by rw[yR];exact t.fr.size,λj e g=>?_⟩,J,t.df.keep (zT _) (λx _ F E=>F (E.imp id (h.sub x))) (λ_ _ _=>rfl)⟩;by_cases y:i=j
  .subst y;rw[xI m]at g
   cases g
   exact⟨u,B,I⟩
  .rw[wN y]at g;obtain⟨v,A,z⟩:=t.fr.at_ j e g;exact⟨v,A,L8 z h.sub⟩
 .simp only[gn]at g
  cases p:Nat.beq i j with
  |true=>
   rw[p]at g;have:=yH p;subst this;simp only[cond_true,xB]at g;subst g;exact .inr (xI m)
  |false=>
   rw[p]at g;have q:i≠j:=λe=>by subst e;simp at p
   rcases s.at_ j e g with l|l
   .exact .inl l
   .exact .inr (by rw[wN q];exact l)
theorem ci.box{o:Oper}{t:TypeId}{x:Operand}{cs:List D}{K:aM->af->Prop}(d:o.op= .box t x)(hx:aK f x= .agg cs)(kk:∀b,W (aR N o.dst (.v (.pointer (some ⟨b,0,none⟩))) f (λf'=>K f' ((b,.cells t cs)::σ)))):ci P r n df L N o f σ K:=by
 refine⟨λc Q a hsp g hk=>?_⟩;refine oM g (by rw[d];rfl) λw X j hst=>?_;have e:=hsp.le x _ _ _ (hst.fr.eval x);rw[hx]at e;obtain⟨vs,i,s⟩:=e.agg_inv;have e0:(execOp j.eval o).run P w= .ok (.value (.pointer (some ⟨w.heap.size,0,none⟩))) (w.alloc (.cells vs.toArray t)):=by
  simp only[execOp,d,i]
  rfl
 rw[e0];obtain⟨g1,g2,k⟩:=hst.st.new (.cells vs.toArray t) (.cells t cs) ⟨vs,rfl,s⟩;exact DW
def Vd(σ τ:af)(d d':D):Prop:=∀(w:World)(X:Nat->Prop)(u:Value),aU w X σ->Rd w (ay σ X) d u->Rd w (ay τ X) d' u
theorem Vd.same{σ τ:af}(s:∀b,b∈aQ τ->b∈aQ σ)(d:D):Vd σ τ d d:=λ_ _ _ _ h=>L8 h s
theorem Vd.vs{σ τ:af}{d d':D}(h:Vs σ d τ d'):Vd σ τ d d':=λw X u s r=>(h.run w X u s r).2
inductive jV(σ τ:af):List D->List D->Prop
 |nil:jV σ τ [] []
 |cons {d d':D} {l l':List D} (h:Vd σ τ d d') (k:jV σ τ l l'):jV σ τ (d::l) (d'::l')
inductive oq(σ τ:af):List (List D)->List (List D)->Prop
 |nil:oq σ τ [] []
 |cons {d d':List D} {l l':List (List D)} (h:jV σ τ d d') (k:oq σ τ l l'):oq σ τ (d::l) (d'::l')
theorem jV.len{σ τ:af}{l a:List D}(h:jV σ τ l a):a.length=l.length:=by induction h with|nil=>rfl|cons _ _ i=>simp[i]
theorem oq.len{σ τ:af}{l a:List (List D)}(h:oq σ τ l a):a.length=l.length:=by induction h with|nil=>rfl|cons _ _ i=>simp[i]
theorem jV.same{σ τ:af}(h:∀b,b∈aQ τ->b∈aQ σ):∀l:List D,jV σ τ l l
 |[]=>.nil
 |d::l=>.cons (Vd.same h d) (jV.same h l)
theorem oq.same{σ τ:af}(h:∀b,b∈aQ τ->b∈aQ σ):∀l:List (List D),oq σ τ l l
 |[]=>.nil
 |d::l=>.cons (jV.same h d) (oq.same h l)
theorem jV.at_{σ τ:af}{l c:List D}(h:jV σ τ l c):∀{j:Nat}{b:D},c[j]?=some b->∃d,l[j]?=some d/\Vd σ τ d b:=by
 induction h with
 |nil=>intro j b h;simp at h
 |cons h k i=>
  intro j b a
  cases j with
  |zero=>simp at a;subst a;exact⟨_,rfl,h⟩
  |succ j=>simp at a;obtain⟨d,f,e⟩:=i a;exact⟨d,by simpa using f,e⟩
theorem oq.at_{σ τ:af}{l c:List (List D)}(h:oq σ τ l c):∀{j:Nat}{b:List D},c[j]?=some b->∃d,l[j]?=some d/\jV σ τ d b:=by
 induction h with
 |nil=>intro j b h;simp at h
 |cons h k i=>
  intro j b a
  cases j with
  |zero=>simp at a;subst a;exact⟨_,rfl,h⟩
  |succ j=>simp at a;obtain⟨d,f,e⟩:=i a;exact⟨d,by simpa using f,e⟩
theorem Vd.sl{σ τ:af}(v:∀b,b∈aQ τ->b∈aQ σ){k:Nat}{xs x:List (List D)}(h:oq σ τ xs x):Vd σ τ (.sl k xs) (.sl k x):=by
 intro w X u t A;obtain⟨a,l,f,J,p,C,G,r⟩:=A.sl_inv;rw[J,←h.len];refine .sl k _ a l f (by rw[h.len];exact p) (λy c=>?_) (λi y c=>?_) (λi y c j d F=>?_)
 .obtain⟨i,E⟩:=yO c;obtain⟨z,e,g⟩:=h.at_ E;rw[g.len];exact C z (zG e)
 .obtain⟨z,e,g⟩:=h.at_ c;obtain⟨b,o,s,n,m,q⟩:=G i z e;exact⟨b,o,s,λB=>n (B.imp id (v b)),m,q⟩
 .obtain⟨z,e,g⟩:=h.at_ c;obtain⟨d0,I,H⟩:=g.at_ F;exact H w X _ t (r i z e j d0 I)
theorem Vd.agg{σ τ:af}{l a:List D}(h:jV σ τ l a):Vd σ τ (.agg l) (.agg a):=by
 intro w X u t r;obtain⟨vs,rfl,v⟩:=r.agg_inv;refine .agg _ _ (by rw[h.len];exact v.len) (λj d u c b=>?_);obtain⟨d0,f,e⟩:=h.at_ c;exact e w X u t (v.at_ j d0 u f b)
theorem Vd.tup{σ τ:af}{l a:List D}(h:jV σ τ l a):Vd σ τ (.tup l) (.tup a):=by
 intro w X u t r;obtain⟨vs,rfl,v⟩:=r.tup_inv;refine .tup _ _ (by rw[h.len];exact v.len) (λj d u c b=>?_);obtain⟨d0,f,e⟩:=h.at_ c;exact e w X u t (v.at_ j d0 u f b)
theorem Vs.vd{σ τ:af}{d d':D}(p:∃ρ,σ.Perm (ρ++τ))(h:Vd σ τ d d'):Vs σ d τ d':=by
 obtain⟨ρ,p⟩:=p;exact⟨λw X u s r=>⟨(s.perm p).sub (wI _ _),h w X u s r⟩,λb a=>wy p b (by rw[eW];exact yW _ a)⟩
end
end
section
open Go Go.RowKit Go.Shelf
inductive dM:List (List D)->List (List D)->Prop
 |nil:dM [] []
 |cons {x y:List D} {xs ys:List (List D)} (h:fN x y) (t:dM xs ys):dM (x::xs) (y::ys)
theorem fN.refl:∀l:List D,fN l l
 |[]=>.nil
 |d::l=>.cons (Le.refl d) (fN.refl l)
theorem dM.refl:∀l:List (List D),dM l l
 |[]=>.nil
 |d::l=>.cons (fN.refl d) (dM.refl l)
theorem dM.append{a b c d:List (List D)}(h:dM a b)(k:dM c d):dM (a++c) (b++d):=by
 induction h with
 |nil=>exact k
 |cons h _ i=>exact .cons h i
theorem dM.len{a b:List (List D)}(h:dM a b):b.length=a.length:=by induction h with|nil=>rfl|cons _ _ i=>simp[i]
theorem fN.vd{σ τ:af}(s:∀b,b∈aQ τ->b∈aQ σ){a b:List D}(h:fN a b):jV σ τ a b:=by
 induction h with
 |nil=>exact .nil
 |cons h _ i=>exact .cons (λw X u _ r=>h _ _ _ (L8 r s)) i
theorem dM.vd{σ τ:af}(s:∀b,b∈aQ τ->b∈aQ σ){a b:List (List D)}(h:dM a b):oq σ τ a b:=by
 induction h with
 |nil=>exact .nil
 |cons h _ i=>exact .cons (h.vd s) i
theorem na{k:Nat}{xs ys:List (List D)}(h:dM xs ys):Le (.sl k xs) (.sl k ys):=by
 intro w O u t;obtain⟨a,s,f,A,p,v,x,r⟩:=t.sl_inv;have G:oq [] [] xs ys:=h.vd (λ_ h=>h);have l:∀{i:Nat}{y:List D},ys[i]?=some y->∃z,xs[i]?=some z/\fN z y:=by
  clear G r x v p A t
  induction h with
  |nil=>intro i y c;simp at c
  |cons h _ m=>
   intro i y c
   cases i with
   |zero=>simp at c;subst c;exact⟨_,rfl,h⟩
   |succ i=>simp at c;obtain⟨z,e,g⟩:=m c;exact⟨z,by simpa using e,g⟩
 have L:∀{z y:List D},fN z y->z.length=y.length/\∀{j:Nat}{q:D},y[j]?=some q->∃d,z[j]?=some d/\Le d q:=by
  intro z y H
  induction H with
  |nil=>exact⟨rfl,λh=>by simp at h⟩
  |cons h _ m=>
   refine⟨by simp[m.1],λ{j q}n=>?_⟩
   cases j with
   |zero=>simp at n;subst n;exact⟨_,rfl,h⟩
   |succ j=>simp at n;obtain⟨d,e,g⟩:=m.2 n;exact⟨d,by simpa using e,g⟩
 rw[A,←h.len];refine .sl k _ a s f (by rw[h.len];exact p) (λy c=>?_) (λi y c=>?_) (λi y c j d J=>?_)
 .obtain⟨i,I⟩:=yO c;obtain⟨z,e,g⟩:=l I;rw[←(L g).1];exact v z (zG e)
 .obtain⟨z,e,g⟩:=l c;obtain⟨b,o,F,E,C,B⟩:=x i z e;exact⟨b,o,F,E,C,B⟩
 .obtain⟨z,e,g⟩:=l c;obtain⟨d0,M,K⟩:=(L g).2 J;exact K _ _ _ (r i z e j d0 M)
theorem Pk.rowLe{σ τ:af}{e:TypeId}{k:Nat}{r xs:List (List D)}{v:Value}{s:af}(h:ae e k r v s)(l:dM r xs)(p:σ.Perm (s++τ)):Pk σ (.v v) (.sl k xs):=
 ⟨λw X u a b=>by have:=b.val rfl;subst this;exact na l _ _ _ (Mn h (a.perm p)).stable⟩
theorem Vd.rowLe{σ τ ρ:af}{e:TypeId}{k:Nat}{r xs:List (List D)}{v:Value}{s:af}(h:ae e k r v s)(l:dM r xs)(p:σ.Perm (s++ρ))(a:∀b,b∈aQ τ->b∈aQ ρ):Vd σ τ (.v v) (.sl k xs):=
 λw X u c d=>na l _ _ _ (L8 ((Vs.row h p).run w X u c d).2 a)
structure Sc(σ τ:af):Prop where
 run:∀(w:World)(X:Nat->Prop),aU w X σ->aU w X τ
 sub:∀b,b∈aQ τ->b∈aQ σ
theorem Sc.trans{a b c:af}(h:Sc a b)(k:Sc b c):Sc a c:=⟨λw X s=>k.run w X (h.run w X s),λx hx=>h.sub x (k.sub x hx)⟩
theorem Sc.perm{a b:af}(h:a.Perm b):Sc a b:=⟨λ_ _ s=>s.perm h,λx hx=>wy h x hx⟩
theorem Sc.frz{b:Nat}{t e:TypeId}{cs:List D}{j k:Nat}{xs ys:List (List D)}{v:Value}{s τ:af}(A:cs[j]?=some (.v v))(h:ae e k xs v s)(G:dM xs ys):Sc ((b,.cells t cs)::(s++τ)) ((b,.cells t (cs.set j (.sl k ys)))::τ):=by
 have a:∀x,x∈aQ ((b,aE.cells t (cs.set j (.sl k ys)))::τ)->x∈aQ ((b,aE.cells t cs)::(s++τ)):=λx hx=>by
  simp only[aQ,List.map_cons,yB,zU,zO]at hx⊢;rcases hx with h|h
  .exact .inl h
  .exact .inr (.inr h)
 refine⟨λw X g=>?_,a⟩;have O:∀x,x<w.heap.size->¬ay ((b,aE.cells t cs)::(s++τ)) X x->¬ay ((b,aE.cells t (cs.set j (.sl k ys)))::τ) X x:=λx _ F p=>F (p.imp id (a x));have E:((b,aE.cells t cs)::(s++τ)).Perm (s++((b,aE.cells t cs)::τ)):=List.perm_middle.symm;have l:=Mn h (g.perm E);have c:Rd w (ay ((b,aE.cells t (cs.set j (.sl k ys)))::τ) X) (.sl k ys) v:=na G _ _ _ (by
  have e:ay ((b,aE.cells t (cs.set j (.sl k ys)))::τ) X=ay ((b,aE.cells t cs)::τ) X:=rfl;rw[e];exact l)
 refine⟨?_,λx C q=>?_,g.xlt,g.gok.mono (λx p=>p.imp id (a x))⟩
 .have f:=g.nodup;simp only[aQ,List.map_cons,yB,wZ,zO,wR]at f⊢;exact⟨λh=>f.1 (.inr h),f.2.2.1⟩
 .rcases zU.1 q with H|q
  .cases H
   obtain⟨y,o,r,vs,rfl,m⟩:=g.at_ b _ yN;refine⟨y,_,r,vs,rfl,⟨by rw[yR];exact m.len,λi d u n z=>?_⟩⟩;by_cases B:j=i
   .subst B;rw[xI (zE.1 A).1]at n
    cases n
    have:=(m.at_ j _ u A z).val rfl;rw[this];exact c
   .rw[wN B]at n;exact L8 (m.at_ i d u n z) a
  .obtain⟨y,o,r,m⟩:=g.at_ x C (yQ _ (yW _ q));exact⟨y,o,r,r9 (zT _) O (λ_ _ _=>rfl) m⟩
section
variable {P:Program} {r:Option Nat} {n:Nat} {df:Nat} {N:Nat} {σ:af} {f:aM} {Q:gJ}
theorem Cc{c:Code}{τ:af}(p:Sc σ τ)(k:Lp P r n df N c Q f τ):Lp P r n df N c Q f σ:=
 ⟨λa s=>aL9 (λw X d h=>⟨h.fr.keep (zT _) (λx _ b o=>b (o.imp id (p.sub x))) (λ_ _ _=>rfl),p.run w X h.st,h.df.keep (zT _) (λx _ b o=>b (o.imp id (p.sub x))) (λ_ _ _=>rfl)⟩) p.sub (k.run a s)⟩
theorem Sc.refl(σ:af):Sc σ σ:=⟨λ_ _ h=>h,λ_ h=>h⟩
def xU:=@List.sublist_append_left
theorem Sc.drop{τ ρ:af}(h:σ.Perm (τ++ρ)):Sc σ τ:=⟨λ_ _ s=>(s.perm h).sub (xU _ _),λx hx=>wy h x (by rw[eW];exact xK _ hx)⟩
theorem Sc.sl{τ:af}(h:τ.Sublist σ):Sc σ τ:=⟨λ_ _ s=>s.sub h,λ_ hx=>(h.map Prod.fst).subset hx⟩
theorem Zw{c:Code}{a:List D}{g Q:eY}(h:dQ P r n df c g a σ)(k:∀e b σ',g e b σ'->∃τ,Sc σ' τ/\Q e b τ):dQ P r n df c Q a σ:=
 ⟨λw X u l=>wpIn_mono (h.run w X u l) λe t i⟨b,s,p,f,m⟩=>by
  obtain⟨τ,q,j⟩:=k e b s p;exact⟨b,τ,j,⟨f.fr.keep (zT _) (λx _ d o=>d (o.imp id (q.sub x))) (λ_ _ _=>rfl),q.run i X f.st,f.df.keep (zT _) (λx _ d o=>d (o.imp id (q.sub x))) (λ_ _ _=>rfl)⟩,m.fewer q.sub⟩⟩
variable {T:TypeId->Option TI} {L:List Oper}
theorem DR{p:Prop}(h:p:=by
 rintro e a' σ' ⟨rfl,f',h1,g,h2,h4,h3⟩;exact⟨S g,h4,_,h1.sub h2,Pu (kk g h3).h⟩):p:=h
theorem sw(m:P.follows .mixedOrders=true)(hT:∀t i,T t=some i->aD P t=some i){id:Nat}{O:Array Oper}(d:O=L.toArray)(s:List Nat)(u:Nat)(t:lV){γ:Type}(b:γ->aM)(S:γ->af)(I:γ->Prop)
  (hB:(Nat.beq (s.length+u) L.length&&jC .any L.toArray (KV s) u t s (Array.replicate L.length false)&&xu (KV s) t)=true)
  (h:W (gU P T N L (KV s) σ s (λf1=>I1 P T r n df N L (λf' σ'=>∃g,dK f' (gC (.region id O true) f (b g))/\Sc σ' (S g)/\I g) t f1 σ) f))
  (kk:∀g,I g->W (Fj (gC (.region id O true) f (b g)) λF=>Q .normal F (S g))):Lp P r n df N (.region id O true) Q f σ:=by
 subst d;simp only[zJ]at hB;refine⟨λa c=>?_⟩;refine Zw (aJ4 (Q:=λe a' σ'=>e= .normal/\∃f',Sp N a' f'/\∃g,dK f' (gC (.region id L.toArray true) f (b g))/\Sc σ' (S g)/\I g) (KV s) s u t m (yH hB.1.1) hB.1.2 (Y0 (λa' σ' h'=>?_) (PQ hT h.h c))) ?_
 .exact K4
 .exact DR
def WZ{γ:Type}(F:γ->aM)(S:γ->af)(I:γ->Prop)(Q:gJ):gJ
 |.normal,f,σ'=>∃g,dK f (F g)/\Sc σ' (S g)/\I g
 |e,f,σ'=>Q e f σ'
theorem I7(m:P.follows .mixedOrders=true)(j:∀t i,T t=some i->aD P t=some i){c:Code}{γ:Type}(p:γ->aM)(S:γ->af)(I:γ->Prop)
  (h:W (lP P T r n df N c (WZ (λg=>gC c f (p g)) S I Q) f σ))
  (k:∀g,I g->W (Fj (gC c f (p g)) λF=>Q .normal F (S g))):Lp P r n df N c Q f σ:=by
 refine⟨λa s=>Zw (LY m j h.h s) ?_⟩;rintro e v σ' ⟨u,d,b⟩
 cases e with
 |normal=>
  obtain⟨g,q,l,o⟩:=b;exact⟨S g,l,_,d.sub q,Pu (k g o).h⟩
 |_=>exact⟨σ',Sc.refl _,u,d,b⟩
theorem aV(w:P.follows .mixedOrders=true)(x:∀t i,T t=some i->aD P t=some i){c:Code}{γ:Type}(p:γ->aM)(S:γ->af)(I:γ->Prop)(μ:γ->Nat)(b:γ)
  (D:dK f (gC c f (p b))) (C:Sc σ (S b)) (B:I b)
  (A:∀g,I g->W (Fj (gC c f (p g)) λF=>lP P T r n df N c (l5 (λk σ'=>∃d,dK k (gC c f (p d))/\Sc σ' (S d)/\I d/\μ d < μ g) Q) F (S g))) :
  Lp P r n df N (.loop c) Q f σ:=by
 refine Cc C ⟨λa v=>?_⟩;refine bb3 (λm a σ=>∃g,μ g=m/\I g/\Sp N a (gC c f (p g))/\σ=S g) (μ b) ⟨b,rfl,B,v.sub D,rfl⟩ ?_;rintro m a σ ⟨g,rfl,z,y,rfl⟩;refine Zw (LY w x (Pu (A g z).h) y) ?_;rintro e E σ' ⟨k,j,l⟩
 cases e with
 |normal=>obtain⟨d,u,s,q,o⟩:=l;exact⟨S d,s,μ d,o,d,rfl,q,j.sub u,rfl⟩
 |_=>exact⟨σ',Sc.refl _,k,j,l⟩
end
end
section
open Go Go.RowKit
theorem cU{N:Nat}{σ:af}{g:FuncId}{fn:Func}{c:Code}{args:List D}{R:D->af->Prop}(hf:prog.funcs[g]?=some fn)(hN:fn.ntmps=N)(h:∀B,W (lP prog zr none 9 B N c (NA prog N fn R) (wm args) σ))(hname:(fn.name == "runtime.NumGoroutine")=false:=by kernel_rfl)(hb:fn.body=some c:=by exact rfl)(hl:Nat.ble args.length N=true:=by exact rfl):az prog g args σ R:=DC mixed ai hf hname hb hN hl h
theorem ao{N:Nat}{g:FuncId}{fn:Func}{c:Code}{args:List D}{d:D}(hf:prog.funcs[g]?=some fn)(hN:fn.ntmps=N)(h:∀B,W (lP prog zr none 9 B N c (NA prog N fn λd' _=>d'=d) (wm args) []))(hname:(fn.name == "runtime.NumGoroutine")=false:=by kernel_rfl)(hb:fn.body=some c:=by exact rfl)(hl:Nat.ble args.length N=true:=by exact rfl):APure prog g args d:=APure.of_call (DC mixed ai hf hname hb hN hl h)
theorem jI{A B:Prop}(k:B)(h:ar B->A:=by intro q7;(refine Dr.r ?_;(((with_reducible refine W.mk ?_);(conv=>whnf)));refine Dm.r ?_;refine W.mk ?_);exact q7.1):A:=h ⟨k⟩
section
variable {P:Program} {σ:af} {ρ:Operand->D} {T:TypeId->Option TI}
theorem re(G:∀t i,T t=some i->aD P t=some i){o:Oper}{t:TypeId}{x b:Operand}{n m k:Nat}{kk:IntKind}{j:Int}{cs:List D}{i:TI}(d:o.op= .index t x b)(hx:ρ x= .agg cs)(C:ρ b= .v (.int kk j))(q:T t=some i)(F:i.arr=some (n,true,k))(B:j=(m:Int))(A:m<n)(L:m*k+k<=cs.length){cs':List D}(E:(cs.drop (m*k)).take k=cs'):Yd P o ρ σ (.agg cs'):=by
 subst B E;intro w X η h r;obtain⟨dst,K,J,pos,I,g⟩:=o;simp only at d;subst d;have f:=h x (by simp[Op.operands]);rw[hx]at f;have H:=(h b (by simp[Op.operands])).val C;obtain⟨e,p,z⟩:=aK4 (G t i q) F;have c:=qP z w;obtain⟨vs,l,y⟩:=f.agg_inv;have a:=(y.drop (m*k)).take k;refine dC (s:=Instr.index t (η x) (η b)) (u:=.agg ((vs.drop (m*k)).take k).toArray) ?_ (Ex.refl w) (.agg _ _ a.len a.at_);rw[l,H];simp[Instr.index,Go.part,asIntOf,run_underlying p,Result.andThen,c.1,c.2,A]
end
def bX(i:VI):List D:=[iD i.op,iD i.a,iD i.b,iD i.c]
abbrev Im(i:VI):D:=.agg (bX i)
abbrev rC(p:cK):D:=.sl 4 (p.map bX)
def iU(s:ByteArray)(o:Int):List D:=[sD s,iD (cM o).1,iD (cM o).2.1,iD (cM o).2.2]
def Ks:List D:=iU ⟨#[115,116,111,112]⟩ 0++iU ⟨#[108,111,97,100]⟩ 1++iU ⟨#[97,100,100]⟩ 2++iU ⟨#[115,117,98]⟩ 3++iU ⟨#[115,105,122,101]⟩ 4++iU ⟨#[103,101,116]⟩ 5++iU ⟨#[106,117,109,112]⟩ 6++iU ⟨#[108,101,115,115]⟩ 7++iU ⟨#[115,97,109,101]⟩ 8
def wP:=@beq_self_eq_true
theorem FU{A B:Prop}(k:B)(h:ar B->A:=by intro q7;(first|((with_reducible refine W.mk ?_);(conv=>whnf))|(with_reducible refine ZR ?_)|(with_reducible refine ZQ ?_)|(with_reducible refine Br.n ?_)|(with_reducible refine S2 trivial ?_)|(with_reducible refine Br.t (wP _) ?_)|((with_reducible refine' Br.eq ?h ?_);(case h=>(simp only[zL,zR,zI,List.length_cons,List.length_nil,zY,Nat.reduceAdd];exact rfl)))|((with_reducible refine Sd.go ?qs7 ?_);(case qs7=>first|trivial|(constructor<;>omega)|omega|assumption|(refine And.intro ?_ (cA.mk ?_ ?_)<;>omega)|((try simp only[zL,zR,zI,List.length_cons,List.length_nil,zY,Nat.reduceAdd]at *);first|(constructor<;>omega)|omega)))|((with_reducible refine Ck.go ?qs7 ?_);(case qs7=>kernel_rfl))|((with_reducible refine' S1 ?hy ?h0 ?_);(case hy=>assumption);(case h0=>omega))|((with_reducible refine' Ix.at ?hy ?h0 ?_);(case hy=>exact rfl);(case h0=>omega))|((with_reducible refine Ix.mapM ?h0 ?_);(case h0=>first|omega|(simp only[zL,zR,zI,List.length_cons,List.length_nil,zY,Nat.reduceAdd]at *;omega))));exact q7.1):A:=h ⟨k⟩
theorem Kj{A B:Prop}(k:B)(h:ar B->A:=by intro q7;(first|((with_reducible refine' Ld.at 0 ?h1 ?h2 ?h3 ?_);(case h1=>exact rfl);(case h2=>exact rfl);(case h3=>exact rfl))|((with_reducible refine' Ld.at 1 ?h1 ?h2 ?h3 ?_);(case h1=>exact rfl);(case h2=>exact rfl);(case h3=>exact rfl))|((with_reducible refine' Ld.at 2 ?h1 ?h2 ?h3 ?_);(case h1=>exact rfl);(case h2=>exact rfl);(case h3=>exact rfl)));exact q7.1):A:=h ⟨k⟩
theorem FY{A B:Prop}(k:B)(h:ar B->A:=by intro q7;(first|((with_reducible refine' Sv.at 0 ?h1 ?h2 ?h3 ?h4 ?h5 ?_);(case h1=>exact rfl);(case h2=>exact rfl);(case h3=>exact rfl);(case h4=>exact rfl);(case h5=>exact(by first|(simp only[List.set_cons_succ,List.set_cons_zero,ft,gF,m4,List.take_succ_cons,List.take_zero,List.drop_succ_cons,List.drop_zero,List.length_cons,List.length_nil,List.nil_append,List.cons_append,Nat.reduceAdd,xD,zZ,List.map_cons,List.map_nil];rfl)|rfl)))|((with_reducible refine' Sv.at 1 ?h1 ?h2 ?h3 ?h4 ?h5 ?_);(case h1=>exact rfl);(case h2=>exact rfl);(case h3=>exact rfl);(case h4=>exact rfl);(case h5=>exact(by first|(simp only[List.set_cons_succ,List.set_cons_zero,ft,gF,m4,List.take_succ_cons,List.take_zero,List.drop_succ_cons,List.drop_zero,List.length_cons,List.length_nil,List.nil_append,List.cons_append,Nat.reduceAdd,xD,zZ,List.map_cons,List.map_nil];rfl)|rfl)))|((with_reducible refine' Sv.at 2 ?h1 ?h2 ?h3 ?h4 ?h5 ?_);(case h1=>exact rfl);(case h2=>exact rfl);(case h3=>exact rfl);(case h4=>exact rfl);(case h5=>exact(by first|(simp only[List.set_cons_succ,List.set_cons_zero,ft,gF,m4,List.take_succ_cons,List.take_zero,List.drop_succ_cons,List.drop_zero,List.length_cons,List.length_nil,List.nil_append,List.cons_append,Nat.reduceAdd,xD,zZ,List.map_cons,List.map_nil];rfl)|rfl)))|((with_reducible refine' Ot.yd ?hyd ?_);(case hyd=>first|(refine' ai0 ai rfl rfl rfl rfl rfl ?hc ?h0;(case hc=>assumption);(case h0=>omega))|(refine ah9 ai rfl rfl rfl rfl rfl ?_;first|omega|(simp only[zL,zR,zI,List.length_cons,List.length_nil,zY,Nat.reduceAdd];omega))|(refine ai4 ai rfl rfl rfl rfl rfl ?_;omega)|exact ar9 rfl rfl rfl underlying4|exact al7 rfl rfl rfl|exact al8 rfl rfl rfl))|((with_reducible refine' Rs.tc ai (m:=0) ?h ?hi ?hj ?hb ?ht ?hag ?hs ?_);(case h=>exact rfl);(case hi=>exact rfl);(case hj=>exact rfl);(case hb=>exact rfl);(case ht=>exact rfl);(case hag=>exact rfl);(case hs=>exact rfl))|((with_reducible refine' mT ai (m:=0) ?h ?hi ?hj ?hb ?ht ?hag ?hs ?_);(case h=>exact rfl);(case hi=>exact rfl);(case hj=>exact rfl);(case hb=>exact rfl);(case ht=>exact rfl);(case hag=>exact rfl);(case hs=>exact rfl))|((with_reducible refine' Rs.c ai (m:=0) ?h ?hj ?hb ?ht ?hag ?hs ?_);(case h=>exact rfl);(case hj=>exact rfl);(case hb=>exact rfl);(case ht=>exact rfl);(case hag=>exact rfl);(case hs=>exact rfl))|((with_reducible refine S2 ?h ?_);(case h=>omega))|((with_reducible refine Br.df ?h ?_);(case h=>omega))|((with_reducible refine Br.t ?h ?_);(case h=>assumption))|((with_reducible refine Br.f ?h ?_);(case h=>assumption))|((with_reducible refine Br.t ?h ?_);(case h=>(refine yJ ?_;omega)))|((with_reducible refine Br.f ?h ?_);(case h=>(refine yE ?_;omega))));exact q7.1):A:=h ⟨k⟩
theorem bQ{A B:Prop}(k:B)(h:ar B->A:=by intro q7;(first|refine FU ?_|refine Kj ?_|refine FY ?_);exact q7.1):A:=h ⟨k⟩
theorem zb{A B:Prop}(k:B)(h:ar B->A:=by intro q7;(first|(with_reducible refine Bc.l ?_)|(with_reducible refine Bx.l ?_));exact q7.1):A:=h ⟨k⟩
theorem ZN{A B:Prop}(k:B)(h:ar B->A:=by intro q7;(first|((with_reducible refine Dm.l ?h ?_);(case h=>decide +kernel))|((with_reducible refine Cb.go ?h ?_);(case h=>decide +kernel)));exact q7.1):A:=h ⟨k⟩
theorem MT{A B:Prop}(k:B)(h:ar B->A:=by intro q7;(first|((with_reducible refine Dr.l ?h ?_);(case h=>decide +kernel))|(with_reducible refine Dr.r ?_)|refine ZN ?_);exact q7.1):A:=h ⟨k⟩
theorem aA{A B:Prop}(k:B)(h:ar B->A:=by intro q7;(first|refine zb ?_|refine MT ?_);exact q7.1):A:=h ⟨k⟩
theorem ah{A:Prop}{H B:D->Prop}{d:D}(a:H d)(k:B d)(h:∀d,ar (H d)->ar (B d)->A:=by intro d p7 q7;(first|(with_reducible refine' Cp.by (d:=d) ?_ ?_)|(with_reducible refine' CE.pure (d:=d) ?_ ?_));exact p7.1;exact q7.1):A:=h d ⟨a⟩ ⟨k⟩
theorem aN{A B:Prop}(k:B)(h:ar B->A:=by intro q7;(first|refine bQ ?_|refine aA ?_|(refine' ah ?hc ?_;(case hc=>fail)));exact q7.1):A:=h ⟨k⟩
def yV:=@List.nil_sublist
theorem K2{p:Prop}(h:p:=by
 repeat' first|refine aN ?_|intro b;conv=>whnf
 exact Rt.vs (Vs.drop (yV _))):p:=h
theorem yz:APure prog 184 [] (.agg Ks):=by
 refine ao func184 ntmps184 λa=>?_;exact K2
theorem FK(s v n:Int)(hs:0<=s/\s<=6):APure prog 183 [iD s,iD v,iD n] (bD (cy s v n)):=by
 have h:s=0\/s=1\/s=2\/s=3\/s=4\/s=5\/s=6:=by omega
 rcases h with rfl|rfl|rfl|rfl|rfl|rfl|rfl
 all_goals
  refine ao func183 ntmps183 λa=>?_
  repeat' first|refine aN ?_|(refine aT ?_;constructor<;>intro hc)
  all_goals
   refine Rt.pure (zM bD ?_);simp[cy,oF,kQ,hc]
theorem aR8(i:VI):APure prog 182 [Im i] (.agg [iD i.a,iD i.b,iD i.c]):=by
 refine ao func182 ntmps182 λa=>?_;exact K2
theorem M5{o:Nat}(h:o<=8):∃s,(Ks.drop (o*4)).take 4=iU s o:=by
 have:o=0\/o=1\/o=2\/o=3\/o=4\/o=5\/o=6\/o=7\/o=8:=by omega
 rcases this with rfl|rfl|rfl|rfl|rfl|rfl|rfl|rfl|rfl<;>exact⟨_,rfl⟩
def Hr(i:VI)(k:Nat):Int:=if k=0 then i.a else if k=1 then i.b else i.c
def o5(o:Int)(k:Nat):Int:=if k=0 then(cM o).1 else if k=1 then(cM o).2.1 else(cM o).2.2
theorem Gv(o:Int)(k:Nat):0<=o5 o k/\o5 o k<=6:=by
 unfold o5 cM
 repeat' split
 all_goals decide
def Ql(n:Int)(i:VI)(k:Nat):Bool:=cy (o5 i.op k) (Hr i k) n
theorem Ho{n:Int}{i:VI}(h:oE n i=true):∀k,k<3->Ql n i k=true:=by
 unfold oE at h;simp only[zJ]at h;intro k a;have:k=0\/k=1\/k=2:=by omega
 rcases this with rfl|rfl|rfl
 .exact h.1.1.2
 .exact h.1.2
 .exact h.2
theorem N1{n:Int}{i:VI}(a:0<=i.op/\i.op<=8)(h:∀k,k<3->Ql n i k=true):oE n i=true:=by
 unfold oE;simp only[zJ,zQ];exact⟨⟨⟨a,h 0 (by decide)⟩,h 1 (by decide)⟩,h 2 (by decide)⟩
theorem GI{A B:Prop}(k:B)(h:ar B->A:=by intro q7;(first|refine bQ ?_|refine aA ?_|(refine' ah ?hc ?_;(case hc=>first|exact aR8 i|exact yz|exact HF)));exact q7.1):A:=h ⟨k⟩
theorem aw{p:Prop}(h:p:=by repeat(first|exact oQ.nil|refine oQ.cons rfl ?_|(refine oQ.cons (zM (λn=>some (iD n)) ?h) ?_;(case h=>(first|omega|((try simp only[zL,zR,zI,List.length_cons,List.length_nil,zY,Nat.reduceAdd]);omega)))))):p:=h
def xC:=@List.take_add_one
theorem yy(p:cK)(I:p.length<=1000000):APure prog 138 [rC p] (iD (xy p)):=by
 refine ao func138 ntmps138 λK=>?_
 repeat' first|refine GI ?_|intro b;conv=>whnf
 by_cases hl:128<p.length
 .repeat' first|refine GI ?_|intro b;conv=>whnf
  refine Rt.pure (zM iD ?_);unfold xy;rw[if_pos hl]
 have C:xy p=if p.all (oE p.length)then 0 else 1:=by unfold xy;rw[if_neg hl]
 rw[C]
 repeat' first|refine GI ?_|intro b;conv=>whnf
 refine aV mixed ai (γ:=Nat) (λj=>[(12,iD j)]) (λ_=>[]) (λj=>j<=p.length/\∀i∈p.take j,oE p.length i=true) (λj=>p.length-j) 0 (aj aw) (Sc.refl _) ⟨zW _,by simp⟩ ?_;rintro j ⟨hj,g⟩;by_cases hjl:j<p.length
 .obtain⟨i,hi⟩:∃y,p[j]?=some y:=⟨_,zD hjl⟩
  have F:p[((j:Nat):Int).toNat]?=some i:=hi;by_cases hop:0<=i.op/\i.op<=8
  .obtain⟨o,v⟩:∃o:Nat,i.op=(o:Int):=⟨i.op.toNat,by omega⟩
   obtain⟨r,q⟩:=hop;obtain⟨G,s⟩:=M5 (o:=o) (by omega)
   repeat' first|refine GI ?_|intro b;conv=>whnf
   refine aV mixed ai (γ:=Nat) (λk=>[(26,iD k)]) (λ_=>[(b,.cells 136 (bX i))]) (λk=>k<=3/\∀m,m<k->Ql p.length i m=true) (λk=>3-k) 0 (aj aw) (Sc.refl _) ⟨by decide,λm E=>by omega⟩ ?_;rintro k ⟨J,u⟩;by_cases hk3:k<3
   .have t:([iD i.a,iD i.b,iD i.c]:List D)[k]?=some (iD (Hr i k)):=by
     have:k=0\/k=1\/k=2:=by omega
     rcases this with rfl|rfl|rfl<;>rfl
    have l:([iD (cM o).1,iD (cM o).2.1,iD (cM o).2.2]:List D)[k]?=some (iD (o5 o k)):=by
     have:k=0\/k=1\/k=2:=by omega
     rcases this with rfl|rfl|rfl<;>rfl
    have HF:=FK (o5 o k) (Hr i k) ((p.map bX).length:Nat) (Gv _ _);have x:cy (o5 o k) (Hr i k) ((p.map bX).length:Nat)=Ql p.length i k:=by rw[zL];unfold Ql;rw[v]
    rw[x]at HF
    cases a:Ql p.length i k with
    |true=>
     rw[a]at HF
     repeat' first|refine GI ?_|intro b;conv=>whnf|((with_reducible refine' Ot.yd ?hydv ?_);(case hydv=>first|exact aV3 ai (m:=k) rfl rfl rfl rfl rfl rfl hk3 t|exact re ai (m:=o) rfl rfl rfl rfl rfl v (by omega) (by show o*4+4<=36;omega) s|exact aV3 ai (m:=k) rfl rfl rfl rfl rfl rfl hk3 l))|fail
     exact⟨k+1,(aj aw),Sc.refl _,⟨by omega,λm E=>by
      by_cases e:m=k
      .subst e;exact a
      .exact u m (by omega)⟩,by omega⟩
    |false=>
     rw[a]at HF
     repeat' first|refine GI ?_|intro b;conv=>whnf|((with_reducible refine' Ot.yd ?hydv ?_);(case hydv=>first|exact aV3 ai (m:=k) rfl rfl rfl rfl rfl rfl hk3 t|exact re ai (m:=o) rfl rfl rfl rfl rfl v (by omega) (by show o*4+4<=36;omega) s|exact aV3 ai (m:=k) rfl rfl rfl rfl rfl rfl hk3 l))|fail
     rw[if_neg (λh=>by have:=Ho (yA.1 h i (zG hi)) k hk3;rw[a]at this;cases this)];exact Rt.pure rfl
   .obtain rfl:k=3:=by omega
    repeat' first|refine GI ?_|intro b;conv=>whnf
    exact⟨j+1,(aj aw),Sc.sl (yV _),⟨by omega,λz f=>by
     rw[xC,hi]at f;rcases zO.1 f with f|f
     .exact g z f
     .rw[Option.toList_some,zN]at f;subst f;exact N1 ⟨r,q⟩ u⟩,by omega⟩
  .have w:∀(h:p.all (oE p.length)=true),False:=λh=>hop (Zr.1 (yA.1 h i (zG hi))).op;rw[if_neg (λh=>w h)]
   repeat' first|refine GI ?_|intro b;conv=>whnf|(refine aT ?_;constructor<;>intro hc)
   all_goals exact Rt.pure rfl
 .obtain rfl:j=p.length:=by omega
  rw[yM]at g;rw[if_pos (yA.2 g)]
  repeat' first|refine GI ?_|intro b;conv=>whnf
  exact Rt.pure rfl
end
section
open Go
section
variable {P:Program} {σ:af} {ρ:Operand->D}
theorem ME{o:Oper}{t:TypeId}{x:Operand}{d:D}{u:TypeDesc}(a:o.op= .makeInterface t x)(hx:ρ x=d)(c:P.underlying t=some u)(n:∀m,u ≠ .interface m):Yd P o ρ σ (.ifc t d):=by
 intro w X η h e;obtain⟨dst,p,y,pos,f,g⟩:=o;simp only at a;subst a;have b:=h x (by simp[Op.operands]);rw[hx]at b;refine dC (s:=Instr.makeInterface t (η x)) (u:=.iface t (η x)) ?_ (Ex.refl w) (.ifc t d _ b);unfold Instr.makeInterface;rw[Sem.run_bind,run_underlying c];simp only[Result.andThen];exact Sem.run_pure ..
def yL:=@List.take_of_length_le
theorem OB{o:Oper}{r:Operand}{name:String}{args:Array Operand}{a:Array TypeId}{t:TypeId}{d:D}{f:FuncId}(b:o.op= .call ⟨.invoke r name,args,a⟩)(hx:ρ r= .ifc t d)(m:∀v w,(method (P.types.size+Made.depth) t v name).run P w= .ok (f,v) w)(k:Enters P f){w:World}{O:Nat->Prop}{η:Operand->Value}(h:∀x∈o.op.operands,Rd w O (ρ x) (η x)) :
  ∃vs:List Value,bb w O (d::args.toList.map ρ) vs/\(execOp η o).run P w= .ok (.enter f vs.toArray) w:=by
 obtain⟨dst,C,B,pos,A,g⟩:=o;simp only at b;subst b;have c:=h r (by simp[Op.operands,Call.operands]);rw[hx]at c;obtain⟨u,j,n⟩:=c.ifc_inv;have l:bb w O (args.toList.map ρ) (args.toList.map η):=aW7 _ λy i=>h y (by simp[Op.operands,Call.operands];exact Or.inr (by simpa using i));refine⟨u::args.toList.map η,.cons n l,?_⟩;have e:=k (#[u]++args.map η) w;have z:(#[Value.iface t u]++args.map η)[0]?=some (.iface t u):=by rw[vV (by simp)];rfl
 have s:(#[Value.iface t u]++args.map η).extract 1 (#[Value.iface t u]++args.map η).size=args.map η:=by
  apply wJ;simp[yL]
 have q:(u::args.toList.map η).toArray= #[u]++args.map η:=by apply wJ;simp
 rw[q,←e];have p:(callMethod (.iface t u) name (args.map η)).run P w=(callFunc f (#[u]++args.map η)).run P w:=by
  unfold callMethod;simp only[Sem.run_bind,run_program,m,Result.andThen]
 rw[←p];simp only[execOp,resolve,j,Sem.run_bind,Sem.run_pure,Result.andThen,invoke,z,s]
theorem ZY{o:Oper}{r:Operand}{name:String}{args:Array Operand}{s:Array TypeId}{t:TypeId}{d b:D}{f:FuncId}(c:o.op= .call ⟨.invoke r name,args,s⟩)(hx:ρ r= .ifc t d)(m:∀v w,(method (P.types.size+Made.depth) t v name).run P w= .ok (f,v) w)(p:APure P f (d::args.toList.map ρ) b):Yd P o ρ σ b:=by
 intro w X η h a;obtain⟨vs,i,g⟩:=OB (P:=P) (w:=w) c hx m p.ent h;rw[g];exact⟨rfl,(p.run w _ vs i a.gok).mono λe n⟨u,l,k,j⟩=>⟨u,l,j,k⟩⟩
end
end
section
open Go
theorem Kk{A B:Prop}(k:B)(h:ar B->A:=by intro q7;(first|((with_reducible refine W.mk ?_);(conv=>whnf))|(with_reducible refine ZR ?_)|(with_reducible refine ZQ ?_)|(with_reducible refine Br.n ?_)|((with_reducible refine' Br.eq ?h ?_);(case h=>(simp only[zL,zR,zI,List.length_cons,List.length_nil,zY,Nat.reduceAdd];exact rfl)))|((with_reducible refine Sd.go ?qs7 ?_);(case qs7=>first|trivial|(constructor<;>omega)|omega|assumption|((try simp only[zL,zR,zI,List.length_cons,List.length_nil,zY,Nat.reduceAdd]at *);first|(constructor<;>omega)|omega)))|((with_reducible refine Ck.go ?qs7 ?_);(case qs7=>kernel_rfl))|((with_reducible refine' S1 ?hy ?h0 ?_);(case hy=>assumption);(case h0=>omega))|((with_reducible refine' Ix.at ?hy ?h0 ?_);(case hy=>exact rfl);(case h0=>omega))|((with_reducible refine Ix.mapM ?h0 ?_);(case h0=>first|omega|(simp only[zL,zR,zI,List.length_cons,List.length_nil,zY,Nat.reduceAdd]at *;omega))));exact q7.1):A:=h ⟨k⟩
theorem bA{A B:Prop}(k:B)(h:ar B->A:=by intro q7;(first|refine Kk ?_|refine Kj ?_|refine FY ?_);exact q7.1):A:=h ⟨k⟩
theorem Qg{A B:Prop}(k:B)(h:ar B->A:=by intro q7;(first|refine bA ?_|refine aA ?_|(refine' ah ?hc ?_;(case hc=>exact hp _ (zG hy))));exact q7.1):A:=h ⟨k⟩
theorem nP{p:Prop}(h:p:=by
 repeat refine Qg ?_
 refine fW mixed ai (γ:=Nat) (λk=>[(8,iD k)]) (λ_=>[]) (λk=>k<=l.length/\∀i y,i<k->l[i]?=some y->p y=false) (λk=>l.length-k) 0 rfl rfl ⟨by omega,by omega⟩ ?_;rintro k ⟨hk,hno⟩;by_cases hlt:k<l.length
 .obtain⟨y,hy⟩:∃y,l[(k:Int).toNat]?=some y:=⟨_,zD hlt⟩
  repeat' first|refine Qg ?_|(refine aT ?_;constructor<;>intro hc)
  .refine Rt.pure (zM iD ?_);exact(JP hy ‹_› hno).symm
  .exact⟨k+1,rfl,rfl,⟨by omega,λi z hi hz=>by
    by_cases e:i=k
    .subst e;rw[show((i:Int)).toNat=i from rfl,hz]at hy;cases hy;assumption
    .exact hno i z (by omega) hz⟩,by omega⟩
 .repeat refine Qg ?_
  refine Rt.pure (zM iD ?_);exact(Y8 λi y hy=>hno i y (by have:=(zE.1 hy).1;omega) hy).symm):p:=h
theorem CD{f:FuncId}{cs:List D}(l:List au)(p:au->Bool)(hl:l.length<=1000000)(hp:∀y∈l,APure prog f [fz y,.ro cs] (bD (p y))):APure prog 80 [Nb l,.clo f [.ro cs]] (iD (idx p l)):=by
 refine ao func80 ntmps80 λa=>?_;exact nP
theorem sk6{A B:Prop}(k:B)(h:ar B->A:=by intro q7;(first|refine bA ?_|refine aA ?_|(refine' ah ?hc ?_;(case hc=>exact CD l p hl hp)));exact q7.1):A:=h ⟨k⟩
theorem Jw{f:FuncId}{cs:List D}(l:List au)(p:au->Bool)(hl:l.length<=1000000)(hp:∀y∈l,APure prog f [fz y,.ro cs] (bD (p y))):APure prog 208 [Nb l,.clo f [.ro cs]] (bD (l.any p)):=by
 refine ao func208 ntmps208 λa=>?_
 repeat refine sk6 ?_
 refine Rt.pure (zM bD ?_);exact qM p l
theorem CG{f:FuncId}{cs:List D}(l:List am)(p:am->Bool)(hl:l.length<=1000000)(hp:∀y∈l,APure prog f [bM y,.ro cs] (bD (p y))):APure prog 119 [xn l,.clo f [.ro cs]] (iD (idx p l)):=by
 refine ao func119 ntmps119 λa=>?_;exact nP
theorem Ox{f:FuncId}{cs:List D}(l:List bW)(p:bW->Bool)(hl:l.length<=1000000)(hp:∀y∈l,APure prog f [dj y,.ro cs] (bD (p y))):APure prog 166 [EX l,.clo f [.ro cs]] (iD (idx p l)):=by
 refine ao func166 ntmps166 λa=>?_;exact nP
theorem sk7{A B:Prop}(k:B)(h:ar B->A:=by intro q7;(first|refine bA ?_|refine aA ?_|(refine' ah ?hc ?_;(case hc=>exact Ox l p hl hp)));exact q7.1):A:=h ⟨k⟩
theorem bb7{f:FuncId}{cs:List D}(l:List bW)(p:bW->Bool)(hl:l.length<=1000000)(hp:∀y∈l,APure prog f [dj y,.ro cs] (bD (p y))):APure prog 110 [EX l,.clo f [.ro cs]] (bD (l.any p)):=by
 refine ao func110 ntmps110 λa=>?_
 repeat refine sk7 ?_
 refine Rt.pure (zM bD ?_);exact qM p l
theorem Ov{f:FuncId}{cs:List D}(l:List cF)(p:cF->Bool)(hl:l.length<=1000000)(hp:∀y∈l,APure prog f [eH y,.ro cs] (bD (p y))):APure prog 224 [M' l,.clo f [.ro cs]] (iD (idx p l)):=by
 refine ao func224 ntmps224 λa=>?_;exact nP
theorem sk8{A B:Prop}(k:B)(h:ar B->A:=by intro q7;(first|refine bA ?_|refine aA ?_|(refine' ah ?hc ?_;(case hc=>exact Ov l p hl hp)));exact q7.1):A:=h ⟨k⟩
theorem tf{f:FuncId}{cs:List D}(l:List cF)(p:cF->Bool)(hl:l.length<=1000000)(hp:∀y∈l,APure prog f [eH y,.ro cs] (bD (p y))):APure prog 167 [M' l,.clo f [.ro cs]] (bD (l.any p)):=by
 refine ao func167 ntmps167 λa=>?_
 repeat refine sk8 ?_
 refine Rt.pure (zM bD ?_);exact qM p l
end
section
open Go Go.RowKit Go.Shelf
section
variable {P:Program} {r:Option Nat} {n:Nat} {df:Nat} {N:Nat} {σ:af} {a:List D} {f:aM} {T:TypeId->Option TI} {L:List Oper} {Q:gJ}
def W4(o:Oper):Bool:=match o.op with
 |.buildSlice _ (_+1) _=>true
 |_=>false
def iH(P:Program)(T:TypeId->Option TI)(r:Option Nat)(n:Nat)(df:Nat)(N:Nat)(L:List Oper)(k:Nat)(K:aM->af->Prop)(f:aM)(σ:af):Prop:=match L[k]? with
 |none=>False
 |some o=>match W4 o with
  |false=>Fi P T r n df N L k K f σ
  |true=>Iu L (jc (o.looksAt L.toArray) f) o λgo=>match go with
   |true=>ci P r n df L N o (jc (o.looksAt L.toArray) f) σ (λa σ'=>match o.dst with
    |none=>K f σ'
    |some i=>match gn a i with
     |none=>False
     |some d=>bif Nat.blt i N then K ((i,d)::f) σ' else False)
   |false=>False
theorem jl(m:∀t i,T t=some i->aD P t=some i){E:Nat->Bool}{k:Nat}{K:aM->af->Prop}{G:List D->af->Prop}(g:E k=true)(h:iH P T r n df N L k K f σ)(hs:Sp N a f)
  (hk:∀c σ' a',K c σ'->Sp N a' c->G a' σ'):db P r n df L.toArray E k G a σ:=by
 unfold iH at h;split at h
 .exact h.elim
 .rename_i o l;split at h
  .exact L0 m g h hs hk
  .have b:L.toArray[k]?=some o:=by simpa using l
   unfold db;rw[b];simp only[g];obtain⟨go,w,h1⟩:=PH h (hs.cut _)
   cases go with
   |false=>exact h1.elim
   |true=>
    refine h1.run [] _ _ (hs.cut _) w (λc σ' a' h' hs'=>n6 ⟨rfl,by rw[hs'.len,hs.len],?_⟩)
    cases hd:o.dst with
    |none=>
     rw[hd]at h';exact⟨.any,(λi hi=>by cases hi),hk _ _ _ h' hs⟩
    |some i=>exact Yq
theorem KN(hT:∀t i,T t=some i->aD P t=some i){o:Oper}{t e:TypeId}{s:Array (Nat×Operand)}{i j:TI}{ag:Bool}{k S m:Nat}{out:List D}{K:aM->af->Prop}(J:o.op= .buildSlice t m s)(ht:T t=some i)(hs:i.sl=some (e,ag,k,S))(he:T e=some j)(Z:j.zero.length=j.size)(hk:j.size=k)(hp:Nat.blt 0 k=true)
  (hm:Nat.ble (m*k) 1000=true) (h:LK (λq=>some (q*k,k)) (Mi j.zero k m) (s.toList.map λp=>(p.1,aK f p.2))=some out) (hl:(out.length==m*k)=true) (h0:m*k≠0)
  (kk:∀b,W (aR N o.dst (.v (.slice (some ⟨b,0,none⟩) m m)) f (λf'=>K f' ((b,.cells e out)::σ)))):ci P r n df L N o f σ K:=by
 refine⟨λV Q a B hw M=>?_⟩;refine oM hw (by rw[J];rfl) λw X y l=>?_;obtain⟨dst,op,U,pos,E,g⟩:=o;simp only at J;subst J;have F:∀x,Rd w (ay σ X) (aK f x) (y.eval x):=λx=>B.le x _ _ _ (l.fr.eval x);have hp':0<k:=by simpa [wT]using hp
 have hm':m*k<=1000:=by simpa [vL]using hm
 have hl':out.length=m*k:=by simpa using hl
 obtain⟨hu,H,_⟩:=x7 (hT t i ht) hs;have A:=(qP H w).2;obtain⟨z,g1,g2⟩:=Pg (hT e j he) Z (by omega) w;have hzl:z.cells.size=k:=by have:=zM List.length g2;simpa [Z,hk]using this
 have G:bb w (ay σ X) (Mi j.zero k m) ((Array.range (m*k)).map (z.cells[· % z.cells.size]!)).toList:=X6;obtain⟨c,k1,k2⟩:=Z1 s.toList y.eval _ _ out (λp hm=>F p.2) G h;have C:(Instr.buildSlice t m (s.map λp=>(p.1,y.eval p.2))).run P w= .ok (.slice (some ⟨w.heap.size,0,none⟩) m m) (w.alloc (.cells c e)):=by
  have O:¬m*k > 2 ^ 24:=by omega
  have R:¬(m=0\/k=0):=λh=>h0 (Nat.mul_eq_zero.2 h);simp only[Instr.buildSlice,Sem.run_bind,run_underlying hu,A,Result.andThen,if_neg O,if_neg R,if_neg h0,g1,Sem.run_pure,Array.toList_map,k1,newRow,newObj,Sem.run]
  rfl
 have e0:(execOp y.eval ⟨dst,.buildSlice t m s,U,pos,E,g⟩).run P w= .ok (.value (.slice (some ⟨w.heap.size,0,none⟩) m m)) (w.alloc (.cells c e)):=by
  have e:(execOp y.eval ⟨dst,.buildSlice t m s,U,pos,E,g⟩)=(do pure (Next.value (←Instr.buildSlice t m (s.map λp=>(p.1,y.eval p.2)))):Sem Next):=by
   unfold execOp
   rfl
  rw[e];simp only[Sem.run_bind,C,Result.andThen,Sem.run_pure]
 rw[e0];obtain⟨q1,Y,q3⟩:=l.st.new (.cells c e) (.cells e out) ⟨c.toList,by rw[Array.toArray_toList],k2⟩;obtain⟨f',I,h4⟩:=fE (kk w.heap.size).h B;exact⟨_,_,Y,(l.mv Y q1).put (.v _) dst,M _ _ _ h4 I⟩
end
end
end Go.Proofs.YtilnpcolgcmofaaGreatDoor
