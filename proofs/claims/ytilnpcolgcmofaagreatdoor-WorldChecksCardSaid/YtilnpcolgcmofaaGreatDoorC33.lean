/- A part of the proof. -/
import Derived.Test.YtilnpcolgcmofaaGreatDoorC31
import Derived.Shelf.Strings.Builder1
import Derived.Shelf.Strconv.Itoa0
import Derived.Shelf.Strconv.Itoa1
import Derived.Shelf.LaysM
import Derived.Shelf.Strconv.Itoa2
import Derived.Shelf.Strconv.Itoa3
import Derived.Lib.Builder
import Derived.Laws.Externs
set_option maxRecDepth 100000
set_option maxHeartbeats 20000000
set_option linter.all false
namespace Go.Proofs.YtilnpcolgcmofaaGreatDoor
open Tryz
end Go.Proofs.YtilnpcolgcmofaaGreatDoor
namespace Go.Proofs
open Tryz YtilnpcolgcmofaaGreatDoor
open Go.Shelf
def JN:Go.Shelf.Ren:=⟨λ|246=>275|283=>278|284=>279|285=>280|286=>281|129=>286|317=>285|318=>287|319=>288|320=>289|337=>290|338=>291|n=>n,λ|2=>2|3=>3|9=>9|4=>4|171=>366|0=>0|53=>367|37=>147|5=>5|173=>370|212=>379|51=>372|20=>20|213=>380|46=>381|232=>363|233=>384|n=>n,λ|17=>3|18=>4|19=>5|n=>n⟩
def JO:Go.Shelf.Ren:=⟨λ|243=>271|246=>275|283=>278|284=>279|285=>280|286=>281|129=>286|317=>285|318=>287|319=>288|320=>289|337=>290|338=>291|n=>n,λ|3=>3|9=>9|2=>2|4=>4|171=>366|0=>0|53=>367|37=>147|5=>5|173=>370|212=>379|51=>372|20=>20|213=>380|46=>381|232=>363|233=>384|n=>n,λ|17=>3|18=>4|19=>5|n=>n⟩
def lZ:Go.Shelf.Ren:=⟨λ|171=>260|243=>271|246=>275|283=>278|284=>279|285=>280|286=>281|129=>286|317=>285|318=>287|319=>288|320=>289|337=>290|338=>291|n=>n,λ|3=>3|9=>9|2=>2|4=>4|171=>366|0=>0|53=>367|37=>147|5=>5|173=>370|212=>379|51=>372|20=>20|213=>380|46=>381|232=>363|233=>384|n=>n,λ|17=>3|18=>4|19=>5|n=>n⟩
def DY:Go.Proofs.LaysM.n171 prog lZ:={
 mixed:=by kernel_rfl
 f129:=func286.trans (zM some (by kernel_rfl))
 f171:=func260.trans (zM some (by kernel_rfl))
 f243:=func271.trans (zM some (by kernel_rfl))
 f246:=func275.trans (zM some (by kernel_rfl))
 f283:=func278.trans (zM some (by kernel_rfl))
 f284:=func279.trans (zM some (by kernel_rfl))
 f285:=func280.trans (zM some (by kernel_rfl))
 f286:=func281.trans (zM some (by kernel_rfl))
 f317:=func285.trans (zM some (by kernel_rfl))
 f318:=func287.trans (zM some (by kernel_rfl))
 f319:=func288.trans (zM some (by kernel_rfl))
 f320:=func289.trans (zM some (by kernel_rfl))
 f337:=func290.trans (zM some (by kernel_rfl))
 f338:=func291.trans (zM some (by kernel_rfl))
 t0:=underlying0
 a0:=isAgg0
 z0:=sizeOf0
 v0:=zeroValue0
 t2:=underlying2
 a2:=isAgg2
 z2:=sizeOf2
 v2:=zeroValue2
 t3:=underlying3
 a3:=isAgg3
 z3:=sizeOf3
 v3:=zeroValue3
 t4:=underlying4
 a4:=isAgg4
 z4:=sizeOf4
 v4:=zeroValue4
 t5:=underlying5
 a5:=isAgg5
 z5:=sizeOf5
 v5:=zeroValue5
 t9:=underlying9
 a9:=isAgg9
 z9:=sizeOf9
 v9:=zeroValue9
 t20:=underlying20
 a20:=isAgg20
 z20:=sizeOf20
 v20:=zeroValue20
 t37:=underlying147
 a37:=isAgg147
 z37:=sizeOf147
 v37:=zeroValue147
 t46:=underlying381
 a46:=isAgg381
 z46:=sizeOf381
 v46:=zeroValue381
 t51:=underlying372
 a51:=isAgg372
 z51:=sizeOf372
 v51:=zeroValue372
 t53:=underlying367
 a53:=isAgg367
 z53:=sizeOf367
 v53:=zeroValue367
 t171:=underlying366
 a171:=isAgg366
 z171:=sizeOf366
 v171:=zeroValue366
 t173:=underlying370
 a173:=isAgg370
 z173:=sizeOf370
 v173:=zeroValue370
 t212:=underlying379
 a212:=isAgg379
 z212:=sizeOf379
 v212:=zeroValue379
 t213:=underlying380
 a213:=isAgg380
 z213:=sizeOf380
 t232:=underlying363
 a232:=isAgg363
 z232:=sizeOf363
 v232:=zeroValue363
 t233:=underlying384
 a233:=isAgg384
 z233:=sizeOf384
 v233:=zeroValue384
 g17:=by kernel_rfl
 g18:=by kernel_rfl
 g19:=by kernel_rfl
 i0:=by kernel_rfl
 i2:=by kernel_rfl
 i3:=by kernel_rfl
 i4:=by kernel_rfl
 i5:=by kernel_rfl
 i9:=by kernel_rfl
 i20:=by kernel_rfl
 i37:=by kernel_rfl
 i46:=by kernel_rfl
 i51:=by kernel_rfl
 i53:=by kernel_rfl
 i171:=by kernel_rfl
 i173:=by kernel_rfl
 i212:=by kernel_rfl
 i232:=by kernel_rfl
 i233:=by kernel_rfl
 m17:=by kernel_rfl
 m18:=by kernel_rfl
 m19:=by kernel_rfl }
open Go.RowKit Go.Sort Go.Lib in
def strconv_Itoa(n:Int)(h0:-9223372036854775808<=n)(h1:n<=9223372036854775807)(w:World)(htab:Lib.TabIs prog w "internal/strconv.uint64pow10" .u64 Lib.pow10Tab) :
  Calls prog 260 #[.int .i64 n] w λe w'=>e= .returned (.string ⟨(Lib.itoa n).toArray⟩)/\∃k os,w'=grow (w.drewN k) os:=Any.strconv_Itoa DY n h0 h1 w htab
end Go.Proofs
namespace Go.Proofs.YtilnpcolgcmofaaGreatDoor
open Tryz
section
open Go Go.RowKit Go.Shelf
variable{O:Nat->Prop}
def Rl{w:World}{d:D}{b:List D}{s:List Value}(h:bj w O (d::b) s):∃u a,s=u::a/\Rd w O d u/\bj w O b a:=by
 cases s with
 |nil=>have:=h.len;simp at this
 |cons u a=>exact⟨u,a,rfl,h.at_ 0 _ _ rfl rfl,⟨by have:=h.len;simpa using this,λj d u e c=>h.at_ (j+1) d u (by simpa using e) (by simpa using c)⟩⟩
def aP9{w:World}{u:List Value}(h:bj w O [] u):u=[]:=by
 have:=h.len;exact List.eq_nil_of_length_eq_zero (by simpa using this)
def xy:(prog.info? 5).map (λi=>(i.zero,i.size,i.bytes))=some (some (.int .u8 0),1,1):=by kernel_rfl
def tm:(prog.info? 316).map (λi=>i.size)=some 2:=by kernel_rfl
def Ko(b:Nat)(w:World)(c:w.cell? ⟨b,0,none⟩=some (.pointer (some ⟨b,0,none⟩))) :
  Calls prog 258 #[.pointer (some ⟨b,0,none⟩)] w λe a=>e= .returned (.tuple #[])/\w=a:=by
 obtain⟨j,h,_⟩:=xN.1 tm
 go_enter func258,ntmps258
 go_wp2
 rw[Lib.run_neq_ptr_same w _ underlying314 h]
 go_wp2
 go_end0
 exact⟨rfl,rfl⟩
def Fk(b:Nat)(w:World)(d:w.cell? ⟨b,0,none⟩=some (.pointer none))(h:w.shape? b=some (316,2))(z:w.frozen? ⟨b,0,none⟩=false) :
  Calls prog 258 #[.pointer (some ⟨b,0,none⟩)] w λe c=>e= .returned (.tuple #[])/\c=w.setCell ⟨b,0,none⟩ (.pointer (some ⟨b,0,none⟩)):=by
 obtain⟨j,a,s⟩:=xN.1 tm
 go_enter func258,ntmps258
 go_wp2
 rw[Lib.run_to_unsafe w ⟨b,0,none⟩ underlying314 underlying357 a (by rw[s];decide) h (Nat.zero_lt_succ 1)];simp only[Result.andThen];rw[Oper.upon_value]
 go_wp2
 rw[run_callFunc_extern func270 (by kernel_rfl) (by kernel_rfl) (by kernel_rfl) (e:=Extern.AbiNoEscape.same) (by kernel_rfl)];rw[Lib.run_noEscape];simp only[Result.andThen];rw[Oper.upon_value]
 go_wp2
 rw[Lib.run_from_unsafe w ⟨b,0,none⟩ underlying357 underlying314 a h (by kernel_rfl)];simp only[Result.andThen];rw[Oper.upon_value]
 go_wp2
 go_end0
 exact⟨rfl,rfl⟩
abbrev pB(b:Nat):Value:=.pointer (some ⟨b,0,none⟩)
abbrev kB(b:Nat)(p v:Value):Nat×ax:=(b,.cells 316 [.v p,.v v])
def pj(b:Nat)(p v:Value)(k:p= .pointer none\/p=pB b):az prog 258 [.v (pB b)] [kB b p v] (λd σ=>d= .any/\σ=[kB b (pB b) v]):=by
 refine⟨enters_of func258 (by kernel_rfl) rfl,λw X vs j s=>?_⟩;obtain⟨u,c,rfl,q,n⟩:=Rl j;rw[aP9 n,q.val rfl];obtain⟨_,o,h,vs,rfl,a⟩:=s.at_ b _ yN;obtain⟨x,c,rfl,g,a⟩:=Rl a;obtain⟨y,c,rfl,r,a⟩:=Rl a;rw[aP9 a,g.val rfl,r.val rfl]at h;rcases k with rfl|rfl
 .refine(Fk b w (by simp[World.cell?,h]) (by simp[World.shape?,h]) (by simp[World.frozen?,h])).mono ?_;rintro e f ⟨rfl,rfl⟩;have l:ba (λx=>x=b) w (w.setCell ⟨b,0,none⟩ (pB b)):=(ba.refl (λx=>x=b) w).setCell (p:=⟨b,0,none⟩) (.inr rfl) _;have m:(w.setCell ⟨b,0,none⟩ (pB b)).heap[b]?=some (.cells [pB b,v].toArray 316 (0,0)):=by
   simp only[World.setCell,Array.getElem?_modify,if_true,h]
   rfl
  obtain⟨z,t,_⟩:=s.upd (i:=0) rfl (k':=.cells 316 [.v (pB b),.v v]) l m ⟨_,rfl,.cons (.v _) (.cons (.v _) .nil)⟩;exact⟨_,.any,_,rfl,⟨rfl,rfl⟩,.any _,z,t⟩
 .refine(Ko b w (by simp[World.cell?,h])).mono ?_;rintro e f ⟨rfl,rfl⟩;exact⟨_,.any,_,rfl,⟨rfl,rfl⟩,.any _,s,Mv.refl _ _⟩
def iJ(l:List Nat)(v:Value)(s:ae):Prop:=(∀d∈l,d<256)/\((l=[]/\v= .slice none 0 0/\s=[])\/(l≠[]/\ab 5 1 (l.map λ(d:Nat)=>[D.v (.int .u8 (d:Int))]) v s))
variable{l:List Nat}{v:Value}
def iJ.row{s:ae}(h:iJ l v s):ab 5 1 (l.map λ(d:Nat)=>[D.v (.int .u8 (d:Int))]) v s:=by
 rcases h.2 with⟨rfl,rfl,rfl⟩|⟨_,h⟩
 .exact ab.nil _ _
 .exact h
def iJ.slice{s:ae}(h:iJ l v s):∃a n c,v= .slice a n c:=by
 obtain⟨a,c,e⟩:=h.row.slice;exact⟨a,_,c,e⟩
def iJ.add{t:List Nat}{s:ae}(h:∀d∈l++t,d<256)(e:t≠[])(r:ab 5 1 ((l++t).map λ(d:Nat)=>[D.v (.int .u8 (d:Int))]) v s):iJ (l++t) v s:=⟨h,.inr ⟨by simp[e],r⟩⟩
def ni(b n:Nat)(σ:ae):Prop:=∃p v s l,σ=kB b p v::s/\(p= .pointer none\/p=pB b)/\l.length=n/\iJ l v s
def ni.new(b:Nat):ni b 0 [kB b (.pointer none) (.slice none 0 0)]:=⟨_,_,[],[],rfl,.inl rfl,rfl,(λd h=>by cases h),.inl ⟨rfl,rfl,rfl⟩⟩
section
variable {P:Program} {w:World} {X:Nat->Prop}
def pq{t E ty e:TypeId}{i:TypeInfo}{l:List Nat}(r:P.underlying t=some (.slice e))(q:P.underlying E=some .string)(Q:P.info? e=some i)(M:i.zero=some (.int .u8 0))(k:i.size=1)(z:i.bytes=1)
  (F:aW w X []) (V:∀d∈l,d<256) (I:l≠[]) (hm:l.length<=1000000000) :
  ∃C a G,(Builtin.append_ #[t,E] ty #[.slice none 0 0,.string (bF l)]).run P w= .ok C a/\ab e 1 (l.map λ(d:Nat)=>[D.v (.int .u8 (d:Int))]) C G/\aW a X G/\Mv w [] a G:=by
 have Z:0<l.length:=xS.2 I;obtain⟨C,a,n,f,K,_⟩:=Lib.run_append_own_string (P:=P) w 0 t E ty e i r q Q M k z (.slice none 0 0) 0 [] (World.ownsRow_nil _ _ _ _) (bF l) (by rw[lq];unfold maxLen;omega) (by rw[lq];omega) (zW _);have N:=run_append_nil_string (P:=P) w t E ty e i _ r q Q M (bF l) (by rw[lq];exact Z) (by rw[lq];omega) (by rw[z,lq];omega);rw[N]at n;have x:Ex w a:=by cases n;exact((Ex.refl w).drew).alloc
 have T:C.ownBlock=some w.heap.size:=by cases n;rfl
 have L:Lib.strCells (bF l)=l.map λ(d:Nat)=>Value.int .u8 (d:Int):=aU2 V;rw[lq,xD,List.nil_append]at f;rcases f.2 with⟨rfl,h⟩|⟨g,B,c,rfl,_,hg,u,m,v,H⟩
 .omega
 .obtain rfl:g=w.heap.size:=wK T;have J:∀y∈l.map (λ(d:Nat)=>[D.v (.int .u8 (d:Int))]),y.length=1:=λy S=>by
   obtain⟨d,_,rfl⟩:=xM.1 S
   rfl
  have s:bj a (ay [(w.heap.size,ax.cells e ((l.map λ(d:Nat)=>[D.v (.int .u8 (d:Int))]).flatten++List.replicate (c.toList.drop (l.length*1)).length .any))] X) (l.map λ(d:Nat)=>[D.v (.int .u8 (d:Int))]).flatten (Lib.strCells (bF l)):=by
   rw[L,l7 l];have R:=My (w:=a) (O:=ay [(w.heap.size,ax.cells e (l.map (λ(d:Nat)=>D.v (.int .u8 (d:Int)))++List.replicate (c.toList.drop (l.length*1)).length .any))] X) (l.map λ(d:Nat)=>Value.int .u8 (d:Int));rw[vA]at R;exact R
  have Y:¬X w.heap.size:=λhx=>by have:=F.xlt _ hx;omega
  refine⟨_,a,[(w.heap.size,.cells e ((l.map λ(d:Nat)=>[D.v (.int .u8 (d:Int))]).flatten++List.replicate (c.toList.drop (l.length*1)).length .any))],N.trans n,⟨J,.inr ⟨_,B,_,by rw[zL],rfl,by rw[zL];exact u,m,?_,λd W=>(List.mem_replicate.1 W).2⟩⟩,⟨by simp[aT],?_,λb o=>yI (F.xlt b o) x.size,?_⟩,⟨x.keep,λb o=>?_⟩⟩
  .simp only[zL,zY,List.length_drop,Array.length_toList,v];omega
  .intro b kk A;simp only[zN,vY]at A;obtain⟨rfl,rfl⟩:=A;refine⟨Y,_,hg,c.toList,by simp,?_⟩;have j:=s.append (lO (w:=a) (c.toList.drop (l.length*1)));rw[←H,vF]at j;exact j
  .refine F.gok.keep x.size (λb o U ho=>?_) (λb o _=>x.block b o) (λb ho=>?_)
   .rcases ho with ho|ho
    .exact U (.inl ho)
    .simp only[aT,List.map_cons,List.map_nil,zN]at ho;omega
   .rcases ho with ho|ho
    .exact yI (F.xlt b ho) x.size
    .exact Nk
  .simp only[aT,List.map_cons,List.map_nil,zN]at o;subst o;exact .inr (zT _)
end
section
variable {P:Program} {r:Option Nat} {n:Nat} {df:Nat} {N:Nat} {σ:ae} {f:aP} {L:List Oper}
def ce.apbuf{o:Oper}{p x:Operand}{t U:TypeId}{u:TypeInfo}{m l:List Nat}{v:Value}{s τ:ae}{K:aP->ae->Prop}
  (ho:o.op= .call { callee:=.builtin .append,args:=#[p,x],argTypes:=#[t,U] }) (hp:aN f p= .v v) (hx:aN f x=dr l) (D:P.underlying t=some (.slice 5)) (C:P.underlying U=some .string) (hi:P.info? 5=some u) (hz:u.zero=some (.int .u8 0)) (j:u.size=1) (O:u.bytes=1)
  (hr:iJ m v s) (H:σ.Perm (s++τ)) (hl:∀d∈l,d<256) (hm:m.length+l.length<=1000000000)
  (fs:ae->ae) (hq:∀g,(g++τ).Perm (fs g))
  (kk:∀a n c g,iJ (m++l) (.slice a n c) g->W (aX N o.dst (.v (.slice a n c)) f (λG=>K G (fs g)))):ce P r n df L N o f σ K:=by
 have E:∀d∈m++l,d<256:=λd T=>(zO.1 T).elim (hr.1 d) (hl d);rcases hr.2 with⟨rfl,rfl,rfl⟩|⟨J,h⟩
 .refine⟨λA Q a q V hk=>?_⟩;refine FJ H ?_;refine nc V (by rw[ho];rfl) λw X fr k=>?_;have hpv:=q.le p _ _ _ (k.fr.eval p);rw[hp]at hpv;have hpv:=hpv.val rfl;have hxv:=q.le x _ _ _ (k.fr.eval x);rw[hx]at hxv;have hxv:=hxv.val rfl;have M:=k.st.left;obtain⟨z,y,g,S,g1,g3,R⟩:∃z y g,iJ ([]++l) z g/\(Builtin.append_ #[t,U] o.type #[.slice none 0 0,.string (bF l)]).run P w= .ok z y/\aW y (λb=>X b\/b∈aT τ) g/\Mv w [] y g:=by
   by_cases F:l=[]
   .subst F;have hf:=Lib.run_firstCells_string (P:=P) w 1 (bF []);refine⟨.slice none 0 0,w,[],⟨E,.inl ⟨rfl,rfl,rfl⟩⟩,?_,M,Mv.refl _ _⟩;have I:(bF []).size=0:=rfl;rw[I]at hf;simp[Builtin.append_,run_underlying D,run_underlying C,sizeOf,typeInfo,hi,j,Builtin.lenOf,I,hf]
   .obtain⟨z,y,g,g1,g2,g3,R⟩:=pq (ty:=o.type) D C hi hz j O M hl F (by simpa using hm);exact⟨z,y,g,⟨E,.inr ⟨by simpa using F,g2⟩⟩,g1,g3,R⟩
  have ee:(execOp fr.eval o).run P w= .ok (.value z) y:=Fb;rw[ee];obtain⟨q1,q2,q3,q4⟩:=stays k.st g3 R;obtain⟨va,vn,vc,rfl⟩:=S.slice;obtain⟨G,Y,h4⟩:=fT (kk _ _ _ g S).h q;exact⟨_,_,q2,(⟨k.fr.keep R.keep.size q3 q4,q1,k.df.keep R.keep.size q3 q4⟩:St y X df a (g++τ) fr).put (.v _) o.dst,FJ (hq g) (hk _ _ _ h4 Y)⟩
 .refine⟨λA Q a q V hk=>?_⟩;refine(ce.apstr (l:=l) (K:=λG σ'=>∃g,σ'=g++τ/\K G (fs g)) ho hp hx D C hi hz j O h (by simpa using J) H hl (by rw[zL];exact hm) (λz g Z=>?_)).run A Q a q V (λG σ' a'⟨g,e,h1⟩h2=>by subst e;exact FJ (hq g) (hk G _ a' h1 h2));have S:iJ (m++l) z g:=⟨E,.inr ⟨by simp[J],by rw[yB];exact Z⟩⟩
  obtain⟨va,vn,vc,rfl⟩:=S.slice;have B:=(kk _ _ _ g S).h;refine⟨?_⟩
  cases T:o.dst with
  |none=>rw[T]at B;exact⟨g,rfl,B⟩
  |some i=>
   rw[T]at B;simp only[aX]at B⊢
   cases hb:Nat.blt i N with
   |true=>rw[hb]at B;exact⟨g,rfl,B⟩
   |false=>rw[hb]at B;exact B
end
/- String,of bytes: they are frozen. -/
def QC(b g cap:Nat)(p:Value)(c:Array Value)(l:List Nat)(q:∀d∈l,d<256)(w:World)(r:l≠[])(o:w.heap[b]?=some (.cells #[p,.slice (some ⟨g,0,none⟩) l.length cap] 316 (0,0)))(m:w.heap[g]?=some (.cells c 5 (0,0)))
  (k:l.length<=cap) (f:cap<=maxLen) (s:c.size=cap) (h:c.toList.take l.length=l.map λ(d:Nat)=>Value.int .u8 (d:Int)) :
  Calls prog 223 #[.pointer (some ⟨b,0,none⟩)] w λe u=>e= .returned (.string (bF l))/\u=w.drew.freeze ⟨g,0,none⟩ l.length:=by
 have v:0<l.length:=xS.2 r;have c1:w.drew.cell? ⟨b,1,none⟩=some (.slice (some ⟨g,0,none⟩) l.length cap):=by
  have:w.drew.heap[b]?=_:=o;rw[Lib.cell_of_heap this];rfl
 have D:(Builtin.unsafeSliceData_ #[147] 348 #[.slice (some ⟨g,0,none⟩) l.length cap]).run prog w.drew= .ok (.pointer (some ⟨g,0,none⟩)) w.drew:=
  Lib.run_unsafeSliceData_row _ _ _ _ _ _ (by omega)
 have a:(l.map UInt8.ofNat).length=l.length:=zL ..;have S:=Lib.run_unsafeString_row (P:=prog) w.drew 348 3 9 5 underlying348 (by kernel_rfl) g c.size (by have i:w.drew.heap[g]?=some (.cells c 5 (0,0)):=m;simp[World.shape?,i]) (l.map UInt8.ofNat) (by simpa using r) (by rw[a];omega) (by rw[a];unfold maxLen at f;omega) (λj x hx=>by
  rw[qA]at hx;obtain⟨d,n,rfl⟩:=xN.1 hx;have y:=(zE.1 n).1;have z:=q d (zG n);have C:c[j]?=some (.int .u8 (d:Int)):=by
   have t:(c.toList.take l.length)[j]?=some (.int .u8 (d:Int)):=by rw[h,qA,n];rfl
   rw[yX,if_pos y]at t
   simpa using t
  have i:w.drew.heap[g]?=some (.cells c 5 (0,0)):=m;have B:(UInt8.ofNat d).toNat=d:=by simp;omega
  rw[B,y3];simp[World.cell?,i,C])
 rw[a]at S;have A:(⟨(l.map UInt8.ofNat).toArray⟩:ByteArray)=bF l:=rfl;rw[A]at S;clear k f s h m a q
 go_enter func223,ntmps223
 go_wp2
 go_region
 all_goals(go_wp2;go_ret;exact⟨rfl,rfl⟩)
def QD(b:Nat)(p:Value)(w:World)(h:w.heap[b]?=some (.cells #[p,.slice none 0 0] 316 (0,0))) :
  Calls prog 223 #[.pointer (some ⟨b,0,none⟩)] w λe a=>e= .returned (.string ⟨#[]⟩)/\a=w.drew:=by
 have S:∀q W,(Builtin.unsafeString_ #[348,3] 9 #[.pointer q,.int .i64 0]).run prog W= .ok (.string .empty) W:=λq W=>Lib.run_unsafeString_none W _ _ _ q;have c1:w.drew.cell? ⟨b,1,none⟩=some (.slice none 0 0):=by
  have:w.drew.heap[b]?=_:=h;rw[Lib.cell_of_heap this];rfl
 have D:(Builtin.unsafeSliceData_ #[147] 348 #[.slice none 0 0]).run prog w.drew= .ok (.pointer none) w.drew:=rfl
 go_enter func223,ntmps223
 go_wp2
 go_region
 all_goals(go_wp2;go_ret;exact⟨rfl,rfl⟩)
def lc(b n:Nat)(σ:ae)(h:ni b n σ):az prog 223 [.v (pB b)] σ (λd σ'=>∃s:ByteArray,d= .v (.string s)/\s.size=n/\σ'=[]):=by
 obtain⟨p,v,s,l,rfl,hp,rfl,f⟩:=h;refine⟨enters_of func223 (by kernel_rfl) rfl,λw X vs T A=>?_⟩;obtain⟨u,G,rfl,W,V⟩:=Rl T;rw[aP9 V,W.val rfl];obtain⟨_,o,C,vs,rfl,t⟩:=A.at_ b _ yN;obtain⟨x,G,rfl,Q,t⟩:=Rl t;obtain⟨y,G,rfl,P,t⟩:=Rl t;rw[aP9 t,Q.val rfl,P.val rfl]at C;rcases f.2 with⟨rfl,rfl,rfl⟩|⟨m,K⟩
 .refine(QD b p w C).mono ?_;rintro e O ⟨rfl,rfl⟩;have hx:Ex w w.drew:=(Ex.refl w).drew;exact⟨_,_,[],rfl,⟨_,rfl,rfl,rfl⟩,.v _,(A.ex hx).sub (yV _),(kE hx).fewer (λb f=>by cases f)⟩
 .obtain⟨g,z,I,rfl,rfl,q,r,L,_⟩:=K.block (by simpa using m);obtain⟨_,o,N,vs,rfl,M⟩:=A.at_ g _ (yQ _ yN);have a:=Al K.len;rw[zL]at q L a C;have D:vs.length=z:=by rw[M.len,zI,a];omega
  have J:=M.take l.length;rw[List.take_left' (by rw[a];omega),l7]at J;have c:vs.take l.length=l.map λ(d:Nat)=>Value.int .u8 (d:Int):=by
   refine xY λj=>?_
   cases B:l[j]? with
   |none=>
    have L:l.length<=j:=by simpa using B
    rw[qA,B,yX,if_neg (by omega)];rfl
   |some d=>
    obtain⟨u,S,R⟩:=J.get (j:=j) (d:=.v (.int .u8 (d:Int))) (by rw[qA,B];rfl);rw[S,R.val rfl,qA,B];rfl
  refine(QC b g z p vs.toArray l f.1 w m C N q r (by simpa using D) c).mono ?_;rintro e O ⟨rfl,rfl⟩;have F:ba (λx=>x=g) w (w.drew.freeze ⟨g,0,none⟩ l.length):=by
   unfold World.freeze;split
   .exact⟨rfl,rfl,rfl,zT _,λ_ _ _=>rfl⟩
   .exact⟨rfl,rfl,rfl,by simp,λk F U=>by
     simp only[Array.getElem?_modify];rw[if_neg (λe=>U e.symm)];rfl⟩
  obtain⟨H,E⟩:∃H,(w.drew.freeze ⟨g,0,none⟩ l.length).heap[g]?=some H:=⟨_,Array.getElem?_eq_getElem (yI (zX.1 N).1 F.size)⟩
  obtain⟨Z,Y,_⟩:=A.upd (i:=1) rfl (k':=.obj λ_=>True) F E trivial;exact⟨_,_,[],rfl,⟨_,rfl,lq l,rfl⟩,.v _,Z.sub (yV _),Y.fewer (λb f=>by cases f)⟩
def QH(b n:Nat)(σ:ae)(h:ni b n σ)(t:List Nat)(ht:∀d∈t,d<256)(q:n+t.length<=1000000000):az prog 219 [.v (pB b),dr t] σ (λd σ'=>d= .any/\ni b (n+t.length) σ'):=by
 obtain⟨p,v,s,l,rfl,o,rfl,hb⟩:=h;obtain⟨k,hi,hj⟩:=xN.1 xy;simp only[vY]at hj;obtain⟨i,g,f⟩:=hj;refine dB func219 ntmps219 λr=>?_
 repeat refine aV ?_
 refine bu (pj b p v o) (by exact zH ([_]++s)) (λe=>e++s) (λe=>zH _) ?_;rintro _ _ ⟨rfl,rfl⟩
 repeat refine aV ?_
 refine ce.apbuf (m:=l) (l:=t) rfl rfl rfl underlying147 underlying9 hi i g f hb (τ:=[kB b (pB b) v]) (by exact yT (l₁:=[kB b (pB b) v])) ht q (λe=>kB b (pB b) v::e) (λe=>yT) (λa n c e j=>?_)
 repeat refine aV ?_
 exact Rt.by (Vs.le (λ_ _ v _=>.any v)) ⟨rfl,_,_,_,_,rfl,.inr rfl,zI,j⟩
def uJ(b n:Nat)(σ:ae)(h:ni b n σ)(c:Nat)(hc:c<256)(i:n+1<=1000000000):az prog 259 [.v (pB b),.v (.int .u8 (c:Int))] σ (λd σ'=>d= .any/\ni b (n+1) σ'):=by
 obtain⟨p,v,s,l,rfl,f,rfl,hb⟩:=h;refine dB func259 ntmps259 λk=>?_
 repeat refine aV ?_
 refine bu (pj b p v f) (by exact zH ([_]++s)) (λe=>e++s) (λe=>zH _) ?_;rintro _ _ ⟨rfl,rfl⟩
 repeat refine aV ?_
 refine Ap.go rfl rfl rfl rfl hb.row (τ:=[kB b (pB b) v]) (by exact yT (l₁:=[kB b (pB b) v])) rfl (zs:=(l++[c]).map λ(d:Nat)=>[D.v (.int .u8 (d:Int))]) (by rw[yB];rfl) (by simp;omega) (by simp;omega) (λe=>kB b (pB b) v::e) (λe=>yT) (λa j e r=>?_)
 repeat refine aV ?_
 exact Rt.by (Vs.le (λ_ _ v _=>.any v)) ⟨rfl,_,_,_,l++[c],rfl,.inr rfl,zI,iJ.add (λd g=>(zO.1 g).elim (hb.1 d) (λh=>by rw[zN]at h;omega)) (by simp) r⟩
end
section
open Go
abbrev z6(f:FuncId):D:=.v (.func (.func f) #[] #[])
abbrev cD(c:UInt8):D:=.v (.int .u8 c.toNat)
def NZ(n a b:Int):APure prog 158 [iD n,iD a,iD b] (bD (cF n a b)):=by
 refine ap func158 ntmps158 λe=>?_;exact YL
def aI0(lo hi a b:Int):APure prog 211 [iD lo,iD hi,iD a,iD b] (bD (lg lo hi a b)):=by
 refine ap func211 ntmps211 λe=>?_;exact YM
def aE4(c:UInt8):APure prog 246 [cD c] (bD (KC c)):=by
 refine ap func246 ntmps246 λa=>?_;exact YN
def BN(c:UInt8):APure prog 249 [cD c] (bD (o5 c)):=by
 refine ap func249 ntmps249 λa=>?_;exact YP
def TA{A B:Prop}(k:B)(h:ar B->A:=by intro q7;(first|refine bh ?_|refine aE ?_|(refine' aj ?hc ?_;(case hc=>first|exact aE4 _|exact BN _)));exact q7.1):A:=h ⟨k⟩
def BL(c:UInt8):APure prog 248 [cD c] (bD (!fw c)):=by
 refine ap func248 ntmps248 λa=>?_
 repeat' first|refine TA ?_|(refine aZ ?_;constructor<;>intro hc)
 all_goals(refine Rt.pure (zM bD ?_);simp[fw, *])
def P0{f:FuncId}(l:List UInt8)(p:UInt8->Bool)(hl:l.length<=1000000)(hp:∀y∈l,APure prog f [cD y] (bD (p y))):APure prog 266 [.sl 1 (l.map λc=>[cD c]),z6 f] (iD (idx p l)):=by
 refine ap func266 ntmps266 λa=>?_;exact rO
def Tz{A B:Prop}(k:B)(h:ar B->A:=by intro q7;(first|refine bh ?_|refine aE ?_|(refine' aj ?hc ?_;(case hc=>exact P0 l p hl hp)));exact q7.1):A:=h ⟨k⟩
def KV{f:FuncId}(l:List UInt8)(p:UInt8->Bool)(hl:l.length<=1000000)(hp:∀y∈l,APure prog f [cD y] (bD (p y))):APure prog 247 [.sl 1 (l.map λc=>[cD c]),z6 f] (bD (l.any p)):=by
 refine ap func247 ntmps247 λa=>?_
 repeat refine Tz ?_
 refine Rt.pure (zM bD ?_);exact uK p l
end
section
open Go
def aU3(s:ByteArray):bF ((bytes s).map UInt8.toNat)=s:=by
 unfold bF bytes;rw[vA];have:(UInt8.ofNat ∘ UInt8.toNat)=id:=by funext c;simp
 rw[this,List.map_id]
def AA{P:Program}{σ:ae}{ρ:Operand->D}{o:Oper}{s d e:TypeId}{x:Operand}{b:ByteArray}(a:o.op= .convert s d x)(hx:ρ x=sD b)(j:P.underlying s=some .string)(i:P.underlying d=some (.slice e))(g:P.underlying e=some (.int .u8)):Yd P o ρ σ (.sl 1 ((bytes b).map λc=>[cD c])):=by
 have h:=Az (P:=P) (ρ:=ρ) (σ:=σ) (l:=(bytes b).map UInt8.toNat) a (hx.trans (zM (λz=>D.v (.string z)) (aU3 b).symm)) (λc f=>by obtain⟨u,_,rfl⟩:=xM.1 f;exact u.toNat_lt) j i g;rw[vA]at h;exact h
def MS{p:Prop}(h:p:=by
 induction l with
 |nil=>rfl
 |cons a l ih=>rw[List.any_cons,List.all_cons,ih,Bool.not_and]):p:=h
def yS(l:List UInt8):(l.any λc=>!fw c)=!(l.all fw):=MS
def L7{A B:Prop}(k:B)(h:ar B->A:=by intro q7;(first|refine bh ?_|refine aE ?_|(refine' aj ?hc ?_;(case hc=>first|exact NZ _ _ _|exact aE4 _|exact HA)));exact q7.1):A:=h ⟨k⟩
def Q1(s:ByteArray):APure prog 210 [sD s] (bD (bf s)):=by
 refine ap func210 ntmps210 λb=>?_;by_cases hs:1<=s.size/\s.size<=12
 .have hw:cF s.size 1 12=true:=by simp[cF];omega
  have h0:0<(bytes s).length:=by rw[aw5];omega
  obtain⟨c,hc0⟩:∃c,(bytes s)[(0:Int).toNat]?=some c:=⟨_,zD h0⟩
  have a:bf s=(KC c&&(bytes s).all fw):=YQ;have HA:=KV (bytes s) (λc=>!fw c) (by rw[aw5];omega) (λy _=>BL y);rw[yS]at HA
  repeat' first|refine L7 ?_|((with_reducible refine' Ot.yd ?hydn ?_);(case hydn=>exact AA rfl rfl underlying9 underlying147 underlying5))|with_reducible refine Br.b (λhc=>?_) (λhc=>?_)
  all_goals(refine Rt.pure (zM bD ?_);rw[a];simp[*])
 .have hw:cF s.size 1 12=false:=by simp[cF];omega
  have a:bf s=false:=by unfold bf;rw[hw];simp
  have HA:=True.intro
  repeat' first|refine L7 ?_|((with_reducible refine' Ot.yd ?hydn ?_);(case hydn=>exact AA rfl rfl underlying9 underlying147 underlying5))|with_reducible refine Br.b (λhc=>?_) (λhc=>?_)
  all_goals first|(refine Rt.pure (zM bD ?_);exact a.symm)|(simp[hw]at *)
end
section
open Go Go.RowKit Go.Shelf Go.Sort
section
variable {P:Program} {ρ:Operand->D} {σ:ae}
variable{t:TypeId}{o:Oper}{x:Operand}
def km{a b:TypeId}{u r:Value}(d:o.op= .typeAssert x a b true)(hx:ρ x= .v (.iface t u))(h:∀w:World,(Instr.typeAssert (.iface t u) a b true).run P w= .ok r w):Yd P o ρ σ (.v r):=by
 intro w X η c e;obtain⟨dst,op,y,pos,i,g⟩:=o;simp only at d;subst d;have f:=(c x (by simp[Op.operands])).val hx;have:=h w;rw[←f]at this;exact ev this (Ex.refl w) (.v _)
def bZ{v:Value}{u:TypeDesc}(a:o.op= .makeInterface t x)(hx:ρ x= .v v)(b:P.underlying t=some u)(n:∀m,u ≠ .interface m):Yd P o ρ σ (.v (.iface t v)):=by
 intro w X η h c;obtain⟨dst,op,y,pos,e,g⟩:=o;simp only at a;subst a;have d:=(h x (by simp[Op.operands])).val hx;refine ev (s:=Instr.makeInterface t (η x)) (u:=.iface t v) ?_ (Ex.refl w) (.v _);unfold Instr.makeInterface;rw[Sem.run_bind,run_underlying b,d];simp only[Result.andThen];exact Sem.run_pure ..
end
def xw(n:Int)(a:-9223372036854775808<=n)(h:n<=9223372036854775807):(Lib.itoa n).length<=bC n:=by
 unfold bC;split
 .by_cases hneg:n<0
  .obtain⟨u,rfl⟩:∃u:Nat,n= -(u:Int):=⟨n.natAbs,by omega⟩
   rw[Lib.itoa_neg u (by omega),List.length_cons,Lib.decDigits_length];have:=aR4 u (by omega);omega
  .obtain⟨u,rfl⟩:∃u:Nat,n=u:=⟨n.toNat,by omega⟩
   rw[Lib.itoa_nonneg,Lib.decDigits_length];have:=aR4 u (by omega);omega
 .exact Lib.itoa_length_le n a h
def IA(n:Int)(h:cp n):bH prog 260 [iD n] (λd=>∃s:ByteArray,d=sD s/\s.size<=bC n):=by
 refine⟨enters_of func260 (by kernel_rfl) rfl,λw O vs a g=>?_⟩;obtain⟨u,l,rfl,i,f⟩:=Rl a;rw[aP9 f,i.val rfl];refine(strconv_Itoa n h.lo h.hi w g.pow).mono ?_;rintro e j ⟨rfl,k,o,rfl⟩;exact⟨_,_,rfl,⟨_,rfl,by have:=xw n h.lo h.hi;simpa [ByteArray.size]using this⟩,.v _,⟨rfl,rfl,rfl,by simp[grow,Array.size_append],λb c _=>by
  show(w.heap++o)[b]?=_;rw[vV c]⟩⟩
def GL:Int⊕ByteArray->List D
 |.inl n=>[.v (.iface 3 (.int .i64 n))]
 |.inr s=>[.v (.iface 9 (.string s))]
def ig:Int⊕ByteArray->Nat
 |.inl n=>1+bC n
 |.inr s=>1+s.size
def ew(l:List (Int⊕ByteArray)):Nat:=(l.map ig).sum
def oM(l:List (Int⊕ByteArray))(j:Nat)(x:Int⊕ByteArray)(h:l[j]?=some x):ew (l.take (j+1))=ew (l.take j)+ig x:=by
 simp[ew,xC,h,vO]
def kP(l:List (Int⊕ByteArray)):∀j,ew (l.take j)<=ew l:=by
 induction l with
 |nil=>intro j;simp[ew]
 |cons x l i=>
  intro j
  cases j with
  |zero=>simp[ew]
  |succ j=>have:=i j;simp only[ew,List.take_succ_cons,List.map_cons,List.sum_cons]at *;omega
def aI9(l m:List (Int⊕ByteArray)):ew (l++m)=ew l+ew m:=by simp[ew]
def CE.gsome{P:Program}{g:FuncId}{args b:List D}{σ τ:ae}{K:D->ae->Prop}{R:D->Prop}(v:fF σ args τ b)(h:bH P g b R)(k:∀e,R e->W (K e τ)):CE P g args σ K:=
 ⟨σ,[],λa i=>R a/\i=τ,by simp,⟨h.ent,λw X vs s m=>by
  obtain⟨l,o⟩:=v.run w X vs m s;exact(h.run w (ay τ X) _ o l.gok).mono λe p⟨u,d,f,c,n,j⟩=>⟨u,d,_,f,⟨c,rfl⟩,n,l.ex j,(kE j).wider v.sub⟩⟩,
  λa i⟨f,c⟩=>by subst c;exact⟨_,by simp,(k a f).h⟩⟩
def cn(l:List (Int⊕ByteArray)):Prop:=∀n,Sum.inl n∈l->cp n
def LS(q:Int)(w:World):(Instr.typeAssert (.iface 3 (.int .i64 q)) 20 3 true).run prog w= .ok (.tuple #[.int .i64 q,.bool true]) w:=by kernel_rfl
def LR(q:ByteArray)(w:World):(Instr.typeAssert (.iface 9 (.string q)) 20 3 true).run prog w= .ok (.tuple #[.int .i64 0,.bool false]) w:=by kernel_rfl
def LQ(q:ByteArray)(w:World):(Instr.typeAssert (.iface 9 (.string q)) 20 9 true).run prog w= .ok (.tuple #[.string q,.bool true]) w:=by kernel_rfl
def NM(b n:Nat)(σ:ae)(h:ni b n σ)(s:ByteArray)(f:n+s.size<=1000000000):az prog 219 [.v (pB b),sD s] σ (λd σ'=>d= .any/\ni b (n+s.size) σ'):=by
 have e:=aU3 s;have l:=lq ((bytes s).map UInt8.toNat);rw[e]at l;have:=QH b n σ h ((bytes s).map UInt8.toNat) (λd a=>by obtain⟨c,_,rfl⟩:=xM.1 a;exact c.toNat_lt) (by omega);rw[←l]at this;rw[show dr ((bytes s).map UInt8.toNat)=sD s by rw[show dr ((bytes s).map UInt8.toNat)= .v (.string (bF ((bytes s).map UInt8.toNat))) from rfl,e]]at this;exact this
def Y0{p:Prop}(h:p:=by
 rintro _ s2 ⟨rfl,hB2⟩
 repeat' first|refine au ?_|intro b;conv=>whnf
 exact⟨(j+1,_,s2),(ah av),Sc.refl _,⟨by simp only;omega,by simp only;omega,hB2⟩,by simp only;omega⟩):p:=h
def Ah(w:ByteArray)(i:List (Int⊕ByteArray))(hi:cn i)(hl:i.length<=2000000)(y:w.size+ew i<=100000000) :
  bH prog 220 [sD w,.sl 1 (i.map GL)] (λd=>∃s:ByteArray,d=sD s/\s.size<=w.size+ew i+1):=by
 refine bH.of_call ?_;refine dB func220 ntmps220 λz=>?_
 repeat' first|refine au ?_|intro b;conv=>whnf
 refine bu (NM b 0 _ (ni.new b) w (by omega)) (bR _) (λa=>a) dF ?_;rintro _ s ⟨rfl,f⟩
 repeat' first|refine au ?_|intro b;conv=>whnf
 refine aO mixed ai (γ:=Nat×Nat×ae) (λg=>[(14,iD g.1)]) (λg=>g.2.2) (λg=>g.1<=i.length/\g.2.1<=w.size+ew (i.take g.1)/\ni b g.2.1 g.2.2) (λg=>i.length-g.1) (0,_,s) (ah av) (Sc.refl _) ⟨zW _,by simp,f⟩ ?_;clear f;rintro⟨j,n,s⟩ ⟨hj,l,f⟩;simp only at hj l f⊢;have v:=kP i j;by_cases hlt:j<i.length
 .obtain⟨x,hx⟩:∃x,i[j]?=some x:=⟨_,zD hlt⟩
  have r:i[((j:Nat):Int).toNat]?=some x:=hx;have hs:=oM i j x hx;have o:=kP i (j+1)
  cases x with
  |inl q=>
   have u:=hi q (zG hx);simp only[ig]at hs
   repeat' first|refine au ?_|intro b;conv=>whnf
   (refine bu (uJ b n s f 32 (by decide) (by omega)) (bR _) (λa=>a) dF ?_;(rintro _ k ⟨rfl,e⟩))
   repeat' first|refine au ?_|intro b;conv=>whnf|((with_reducible refine' Ot.yd ?hydt ?_);(case hydt=>first|exact km rfl rfl (LS _)|exact km rfl rfl (LR _)|exact km rfl rfl (LQ _)))
   refine CE.some (IA q u) ?_;rintro _ ⟨t,rfl,ht⟩
   repeat' first|refine au ?_|intro b;conv=>whnf
   refine bu (NM b (n+1) k e t (by omega)) (bR _) (λa=>a) dF ?_;exact Y0
  |inr q=>
   simp only[ig]at hs
   repeat' first|refine au ?_|intro b;conv=>whnf
   (refine bu (uJ b n s f 32 (by decide) (by omega)) (bR _) (λa=>a) dF ?_;(rintro _ k ⟨rfl,e⟩))
   repeat' first|refine au ?_|intro b;conv=>whnf|((with_reducible refine' Ot.yd ?hydt ?_);(case hydt=>first|exact km rfl rfl (LS _)|exact km rfl rfl (LR _)|exact km rfl rfl (LQ _)))
   refine bu (NM b (n+1) k e q (by omega)) (bR _) (λa=>a) dF ?_;exact Y0
 .obtain rfl:j=i.length:=by omega
  rw[yM]at l
  repeat' first|refine au ?_|intro b;conv=>whnf
  refine bu (lc b n s f) (bR _) (λa=>a) dF ?_;rintro _ _ ⟨t,rfl,ht,rfl⟩
  repeat' first|refine au ?_|intro b;conv=>whnf
  refine Sd.go (show t.size+1<=_ by omega) ?_
  repeat' first|refine au ?_|intro b;conv=>whnf
  exact Rt.same ⟨_,rfl,by rw[yU,ht];show n+1<=_;omega⟩
def Qr(s t:ByteArray):bH prog 261 [gr [s,t]] (λd=>∃r,d=sD r/\r.size<=s.size+t.size):=by
 refine bH.of_call ?_;refine dB func261 ntmps261 λb=>?_
 repeat refine au ?_
 refine aO mixed ai (γ:=Nat) (λj=>[(8,iD j)]) (λ_=>[]) (λj=>j<=2) (λj=>2-j) 0 (ah av) (Sc.refl _) (zW _) ?_;rintro j hj;by_cases h2:j<2
 .obtain⟨x,hx,a⟩:∃x,[s,t][((j:Nat):Int).toNat]?=some x/\x.size<=s.size+t.size:=by
   rcases(by omega:j=0\/j=1)with rfl|rfl
   .exact⟨s,rfl,by omega⟩
   .exact⟨t,rfl,by omega⟩
  repeat' first|refine au ?_|(refine aZ ?_;constructor<;>intro hc)
  .exact⟨j+1,(ah av),Sc.refl _,by omega,by omega⟩
  .exact Rt.same ⟨x,rfl,a⟩
 .obtain rfl:j=2:=by omega
  repeat refine au ?_
  exact Rt.same ⟨⟨#[]⟩,rfl,zW _⟩
def aE3(s:ByteArray):bH prog 222 [sD s] (λd=>∃t:ByteArray,d=sD t/\t.size<=s.size+1):=by
 refine bH.of_call ?_;refine dB func222 ntmps222 λa=>?_
 repeat refine au ?_
 refine CE.some (Qr s ⟨#[45]⟩) ?_;rintro _ ⟨t,rfl,ht⟩
 repeat refine au ?_
 exact Rt.same ⟨t,rfl,ht⟩
def mH:List ByteArray->List Int->List (Int⊕ByteArray)
 |s::ws,n::g=>.inr s::.inl n::mH ws g
 |_,_=>[]
def aK3:∀(ws:List ByteArray)(g:List Int)(j:Nat)(s:ByteArray)(n:Int),ws[j]?=some s->g[j]?=some n->mH (ws.take (j+1)) (g.take (j+1))=mH (ws.take j) (g.take j)++[.inr s,.inl n]
 |[],_,_,_,_,h,_=>by simp at h
 |_::_,[],_,_,_,_,h=>by simp at h
 |s::ws,n::g,0,b,c,h,a=>by simp at h a;subst h a;simp[mH]
 |s::ws,n::g,j+1,b,c,h,a=>by
  have:=aK3 ws g j b c (by simpa using h) (by simpa using a);simp only[List.take_succ_cons,mH,this,List.cons_append]
def av9:∀(ws:List ByteArray)(g:List Int),ws.length=g.length->(mH ws g).length=2*ws.length
 |[],[],_=>rfl
 |_::ws,_::g,h=>by have:=av9 ws g (by simpa using h);simp only[mH,List.length_cons,this];omega
def kD:∀(ws:List ByteArray)(g:List Int),ws.length=g.length->ew (mH ws g)=(ws.map λs=>1+s.size).sum+(g.map λn=>1+bC n).sum
 |[],[],_=>rfl
 |_::ws,_::g,h=>by
  have:=kD ws g (by simpa using h);simp only[ew,mH,List.map_cons,List.sum_cons,ig]at this⊢;omega
def aW0:∀(ws:List ByteArray)(s:List Int),(∀n∈s,cp n)->cn (mH ws s)
 |[],_,_,_,h=>by simp[mH]at h
 |_::_,[],_,_,h=>by simp[mH]at h
 |_::ws,g::s,a,n,h=>by
  simp only[mH,zU,reduceCtorEq,Sum.inl.injEq,false_or]at h;rcases h with rfl|h
  .exact a _ (by simp)
  .exact aW0 ws s (λm b=>a m (by simp[b])) n h
section
variable {ρ:Operand->D} {σ:ae}
def Lg{o:Oper}{x:Operand}{m:Nat}{s:ByteArray}(b:o.op= .load 9 x)(hx:ρ x= .v (.pointer (some ⟨1,m,none⟩)))(h:∀w,mN w->w.cell? ⟨1,m,none⟩=some (.string s)):Yd prog o ρ σ (sD s):=by
 intro w X η a t;obtain⟨dst,op,y,pos,d,g⟩:=o;simp only at b;subst b;have p:=(a x (by simp[Op.operands])).val hx;obtain⟨c,e⟩:=N6 (ai 9 _ rfl) w;refine ev (s:=Instr.loadAt 9 (η x)) (u:=.string s) ?_ (Ex.refl w) (.v _);rw[p];exact R0 c (h w t.gok.words)
end
def oJ{f:an}(h:fy f=true):0<=f.kind/\f.kind<=8:=by
 unfold fy at h
 repeat' split at h
 all_goals first|omega|simp at h
def CT{ws:List ByteArray}{gs:List Int}(h:na ws gs=true):ws.length=gs.length/\ws.length<=12:=by
 simp only[na,zJ,cF,zQ]at h;omega
def cn.nil:cn []:=λn h=>by cases h
variable{l:List (Int⊕ByteArray)}
def cn.s{x:ByteArray}(h:cn l):cn (.inr x::l):=λn a=>(zU.1 a).elim (λe=>by cases e) (h n)
def cn.i{x:Int}(hx:cp x)(h:cn l):cn (.inl x::l):=λn a=>(zU.1 a).elim (λe=>by cases e;exact hx) (h n)
def cn.app{m:List (Int⊕ByteArray)}(h:cn l)(k:cn m):cn (l++m):=λn a=>(zO.1 a).elim (h n) (k n)
def z'(n:ByteArray)(ws:List ByteArray)(gs:List Int)(j:Nat):List (Int⊕ByteArray):=[.inr n,.inl (ws.length:Int)]++mH (ws.take j) (gs.take j)
def ue(l:List (Int⊕ByteArray)):∀y∈l.map GL,y.length=1:=λy h=>by obtain⟨x,_,rfl⟩:=xM.1 h;cases x<;>rfl
def ld(a:Array UInt8):(ByteArray.mk a).size=a.size:=rfl
def Bu{A B:Prop}(k:B)(h:ar B->A:=by intro q7;(first|refine bc ?_|refine jh ?_|(refine' aj ?hc ?_;(case hc=>fail)));exact q7.1):A:=h ⟨k⟩
def cQ{A B:Prop}(k:B)(h:ar B->A:=by intro q7;(first|refine bc ?_|refine zw ?_|(refine' aj ?hc ?_;(case hc=>fail)));exact q7.1):A:=h ⟨k⟩
variable{p:Prop}
def yc(h:p:=by repeat(first|exact cn.nil|apply cn.s|exact cn.i hlo (cn.i hhi cn.nil)|exact cn.i hlo cn.nil)):p:=h
def yb(h:p:=by unfold gk at hb;(simp only[ew,ig,List.map_cons,List.map_nil,List.sum_cons,List.sum_nil,ld,List.size_toArray,List.length_cons,List.length_nil]at hb⊢);omega):p:=h
def Qm(h:p:=by
 repeat' first|refine cQ ?_|((with_reducible refine' Ot.yd ?hydn ?_);(case hydn=>first|exact bZ rfl rfl underlying9 (λm h=>by cases h)|exact bZ rfl rfl underlying3 (λm h=>by cases h)))|(refine And.intro ?_ ?_<;>(conv=>whnf))|(refine CE.some (aE3 o) ?_;(rintro _ ⟨o2,rfl,ho2⟩))|(refine CE.some (Ah _ [.inr n,.inr o2,.inl lo,.inl hi] yc (by simp) yb) ?_;(rintro _ ⟨t,rfl,ht⟩))
 exact⟨t,(ah aJ),Sc.refl _,by unfold gk;(simp only[ew,ig,List.map_cons,List.map_nil,List.sum_cons,List.sum_nil,ld,List.size_toArray,List.length_cons,List.length_nil]at ht ho2⊢);omega⟩):p:=h
def BM(f:an)(hlo:cp f.lo)(hhi:cp f.hi)(G:dV f=true)(K:∀n∈f.wz,cp n)(hb:gk f<=10000000):bH prog 221 [.agg (aA f)] (λd=>∃s:ByteArray,d=sD s/\s.size<=gk f):=by
 refine bH.of_call ?_;have J:fy f=true:=by simp only[dV,zJ]at G;exact G.2
 have r:=oJ J;obtain⟨n,o,u,k,lo,hi,ws,b⟩:=f;simp only at hlo hhi K r;have h:k=3\/k=0\/k=1\/k=2\/k=4\/k=5\/k=6\/k=7\/k=8:=by omega
 rcases h with rfl|rfl|rfl|rfl|rfl|rfl|rfl|rfl|rfl
 .obtain⟨hl,Q⟩:=CT (ws:=ws) (gs:=b) (by simpa [fy]using J);have z:=kD ws b hl;refine dB func221 ntmps221 λe=>?_
  repeat refine Bu ?_
  refine Bx.l ?_
  repeat' first|refine Bu ?_|((with_reducible refine' Ot.yd ?hydn ?_);(case hydn=>first|exact bZ rfl rfl underlying9 (λm h=>by cases h)|exact bZ rfl rfl underlying3 (λm h=>by cases h)))|((with_reducible refine' Ot.yd ?hydw ?_);(case hydw=>exact cG ai (m:=3) rfl rfl rfl rfl rfl rfl (by decide)))|((with_reducible refine' Ld.yd ?hydw ?_);(case hydw=>exact Lg (m:=3) rfl rfl (λw h=>h 3 _ rfl)))
  refine Bx.r ?_;refine Uy ai (out:=[.v (.iface 9 (.string n)),.v (.iface 3 (.int .i64 ((ws.map λx=>[sD x]).length:Nat)))]) rfl rfl rfl rfl rfl rfl rfl rfl rfl rfl (by decide) (λC=>?_)
  repeat refine au ?_
  have l:ab 20 1 ((z' n ws b 0).map GL) (.slice (some ⟨C,0,none⟩) 2 2) [(C,.cells 20 [.v (.iface 9 (.string n)),.v (.iface 3 (.int .i64 ((ws.map λx=>[sD x]).length:Nat)))])]:=
   ⟨ue _,.inr ⟨C,2,[],by simp[z',mH],by simp[z',mH,GL],by simp[z',mH],by decide,by simp[z',mH],λd O=>by cases O⟩⟩
  refine aO mixed ai (γ:=Nat×Value×ae) (λg=>[(51,iD g.1),(4,.v g.2.1)]) (λg=>g.2.2) (λg=>g.1<=ws.length/\ab 20 1 ((z' n ws b g.1).map GL) g.2.1 g.2.2) (λg=>ws.length-g.1) (0,_,[(C,.cells 20 [.v (.iface 9 (.string n)),.v (.iface 3 (.int .i64 ((ws.map λx=>[sD x]).length:Nat)))])]) (ah av) (Sc.refl _) ⟨zW _,l⟩ ?_;clear l;rintro⟨j,v,s⟩ ⟨hj,r⟩;simp only at hj r⊢;by_cases hlt:j<ws.length
  .obtain⟨a,L⟩:∃x,ws[j]?=some x:=⟨_,zD hlt⟩
   obtain⟨q,I⟩:∃x,b[j]?=some x:=⟨_,zD (by omega)⟩
   have P:ws[((j:Nat):Int).toNat]?=some a:=L;have M:b[((j:Nat):Int).toNat]?=some q:=I;have F:=aK3 ws b j a q L I;have y:=av9 (ws.take (j+1)) (b.take (j+1)) (by rw[zR,zR,hl]);rw[zR]at y
   repeat' first|refine au ?_|((with_reducible refine' Ot.yd ?hydn ?_);(case hydn=>first|exact bZ rfl rfl underlying9 (λm h=>by cases h)|exact bZ rfl rfl underlying3 (λm h=>by cases h)))
   have R:(z' n ws b (j+1)).length<=100:=by unfold z';rw[zI,y];show 2+_<=_;omega
   refine Ap.go rfl rfl rfl rfl r (bR _) rfl (zs:=(z' n ws b (j+1)).map GL) (by unfold z';rw[F,←zV,yB (l₂:=[_,_])];rfl) (by rw[zL];omega) (by rw[zL];omega) (λD=>D) dF (λT S D E=>?_)
   repeat refine au ?_
   exact⟨(j+1,_,D),(ah av),Sc.refl _,⟨by simp only;omega,E⟩,by simp only;omega⟩
  .obtain rfl:j=ws.length:=by omega
   rw[show z' n ws b ws.length=[.inr n,.inl (ws.length:Int)]++mH ws b by unfold z';rw[yM,hl,yM]]at r
   repeat refine au ?_
   refine CE.gsome (.cons (Vs.refl _ _) (.cons (Vs.row r (bR _)) (.nil _))) (Ah _ _ (cn.app (.s (.i (cp.mk (by omega) (by omega)) .nil)) (aW0 ws b K)) (by rw[zI,av9 ws b hl];show 2+_<=_;omega) (by unfold gk at hb;rw[aI9,z];(simp only[ew,ig,List.map_cons,List.map_nil,List.sum_cons,List.sum_nil,ld,List.size_toArray,List.length_cons,List.length_nil]at hb⊢);omega)) ?_;rintro _ ⟨t,rfl,ht⟩;rw[aI9,z]at ht
   repeat refine au ?_
   exact Rt.same ⟨t,rfl,by unfold gk;(simp only[ew,ig,List.map_cons,List.map_nil,List.sum_cons,List.sum_nil,ld,List.size_toArray,List.length_cons,List.length_nil]at ht⊢);omega⟩
 .refine dB func221 ntmps221 λe=>?_
  repeat' first|refine au ?_|((with_reducible refine' Ot.yd ?hydn ?_);(case hydn=>first|exact bZ rfl rfl underlying9 (λm h=>by cases h)|exact bZ rfl rfl underlying3 (λm h=>by cases h)))|((with_reducible refine' Ot.yd ?hydw ?_);(case hydw=>exact cG ai (m:=0) rfl rfl rfl rfl rfl rfl (by decide)))|((with_reducible refine' Ld.yd ?hydw ?_);(case hydw=>exact Lg (m:=0) rfl rfl (λw h=>h 0 _ rfl)))|(refine CE.some (Ah _ [.inr n,.inl lo] yc (by simp) yb) ?_;(rintro _ ⟨t,rfl,ht⟩))
  exact Rt.same ⟨t,rfl,by unfold gk;(simp only[ew,ig,List.map_cons,List.map_nil,List.sum_cons,List.sum_nil,ld,List.size_toArray,List.length_cons,List.length_nil]at ht⊢);omega⟩
 .refine dB func221 ntmps221 λe=>?_
  repeat' first|refine cQ ?_|((with_reducible refine' Ot.yd ?hydn ?_);(case hydn=>first|exact bZ rfl rfl underlying9 (λm h=>by cases h)|exact bZ rfl rfl underlying3 (λm h=>by cases h)))|((with_reducible refine' Ot.yd ?hydw ?_);(case hydw=>exact cG ai (m:=1) rfl rfl rfl rfl rfl rfl (by decide)))|((with_reducible refine' Ld.yd ?hydw ?_);(case hydw=>exact Lg (m:=1) rfl rfl (λw h=>h 1 _ rfl))) 
  ((refine Dr.r ?_;refine W.mk ?_);refine iG mixed ai rfl [0,1,2,3,4,5,8,9,10,11,12,13] 5 (hQ [6,15]) (.one 6 (.fst 7 (.fst 14 (.one 15 (.fst 16 .done))))) (γ:=ByteArray) (λs=>[(2,sD s)]) (λ_=>[]) (λs=>s.size<=gk ⟨n,o,u,1,lo,hi,ws,b⟩) (by decide +kernel) ?_ ?_)
  .exact Qm
  .intro t ht
   repeat refine cQ ?_
   exact Rt.same ⟨t,rfl,ht⟩
 .refine dB func221 ntmps221 λe=>?_
  repeat' first|refine cQ ?_|((with_reducible refine' Ot.yd ?hydn ?_);(case hydn=>first|exact bZ rfl rfl underlying9 (λm h=>by cases h)|exact bZ rfl rfl underlying3 (λm h=>by cases h)))|((with_reducible refine' Ot.yd ?hydw ?_);(case hydw=>exact cG ai (m:=2) rfl rfl rfl rfl rfl rfl (by decide)))|((with_reducible refine' Ld.yd ?hydw ?_);(case hydw=>exact Lg (m:=2) rfl rfl (λw h=>h 2 _ rfl)))|(refine CE.some (Ah _ [.inr n,.inl lo,.inl hi] yc (by simp) yb) ?_;(rintro _ ⟨t,rfl,ht⟩))
  exact Rt.same ⟨t,rfl,by unfold gk;(simp only[ew,ig,List.map_cons,List.map_nil,List.sum_cons,List.sum_nil,ld,List.size_toArray,List.length_cons,List.length_nil]at ht⊢);omega⟩
 .refine dB func221 ntmps221 λe=>?_
  repeat' first|refine cQ ?_|((with_reducible refine' Ot.yd ?hydn ?_);(case hydn=>first|exact bZ rfl rfl underlying9 (λm h=>by cases h)|exact bZ rfl rfl underlying3 (λm h=>by cases h)))|((with_reducible refine' Ot.yd ?hydw ?_);(case hydw=>exact cG ai (m:=4) rfl rfl rfl rfl rfl rfl (by decide)))|((with_reducible refine' Ld.yd ?hydw ?_);(case hydw=>exact Lg (m:=4) rfl rfl (λw h=>h 4 _ rfl))) 
  ((refine Dr.r ?_;refine W.mk ?_);refine iG mixed ai rfl [0,1,2,3,4,5,8,9,10,11,12,13] 5 (hQ [6,15]) (.one 6 (.fst 7 (.fst 14 (.one 15 (.fst 16 .done))))) (γ:=ByteArray) (λs=>[(2,sD s)]) (λ_=>[]) (λs=>s.size<=gk ⟨n,o,u,4,lo,hi,ws,b⟩) (by decide +kernel) ?_ ?_)
  .exact Qm
  .intro t ht
   repeat refine cQ ?_
   exact Rt.same ⟨t,rfl,ht⟩
 .refine dB func221 ntmps221 λe=>?_
  repeat' first|refine cQ ?_|((with_reducible refine' Ot.yd ?hydn ?_);(case hydn=>first|exact bZ rfl rfl underlying9 (λm h=>by cases h)|exact bZ rfl rfl underlying3 (λm h=>by cases h)))|((with_reducible refine' Ot.yd ?hydw ?_);(case hydw=>exact cG ai (m:=5) rfl rfl rfl rfl rfl rfl (by decide)))|((with_reducible refine' Ld.yd ?hydw ?_);(case hydw=>exact Lg (m:=5) rfl rfl (λw h=>h 5 _ rfl))) 
  ((refine Dr.r ?_;refine W.mk ?_);refine iG mixed ai rfl [0,1,2,3,4,5,8,9,10,11,12,13] 5 (hQ [6,15]) (.one 6 (.fst 7 (.fst 14 (.one 15 (.fst 16 .done))))) (γ:=ByteArray) (λs=>[(2,sD s)]) (λ_=>[]) (λs=>s.size<=gk ⟨n,o,u,5,lo,hi,ws,b⟩) (by decide +kernel) ?_ ?_)
  .exact Qm
  .intro t ht
   repeat refine cQ ?_
   exact Rt.same ⟨t,rfl,ht⟩
 .refine dB func221 ntmps221 λe=>?_
  repeat' first|refine cQ ?_|((with_reducible refine' Ot.yd ?hydn ?_);(case hydn=>first|exact bZ rfl rfl underlying9 (λm h=>by cases h)|exact bZ rfl rfl underlying3 (λm h=>by cases h)))|((with_reducible refine' Ot.yd ?hydw ?_);(case hydw=>exact cG ai (m:=6) rfl rfl rfl rfl rfl rfl (by decide)))|((with_reducible refine' Ld.yd ?hydw ?_);(case hydw=>exact Lg (m:=6) rfl rfl (λw h=>h 6 _ rfl)))|(refine CE.some (Ah _ [.inr n,.inr o] yc (by simp) yb) ?_;(rintro _ ⟨t,rfl,ht⟩))
  exact Rt.same ⟨t,rfl,by unfold gk;(simp only[ew,ig,List.map_cons,List.map_nil,List.sum_cons,List.sum_nil,ld,List.size_toArray,List.length_cons,List.length_nil]at ht⊢);omega⟩
 .refine dB func221 ntmps221 λe=>?_
  repeat' first|refine cQ ?_|((with_reducible refine' Ot.yd ?hydn ?_);(case hydn=>first|exact bZ rfl rfl underlying9 (λm h=>by cases h)|exact bZ rfl rfl underlying3 (λm h=>by cases h)))|((with_reducible refine' Ot.yd ?hydw ?_);(case hydw=>exact cG ai (m:=7) rfl rfl rfl rfl rfl rfl (by decide)))|((with_reducible refine' Ld.yd ?hydw ?_);(case hydw=>exact Lg (m:=7) rfl rfl (λw h=>h 7 _ rfl)))|(refine CE.some (Ah _ [.inr n,.inr u,.inr o,.inl lo,.inl hi] yc (by simp) yb) ?_;(rintro _ ⟨t,rfl,ht⟩))
  exact Rt.same ⟨t,rfl,by unfold gk;(simp only[ew,ig,List.map_cons,List.map_nil,List.sum_cons,List.sum_nil,ld,List.size_toArray,List.length_cons,List.length_nil]at ht⊢);omega⟩
 .refine dB func221 ntmps221 λe=>?_
  repeat' first|refine cQ ?_|((with_reducible refine' Ot.yd ?hydn ?_);(case hydn=>first|exact bZ rfl rfl underlying9 (λm h=>by cases h)|exact bZ rfl rfl underlying3 (λm h=>by cases h)))|((with_reducible refine' Ot.yd ?hydw ?_);(case hydw=>exact cG ai (m:=8) rfl rfl rfl rfl rfl rfl (by decide)))|((with_reducible refine' Ld.yd ?hydw ?_);(case hydw=>exact Lg (m:=8) rfl rfl (λw h=>h 8 _ rfl)))|(refine CE.some (Ah _ [.inr n,.inr u,.inr o] yc (by simp) yb) ?_;(rintro _ ⟨t,rfl,ht⟩))
  exact Rt.same ⟨t,rfl,by unfold gk;(simp only[ew,ig,List.map_cons,List.map_nil,List.sum_cons,List.sum_nil,ld,List.size_toArray,List.length_cons,List.length_nil]at ht⊢);omega⟩
end
end Go.Proofs.YtilnpcolgcmofaaGreatDoor
