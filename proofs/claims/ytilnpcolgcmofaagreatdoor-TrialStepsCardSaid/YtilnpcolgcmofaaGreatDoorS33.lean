/- A part of the proof: Lc. -/
import Derived.Test.YtilnpcolgcmofaaGreatDoorS32
import Derived.ProofKit
import Derived.ChangeSlices
import Derived.ChangeCalls
import Derived.Deep.Onto
import Derived.Stop.Joined
set_option maxRecDepth 100000
set_option maxHeartbeats 20000000
set_option linter.all false
namespace Go.Proofs.YtilnpcolgcmofaaGreatDoor
open Go.Proofs.Tryz
section
open Go Go.ChangeShapes Go.WideShapes Go.ChangeAt Go.RowKit
set_option maxRecDepth 100000
theorem LH:prog.cellsOf 3=1:=by kernel_rfl
theorem YX:prog.bytesOf 3=8:=by kernel_rfl
inductive oB:TypeId->D->Prop
 |int (n:Int) (h:qY n):oB 3 (iD n)
 |ints (l:List Int) (h:eB l):oB 22 (bi l)
inductive ArgsD:List TypeId->List D->Prop
 |nil:ArgsD [] []
 |cons {t:TypeId} {d:D} {ts:List TypeId} {ds:List D} (h:oB t d) (k:ArgsD ts ds):ArgsD (t::ts) (d::ds)
theorem oB.int_inv{d:D}(h:oB 3 d):∃n,qY n/\d=iD n:=by
 generalize a:3=q at h
 cases h with
 |int n h=>exact⟨n,h,rfl⟩
 |ints l h=>exact absurd a (by decide)
theorem oB.ints_inv{d:D}(h:oB 22 d):∃l,eB l/\d=bi l:=by
 generalize a:22=q at h
 cases h with
 |int n h=>exact absurd a (by decide)
 |ints l h=>exact⟨l,h,rfl⟩
theorem ArgsD.nil_inv{d:List D}(h:ArgsD [] d):d=[]:=by cases h;rfl
theorem ArgsD.int_inv{t:List TypeId}{s:List D}(h:ArgsD (3::t) s):∃n d,qY n/\s=iD n::d/\ArgsD t d:=by
 cases h with
 |cons h k=>obtain⟨n,a,rfl⟩:=h.int_inv;exact⟨n,_,a,rfl,k⟩
theorem ArgsD.ints_inv{t:List TypeId}{s:List D}(h:ArgsD (22::t) s):∃l d,eB l/\s=bi l::d/\ArgsD t d:=by
 cases h with
 |cons h k=>obtain⟨n,a,rfl⟩:=h.ints_inv;exact⟨n,_,a,rfl,k⟩
theorem CP{n:Int}(h:(Lit.int .i64 n).wf=true):qY n:=by
 simp only[Lit.wf,zJ,zQ]at h;exact⟨h.1,h.2⟩
section
variable {H:Type} {enc:TypeId×Value->H} {W:World}
theorem Ei{t:TypeId}{v:Value}{d:DataW H}{u:List MemPlace}{q:Nat}(R:t=3\/t=22)(M:Value.okWide prog W .any q t v)
  (h:DataW.Trod enc prog W 0 (λ_=>true) true t v d u) (Q:∀n∈d.weights prog t,n<=reachBytes) :
  (∃x,oB t x/\Rd W (λ_=>False) x v)/\∀r,Ex W r->∀sp:Nat->Bool,(∀p∈u,sp p.block=true)->DataW.Trod enc prog r 0 sp true t v d u:=by
 rcases R with rfl|rfl
 .obtain⟨n,rfl,rfl,rfl,c⟩:=open_int underlying3 M h;exact⟨⟨_,.int n (CP c),.v _⟩,λr _ sp _=>shut_int underlying3 c⟩
 .obtain⟨a,len,e,rfl⟩:=okWide_slice underlying22 M;obtain⟨O,U⟩:=h;rcases open_ints underlying22 underlying3 LH U with⟨o,X⟩|⟨f,L,P,z,o,V,D,T,A,hx,l,k⟩
  .simp only[Value.cells,List.cons.injEq,Value.slice.injEq,and_true]at o;obtain⟨rfl,rfl,rfl⟩:=o
   cases X
   refine⟨⟨_,.ints [] ⟨by simp,by simp⟩,?_⟩,λr _ sp _=>⟨1,?_⟩⟩
   .exact .sl 1 [] none 0 (λ_ _=>undef) (zT _) (by simp) (by simp) (by simp)
   .rw[DataW.trod_step];unfold DataW.trodStep;simp only[underlying22,Value.cells]
  .simp only[Value.cells,List.cons.injEq,Value.slice.injEq,and_true]at o;obtain⟨rfl,rfl,rfl⟩:=o;simp only[if_true]at A
   cases hx
   have N:len<=17592186044416:=by
    have:=Q ((len+(e-len))*8) (by
     unfold DataW.weights;rw[underlying22];simp only[zL,zR,List.length_drop,lits,YX,A,vH D];exact yN)
    unfold reachBytes at this;omega
   refine⟨⟨_,.ints (z.take len) ⟨λn c=>CP (k n (xG c)),by rw[zR];omega⟩,?_⟩,λr G sp C=>?_⟩
   .have J:∀(i:Nat)n,(z.take len)[i]?=some n->W.cell? (f.add i)=some (.int .i64 n):=λi n c=>by
     rw[yX]at c;split at c
     .have F:=(zE.1 c).1;rw[l i F];simp[List.getD_eq_getElem?_getD,c]
     .cases c
    have m:len=((z.take len).map λn=>[iD n]).length:=by rw[zL,zR];omega
    have:Rd W (λ_=>False) (.sl 1 ((z.take len).map λn=>[iD n])) (.slice (some f) ((z.take len).map λn=>[iD n]).length e):=by
     refine .sl 1 _ (some f) e (λi _=>.int .i64 ((z.take len).getD i 0)) (by rw[←m];exact D) (λy g=>by obtain⟨n,_,rfl⟩:=xM.1 g;rfl) (λi y g=>?_) (λi y g j d I=>?_)
     .rw[qA,xN]at g;obtain⟨n,c,rfl⟩:=g;have K:=J i n c;obtain⟨b,w,s⟩:=f;have S:s=none:=by
       have E:=(zE.1 c).1;rw[zR]at E;have:=World.cell?_spot (l 0 (by omega))
       simpa [Addr.add]using this
      subst S;refine⟨b,w,rfl,λh=>h,by have:=World.block_lt_of_cell? W _ K;simp only[Addr.add]at this;split at this<;>simpa using this,λj Z=>?_⟩;obtain rfl:j=0:=by omega
      rw[add_plain]at K;rw[Nat.mul_one,Nat.add_zero,K];simp[List.getD_eq_getElem?_getD,c]
     .rw[qA,xN]at g;obtain⟨n,c,rfl⟩:=g
      cases j with
      |succ j=>simp at I
      |zero=>
       simp at I;subst I;have:(z.take len).getD i 0=n:=by rw[List.getD_eq_getElem?_getD,c];rfl
       rw[this];exact .v _
    rw[←m]at this;exact this
   .have B:z.length=if sp f.block=true then e else len:=by
     rcases uA e with Y|Y
     .split<;>omega
     .rw[if_pos (show sp f.block=true from C (.cell f.block f.off) (MemPlace.mem_row.2 ⟨0,by omega,by simp⟩))];exact A
    exact⟨2,shut_ints 0 underlying22 underlying3 LH V D T B (λi F=>G.cell (l i F)) k⟩
theorem jN{f:Nat}:∀{s:List TypeId}{vs:List Value}{e:List (DataW H)}{a:List MemPlace},(∀t∈s,t=3\/t=22)->(∀(j:Nat)t v,s[j]?=some t->vs[j]?=some v->Value.okWide prog W .any f t v) ->
  DataW.TrodAll enc prog W 0 (λ_=>true) true s vs e a->(∀n∈DataW.weightsEach prog s e,n<=reachBytes) ->
  (∃i,ArgsD s i/\bb W (λ_=>False) i vs)/\(∀g,Ex W g->∀sp:Nat->Bool,(∀p∈a,sp p.block=true)->DataW.TrodAll enc prog g 0 sp true s vs e a)
 |[],vs,e,a,_,_,h,_=>by
  obtain⟨rfl,rfl,rfl⟩:=trodAll_nil h;exact⟨⟨[],.nil,.nil⟩,λ_ _ _ _=>trodAll_mk0⟩
 |t::s,vs,e,a,r,q,h,w=>by
  obtain⟨z,y,d0,d,M,L,rfl,rfl,rfl,G,A⟩:=trodAll_cons h;have k:DataW.weightsEach prog (t::s) (d0::d)=d0.weights prog t++DataW.weightsEach prog s d:=rfl;rw[k]at w;obtain⟨⟨x,D,C⟩,B⟩:=Ei (r t (by simp)) (q 0 t z rfl rfl) G (λn o=>w n (xK _ o));obtain⟨⟨i,K,J⟩,I⟩:=jN (λu E=>r u (by simp[E])) (λj u v F l=>q (j+1) u v (by simpa using F) (by simpa using l)) A (λn o=>w n (yW _ o));exact⟨⟨x::i,.cons D K,.cons C J⟩,λg c sp b=>trodAll_cons_mk (B g c sp (λp m=>b p (xK _ m))) (I g c sp (λp m=>b p (yW _ m)))⟩
theorem Ih{a:World}(h:Ex W a)(may:MemPlace->Prop):W.keptBut a may:=by
 refine World.keptBut_mono (may:=λ_=>False) (λ_ f=>f.elim) (World.keptBut.congr (World.keptBut_refl W _) ?_ ?_ (λi b=>h.block i b))
 .exact aW.os h
 .exact aW.output h
theorem bg0{f:FuncId}{c:Func}{s:ChangeSpec}(K:∀t∈c.params.toList,t=3\/t=22)(a:s.vars=[])(k:c.resultTypes= #[4])
  (hs:∀d:List (DataW H),d.length=c.params.size->s.fn H d={ results:=[.lit (.bool true)],args:=d }) (hP:∀G,ArgsD c.params.toList G->APure prog f G (bD true))
  (F:Nat) (args:Array Value) (d R:List (DataW H)) (g:List MemPlace)
  (y:∀(j:Nat)t v,c.params[j]?=some t->args[j]?=some v->Value.okWide prog W .any F t v)
  (P:DataW.Whole enc prog c.params.toList s.vars false W args.toList d R g)
  (z:(DataW.weightsEach prog (c.params.toList++s.plain.varTypes prog) (d++R)).all (·<=reachBytes)=true) (hL:laidMetH prog laidL W) :
  Calls prog f args W λe r=>∃v,e= .returned v/\s.post enc prog c false true false false W args v r:=by
 have o:=P;obtain⟨p,q,Q,V,rfl,M,hnd⟩:=P;rw[a]at V;obtain⟨rfl,rfl⟩:=trodVars_none V;have N:d.length=c.params.size:=by have:=(trodAll_length Q).2;simpa using this
 have X:∀n∈DataW.weightsEach prog c.params.toList d,n<=reachBytes:=λn hn=>by
  have I:s.plain.varTypes prog=[]:=by simp[DataSpec.varTypes,ChangeSpec.plain,a]
  rw[I,zZ,zZ]at z;exact wY (yA.1 z n hn)
 obtain⟨⟨G,U,T⟩,S⟩:=jN K (λj t v hj Y=>y j t v (by simpa using hj) (by simpa using Y)) Q X;have i:=(hP G U).run W (λ_=>False) args.toList T (CA hL);rw[Array.toArray_toList]at i;refine i.mono λe r⟨u,he,Z,m⟩=>?_;have J:=Z.val rfl;subst J;refine⟨_,he,?_⟩;have l:=hs d N;have C:∀x∈p,(λb=>decide (b<W.heap.size)) x.block=true:=λx hx=>by have:=o.lt x (by simpa using hx);simpa using this
 have A:∀(b:Nat)(sp:Nat->Bool)(O:Bool),DataW.TrodAll enc prog r b sp O c.resultTypes.toList ((Value.bool true).resultList c.resultTypes.size) (s.fn H (d++[])).results []:=λb sp O=>by
  rw[zZ,l,k];exact trodAll_cons_mk (shut_bool underlying4 _) trodAll_mk0
 have E:∀sp:Nat->Bool,(∀x∈p,sp x.block=true)->DataW.TrodAll enc prog r 0 sp true c.params.toList args.toList (s.fn H (d++[])).args p:=λsp L=>by
  rw[zZ,l];exact S r m _ L
 have D:∀sp:Nat->Bool,DataW.TrodVars enc prog r sp s.vars (s.fn H (d++[])).vars []:=λsp=>by
  rw[a,zZ,l];rfl
 refine⟨d,[],p++[],[],p,[],o,A _ _ _,E _ C,D _,Ih m _,λ_=>?_⟩
 .refine⟨ok_one k rfl (okWide_bool_mk underlying4 _),_,_,([]++p)++[],⟨[]++p,[],trodAll_append (E _ (λ_ _=>rfl)) (A _ _ _),D _,rfl,?_,λh=>by cases h⟩,λx hx _=>by simpa using hx⟩;intro b w hp;have B:MemPlace.cell b w∈p++[]:=by simpa using hp
  rw[m.frozen (o.lt _ B)];exact M b w B
end
theorem door_met(o:Os)(args:Array Value):laidMetH prog laidL ((World.doorLaid prog 76 o).forCall (λ_ _=>0) ⟨#[],args,[]⟩).memory:=
 laidMetH_of_parts3 (fuel:=8) (laidMet_of_run' 8 (by kernel_rfl) (by kernel_rfl)) (by kernel_rfl) (by kernel_rfl)
theorem own:ownKnob prog.godebug=none:=by kernel_rfl
end
end Go.Proofs.YtilnpcolgcmofaaGreatDoor
