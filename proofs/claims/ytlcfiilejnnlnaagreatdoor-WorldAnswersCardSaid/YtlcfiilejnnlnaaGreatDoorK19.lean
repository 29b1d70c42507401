/- A part of the proof: Rv Rz Rx Ud Xi Gc Ch Sc Gx Gp Gq Gr. -/
import Derived.Test.YtlcfiilejnnlnaaGreatDoorK15
import Derived.Test.YtlcfiilejnnlnaaGreatDoorK18
import Derived.Laws.StructEq
import Derived.ChangeKeysEq
set_option maxRecDepth 100000
set_option maxHeartbeats 20000000
set_option linter.all false
namespace Go.Proofs.YtlcfiilejnnlnaaGreatDoor
open Tryz
section
open Go
structure Alk (w u:Wd):Prop where
 len:u.length=w.length
 same:∀ k,k+1<w.length->u.getD k []=w.getD k []
 perm:∀ k,(u.getD k []).Perm (w.getD k [])
theorem Alk.lenr {w u:Wd} (h:Alk w u) (k:Nat):(u.getD k []).length=(w.getD k []).length:=(h.perm k).length_eq
theorem Alk.up {w u:Wd} (h:Alk w u) {k q:Nat} (hq:q<k) (hk:k<w.length):u.getD q []=w.getD q []:=h.same q (by omega)
theorem bt6 {α:Type} {l m:List α} (h:l.Perm m) (p:α->Bool):l.all p=m.all p:=by
 rw [Bool.eq_iff_iff,yA,yA];exact⟨fun g a ha=>g a (h.mem_iff.2 ha),fun g a ha=>g a (h.mem_iff.1 ha)⟩
theorem Alk.refOk {w u:Wd} (h:Alk w u) (r:Rf) (l:List Int):refOk u r l=refOk w r l:=by
 unfold Go.Proofs.YtlcfiilejnnlnaaGreatDoor.refOk;rw [h.lenr]
theorem Alk.fit {x:Sch} {w u:Wd} (h:Alk w u):fitW x u=fitW x w:=by
 unfold fitW;have h1:∀ k,ap5 x k (u.getD k [])=ap5 x k (w.getD k []):=fun k=>by unfold ap5;rw [h.lenr,bt6 (h.perm k)]
 have h2:∀ r:Rf,(u.getD r.kind []).all (Go.Proofs.YtlcfiilejnnlnaaGreatDoor.refOk u r)=(w.getD r.kind []).all (Go.Proofs.YtlcfiilejnnlnaaGreatDoor.refOk w r):=fun r=>by
  rw [bt6 (h.perm _)];exact zM _ (funext fun l=>h.refOk r l)
 rw [h.len];simp only [h1,h2]
theorem cd5 {x:Sch} {k:Nat} {s:ByteArray} (h:0<=ak2 x k s):ak2 x k s<k:=by
 unfold ak2 at h ⊢;split at h
 ·split at h
  ·rename_i h1;rw [if_pos h1];exact aA3 x k _ h
  ·omega
 ·omega
theorem Alk.endV {x:Sch} {w u:Wd} (h:Alk w u):∀ (p:List ByteArray) (k:Nat) (r:List Int),k<w.length->af4 x k p=true->endV x u k r p=endV x w k r p
 | [],_,_,_,_=>rfl
 | [s],_,_,_,_=>rfl
 | s::t::l,k,r,hk,hl=>by
  rw [af4,zJ,zQ] at hl;have h1:=cd5 hl.1;have h2:aC8 u (ak2 x k s).toNat (vatR r (aa4 (kdOf x k) s)).toNat=aC8 w (ak2 x k s).toNat (vatR r (aa4 (kdOf x k) s)).toNat:=by
   unfold aC8;rw [h.up (k:=k) (by omega) hk]
  show Go.Proofs.YtlcfiilejnnlnaaGreatDoor.endV x u _ (aC8 u _ _) _=Go.Proofs.YtlcfiilejnnlnaaGreatDoor.endV x w _ (aC8 w _ _) _;rw [h2];exact h.endV (t::l) _ _ (by omega) hl.2
theorem Alk.holdV {x:Sch} {w u:Wd} (h:Alk w u) {k:Nat} (hk:k<w.length) (r:List Int) (c:Cnd) (hl:leadsB x k c=true):holdV x u k r c=holdV x w k r c:=by
 induction c with
 | c0 o p q n=>
  simp only [leadsB,zJ] at hl;simp only [Go.Proofs.YtlcfiilejnnlnaaGreatDoor.holdV,h.endV p k r hk hl.1,h.endV q k r hk hl.2]
 | c1 o p q n a ih=>
  simp only [leadsB,zJ] at hl;simp only [Go.Proofs.YtlcfiilejnnlnaaGreatDoor.holdV,h.endV p k r hk hl.1.1,h.endV q k r hk hl.1.2,ih hl.2]
 | c2 o p q n a b h1 h2=>
  simp only [leadsB,zJ] at hl;simp only [Go.Proofs.YtlcfiilejnnlnaaGreatDoor.holdV,h.endV p k r hk hl.1.1,h.endV q k r hk hl.1.2,h1 hl.2.1,h2 hl.2.2]
theorem Alk.vals {x:Sch} {w u:Wd} (h:Alk w u) {k:Nat} (hk:k<w.length) (q:Qry) (hp:af4 x k q.path=true) (hc:leadsB x k q.cond=true):(ay7 x u k q).Perm (ay7 x w k q):=by
 unfold ay7;have e1:(fun r=>Go.Proofs.YtlcfiilejnnlnaaGreatDoor.holdV x u k r q.cond)=fun r=>Go.Proofs.YtlcfiilejnnlnaaGreatDoor.holdV x w k r q.cond:=funext fun r=>h.holdV hk r q.cond hc;have e2:(fun r=>if q.op=0 then 1 else Go.Proofs.YtlcfiilejnnlnaaGreatDoor.endV x u k r q.path)=fun r=>if q.op=0 then 1 else Go.Proofs.YtlcfiilejnnlnaaGreatDoor.endV x w k r q.path:=funext fun r=>by rw [h.endV q.path k r hk hp]
 rw [e1,e2];exact ((h.perm k).filter _).map _
theorem bG9 {β:Type} {f:Int->β->Int} (hf:∀ a x y,f (f a x) y=f (f a y) x) {l m:List β} (h:l.Perm m):∀ a,l.foldl f a=m.foldl f a:=by
 induction h with
 | nil=>intro a;rfl
 | cons x _ ih=>intro a;exact ih _
 | swap x y l=>intro a;simp only [List.foldl_cons];rw [hf]
 | trans _ _ h1 h2=>intro a;rw [h1,h2]
end
section
open Go
def hit (c e:Int):Nat:=if e≠0/\e=c then 1 else 0
theorem bi7 {l m:List (List Int)} (h:l.Perm m) (u s i:Nat):bo0 l u s i=bo0 m u s i:=by
 unfold bo0;refine bG9 (fun a x y=>?_) h 0;by_cases h1:x.getD u 0=(i:Int)<;>by_cases h2:y.getD u 0=(i:Int)
 ·simp only [if_pos h1,if_pos h2,IntKind.wrap_i64];omega
 ·simp only [if_pos h1,if_neg h2]
 ·simp only [if_neg h1,if_pos h2]
 ·simp only [if_neg h1,if_neg h2]
theorem Alk.sumAt {w u:Wd} (h:Alk w u) (x:Sch) (k i f:Nat):sumAt x u k i f=sumAt x w k i f:=by
 unfold Go.Proofs.YtlcfiilejnnlnaaGreatDoor.sumAt;exact bi7 (h.perm _) _ _ _
theorem Alk.copyAt {w u:Wd} (h:Alk w u) (x:Sch) {k:Nat} (hk:k<w.length) (kd:Knd) (d:Fld) (r:List Int):copyAt x u k kd d r=copyAt x w k kd d r:=by
 unfold Go.Proofs.YtlcfiilejnnlnaaGreatDoor.copyAt;split
 ·rename_i ko hko;have h0:0<=upIx x k (aa4 kd d.up):=by
   unfold af6 at hko;split at hko
   ·assumption
   ·cases hko
  have:=aA3 x k _ h0;rw [h.up (k:=k) (by omega) hk]
 ·rfl
theorem Alk.codeF {w u:Wd} (h:Alk w u) (x:Sch) {k:Nat} (hk:k<w.length) (kd:Knd) (r:List Int) (i f:Nat) (d:Fld) (ks:List Int):codeF x u k kd r i f d ks=codeF x w k kd r i f d ks:=by
 unfold Go.Proofs.YtlcfiilejnnlnaaGreatDoor.codeF;rw [h.sumAt,h.copyAt x hk]
theorem Alk.recP {w u:Wd} (h:Alk w u) (x:Sch) {k:Nat} (hk:k<w.length) (kd:Knd) (l:List (List Int)):recP x u k kd l=recP x w k kd l:=by
 funext i
 unfold Go.Proofs.YtlcfiilejnnlnaaGreatDoor.recP;split
 ·rename_i r hr;have:fldP x u k kd l i r=fldP x w k kd l i r:=by
   funext f
   unfold fldP;split
   ·rw [h.codeF x hk]
   ·rfl
  rw [this]
 ·rfl
def kc (lo:Int) (ks:List Int) (n:Int):Int:=if n<lo then 5 else if n∈ks then 7 else 0
theorem bB7 {x:Sch} (h:aj9 x=[]) {k:Nat} {kd:Knd} (hk:x.kz[k]?=some kd):∃ d,kd.fields[0]?=some d/\d.kind=0:=by
 unfold aj9 at h;split at h
 ·simp only [vN] at h;have h1:=aW2 h.1.2 k (zE.1 hk).1;simp only [ae7,hk,vN] at h1;have h3:=bE1 h1.1;unfold ag0 at h3;split at h3
  ·omega
  ·split at h3
   ·rename_i h4;unfold aU7 at h4;split at h4
    ·cases h4
    ·rename_i f l e;exact⟨f,by rw [e];rfl,by simpa using h4⟩
   ·omega
 ·cases h
end
section
open Go Go.Maps Go.MapKept
end
section
open Go
theorem sk163 {A B:Prop} (k:B) (h:Hd7 B->A:=by intro q7;(first|refine sb0 ?_|refine sb67 ?_|(refine' cp7x ?hc ?_;(case hc=>exact HI)));exact q7.1):A:=h ⟨k⟩
theorem br2:∀ (m:Nat) (c:Cnd),c.size<=m->m<=1000000->APure prog 54 [cndD c] (cndD c)
 | 0,c,h,_=>by rw [ai1] at h;omega
 | m+1,c,h,hm=>by
  have hk:=c.kids_len;have hs:=ai1 c;have hkl:=am9 c;unfold cndD cndC;rw [hkl];refine eP7 func54 ntmps54 fun BB=>?_
  repeat' first|refine sk163 ?_|intro b;conv=>whnf
  rename_i b2;refine aa5 mixed aa0 (γ:=Nat × Value × aa1) (fun g=>[(4,iD g.1)]) (fun g=>(b,Blk.cells 51 [iD c.op,.v g.2.1,slS c.path,slS c.other,iD c.n])::(b2,Blk.cells 51 [.v (zv (ZV.int IntKind.i64)),.v (zv ZV.sl),.v (zv ZV.sl),.v (zv ZV.sl),.v (zv (ZV.int IntKind.i64))])::g.2.2) (fun g=>g.1<=c.kids.length/\RowIs 51 5 ((c.kids.take g.1).map cndC) g.2.1 g.2.2) (fun g=>c.kids.length-g.1) (0,.slice none 0 0,[]) (aa2 cl2) (Sc.refl _) ⟨zW _,RowIs.nil _ _⟩ ?_;rintro⟨i,v,s⟩ ⟨hi,hrow⟩;simp only at hi hrow ⊢;by_cases hil:i<c.kids.length
  ·obtain⟨y,hy0⟩:∃ y,c.kids[i]?=some y:=⟨_,zD hil⟩
   have hy:c.kids[((i:Nat):Int).toNat]?=some y:=hy0;have hyl:=Cnd.kid_size (zG hy0);have HI:=br2 m y (by omega) (by omega)
   repeat' first|refine sk163 ?_|intro b;conv=>whnf
   refine dr7 ?_;refine ak3 mixed aa0 rfl [0,2,3,4,5,6,7,8] 4 (inE [1,9,11]) (.one 1 (.one 9 (.fst 10 (.one 11 .done)))) (γ:=Value × aa1) (fun _=>[]) (fun g=>(b,Blk.cells 51 [iD c.op,.v g.1,slS c.path,slS c.other,iD c.n])::(b2,Blk.cells 51 [.v (zv (ZV.int IntKind.i64)),.v (zv ZV.sl),.v (zv ZV.sl),.v (zv ZV.sl),.v (zv (ZV.int IntKind.i64))])::g.2) (fun g=>RowIs 51 5 ((c.kids.take (i+1)).map cndC) g.1 g.2) (by decide +kernel) ?_ ?_
   ·repeat' first|refine sk163 ?_|intro b;conv=>whnf|(refine And.intro ?_ ?_<;>(conv=>whnf))|(refine Ap.go rfl rfl rfl rfl hrow (τ:=[(b,Blk.cells 51 [iD c.op,.v v,slS c.path,slS c.other,iD c.n]),(b2,Blk.cells 51 [.v (zv (ZV.int IntKind.i64)),.v (zv ZV.sl),.v (zv ZV.sl),.v (zv ZV.sl),.v (zv (ZV.int IntKind.i64))])]) cl5 rfl (zs:=(c.kids.take (i+1)).map cndC) (by rw [af7 hy0,yB];rfl) (by simp;omega) (by simp;omega) (fun s'=>(b,Blk.cells 51 [iD c.op,.v v,slS c.path,slS c.other,iD c.n])::(b2,Blk.cells 51 [.v (zv (ZV.int IntKind.i64)),.v (zv ZV.sl),.v (zv ZV.sl),.v (zv ZV.sl),.v (zv (ZV.int IntKind.i64))])::s') (fun s'=>by refine ac3 fun a=>?_;simp only [List.append_eq,List.nil_append,ac4,af0,ae9];omega) (fun a2 c2 s2 hr2=>?_))
    exact⟨(_,s2),(aa2 cl2),Sc.refl _,hr2⟩
   ·rintro⟨v2,s2⟩ hr2;simp only at hr2 ⊢
    repeat' first|refine sk163 ?_|intro b;conv=>whnf
    exact⟨(i+1,v2,s2),(aa2 cl4),Sc.refl _,⟨by simp only;omega,hr2⟩,by simp only;omega⟩
  ·obtain rfl:i=c.kids.length:=by omega
   rw [yM] at hrow;obtain⟨va,vc,hve⟩:=hrow.slice
   repeat' first|refine sk163 ?_|intro b;conv=>whnf
   refine Sv.at 1 (tb:=51) (σ':=(b,Blk.cells 51 [iD c.op,.v v,slS c.path,slS c.other,iD c.n])::(b2,Blk.cells 51 [iD c.op,.v v,slS c.path,slS c.other,iD c.n])::s) rfl rfl rfl (by rw [hve];rfl) rfl ?_
   repeat' first|refine sk163 ?_|intro b;conv=>whnf
   refine Rs.c aa0 (m:=1) rfl rfl rfl rfl rfl rfl ?_
   repeat' first|refine sk163 ?_|intro b;conv=>whnf
   have hs:∀ z,z∈aa6 ([]:aa1)->z∈aa6 ((b,Blk.cells 51 [iD c.op,.v v,slS c.path,slS c.other,iD c.n])::(b2,Blk.cells 51 [iD c.op,.v v,slS c.path,slS c.other,iD c.n])::s):=fun z h=>by cases h
   exact Rt.vs (Vs.vd (τ:=[]) ⟨(b,Blk.cells 51 [iD c.op,.v v,slS c.path,slS c.other,iD c.n])::(b2,Blk.cells 51 [iD c.op,.v v,slS c.path,slS c.other,iD c.n])::s,by rw [zZ]⟩ (Vd.agg (.cons (Vd.same hs _) (.cons (Vd.row (ρ:=[(b,Blk.cells 51 [iD c.op,.v v,slS c.path,slS c.other,iD c.n]),(b2,Blk.cells 51 [iD c.op,.v v,slS c.path,slS c.other,iD c.n])]) hrow cl5 (fun z h=>by cases h)) (.cons (Vd.same hs _) (.cons (Vd.same hs _) (.cons (Vd.same hs _) .nil)))))))
theorem sk164 {A B:Prop} (k:B) (h:Hd7 B->A:=by intro q7;(first|refine sb0 ?_|refine sb98 ?_|(refine' cp7x ?hc ?_;(case hc=>exact HI)));exact q7.1):A:=h ⟨k⟩
theorem be9 (q:Qry) (hs:q.cond.size<=1000000):APure prog 21 [qryD q] (qryD q):=by
 have HI:=br2 _ q.cond (zT _) hs;have hcd:cndC q.cond=[iD q.cond.op,.sl 5 (aD1 q.cond),slS q.cond.path,slS q.cond.other,iD q.cond.n]:=rfl;refine eP7 func21 ntmps21 fun BB=>?_
 repeat' first|refine sk164 ?_|intro b;conv=>whnf
 exact Rt.pure rfl
end
section
open Go Go.Maps Go.MapKept
theorem cc6:∃ f0 f1 f2 f3:Field,prog.underlying 114=some (.struct #[f0,f1,f2,f3])/\f0.name ≠ "_" /\ f1.name ≠ "_" /\ f2.name ≠ "_" /\ f3.name ≠ "_" /\ f0.type=3/\f1.type=3/\f2.type=3/\f3.type=43/\f0.offset=0/\f1.offset=1/\f2.offset=2/\f3.offset=3:=
 ⟨_,_,_,_,underlying114,by decide,by decide,by decide,by decide,rfl,rfl,rfl,rfl,rfl,rfl,rfl,rfl⟩
theorem bG5:prog.plainKey 3=true:=by kernel_rfl
theorem ct8:prog.plainKey 43=true:=by kernel_rfl
theorem cc5:prog.stoodInHeld 114=false:=by kernel_rfl
theorem bN1:prog.eqGuardType prog.depth 114=false:=by kernel_rfl
def prV (p:Prb):Value:=.agg #[.int .i64 p.1,.int .i64 p.2.1,.int .i64 p.2.2.1,.int .i64 p.2.2.2]
def prE (p q:Prb):Bool:=(p.1==q.1)&&((p.2.1==q.2.1)&&((p.2.2.1==q.2.2.1)&&(p.2.2.2==q.2.2.2)))
theorem bC1 (w:World) (p q:Prb):(Op.equalIn 10000 114 (prV p) (prV q)).run prog w = .ok (prE p q) w:=by
 obtain⟨f0,f1,f2,f3,hu,n0,n1,n2,n3,t0,t1,t2,t3,o0,o1,o2,o3⟩:=cc6;obtain⟨a,b,c,d⟩:=p;obtain⟨a',b',c',d'⟩:=q;unfold prV prE;have hf:prog.fieldsOf 114 = #[f0,f1,f2,f3]:=by simp [Program.fieldsOf,hu]
 have p0:∀ x y z u:Int,(Go.part 3 #[.int .i64 x,.int .i64 y,.int .i64 z,.int .i64 u] 0).run prog w = .ok (.int .i64 x) w:=fun x y z u=>run_part_plain w bG5 rfl;have p1:∀ x y z u:Int,(Go.part 3 #[.int .i64 x,.int .i64 y,.int .i64 z,.int .i64 u] 1).run prog w = .ok (.int .i64 y) w:=fun x y z u=>run_part_plain w bG5 rfl;have p2:∀ x y z u:Int,(Go.part 3 #[.int .i64 x,.int .i64 y,.int .i64 z,.int .i64 u] 2).run prog w = .ok (.int .i64 z) w:=fun x y z u=>run_part_plain w bG5 rfl;have p3:∀ x y z u:Int,(Go.part 43 #[.int .i64 x,.int .i64 y,.int .i64 z,.int .i64 u] 3).run prog w = .ok (.int .i64 u) w:=fun x y z u=>run_part_plain w ct8 rfl;have q:∀ x y:Int,(Op.equalIn 9999 3 (.int .i64 x) (.int .i64 y)).run prog w = .ok (x==y) w:=fun x y=>run_equalIn_int w 9998 _ _ _ _ _ underlying3;have q3:∀ x y:Int,(Op.equalIn 9999 43 (.int .i64 x) (.int .i64 y)).run prog w = .ok (x==y) w:=fun x y=>run_equalIn_int w 9998 _ _ _ _ _ underlying43;rw [show (10000:Nat)=9999+1 from rfl,run_equalIn_agg w 9999 _ _ _ (by rw [hf];exact hu) cc5,hf];simp only [Op.eqFields,if_pos n0,if_pos n1,if_pos n2,if_pos n3,t0,t1,t2,t3,o0,o1,o2,o3,Sem.run_bind,Result.andThen,p0,p1,p2,p3,q,q3,Sem.run_ite,Sem.run_pure]
 cases (a==a')<;>cases (b==b')<;>cases (c==c')<;>cases (d==d')<;>rfl
theorem bV0 {w:World} {O:Nat->Prop} {u:Value} {p:Prb} (h:Rd w O (.agg (prbC p)) u):u=prV p:=by
 obtain⟨vs,rfl,hv⟩:=h.agg_inv;have hl:=hv.len
 match vs,hl,hv with
 | [x,y,z,u],_,hv=>
  rw [(hv.at_ 0 _ _ rfl rfl).val rfl,(hv.at_ 1 _ _ rfl rfl).val rfl,(hv.at_ 2 _ _ rfl rfl).val rfl,(hv.at_ 3 _ _ rfl rfl).val rfl]
  rfl
theorem bY8 {ρ:Operand->D} {σ:aa1} {o:Oper} {t':TypeId} {x y:Operand} {p q:Prb} (ho:o.op = .binOp .neq 114 x y t') (hx:ρ x = .agg (prbC p)) (hy:ρ y = .agg (prbC q)):Yd prog o ρ σ (.v (.bool (!prE p q))):=by
 intro w X η hη hst;obtain⟨dst,op,ty,pos,aft,g⟩:=o;simp only at ho;subst ho;have h1:=hη x (by simp [Op.operands]);have h2:=hη y (by simp [Op.operands]);rw [hx] at h1;rw [hy] at h2;refine ag4 (s:=do eqGuard .neq 114 x y (η x) (η y);binOp .neq 114 (η x) (η y)) (u:=.bool (!prE p q)) ?_ (Ex.refl w) (.v _);rw [bV0 h1,bV0 h2];unfold prV at *;have e:=bC1 w p q;unfold prV at e;simp only [Sem.run_bind,run_eqGuard_agg w .neq _ _ _ _ _ bN1,Result.andThen,run_neq_struct,e]
def sB (l:List UInt8):ByteArray:=⟨l.toArray⟩
def zF:Fld:={ name:=sB [],of:=sB [],up:=sB [],kind:=0,lo:=0,hi:=0,words:=[],wz:=[] }
def aD6:Sch:={ vz:=0,kz:=[{ name:=sB [97],lo:=1,hi:=3,fields:=[{ zF with name:=sB [105,100],lo:=5 }] },{ name:=sB [98],lo:=0,hi:=9,fields:=[{ zF with name:=sB [105,100] },{ zF with name:=sB [116,111],kind:=1,of:=sB [97],hi:=2 },{ zF with name:=sB [110],kind:=2,hi:=9 }] }],lz:=[],rules:=[] }
theorem bi9:aj9 aD6=[]:=by decide +kernel
theorem bz3:APure prog 94 [] (schD aD6):=by
 refine eP7 func94 ntmps94 fun BB=>?_
 repeat' first|refine sk2 ?_|intro b;conv=>whnf
 refine Rt.le ?_
 (repeat' (first|exact Le.refl _|exact ai5 _|exact LeL.nil|refine LeL.cons ?_ ?_|refine bW8 ?_|refine br1 ?_|refine bO7 ?_|exact LeR.nil|refine LeR.cons ?_ ?_))
theorem bz4 (l:List Prb) (hl:l.length<=1000000):APure prog 93 [.sl 4 (l.map prbC)] (.sl 4 (l.map prbC)):=by
 refine eP7 func93 ntmps93 fun BB=>?_
 repeat' first|refine sk2 ?_|intro b;conv=>whnf
 refine ac2 mixed aa0 (γ:=Nat × Value × aa1) (fun g=>[(3,.v g.2.1),(4,iD g.1)]) (fun g=>g.2.2) (fun g=>g.1<=l.length/\RowIs 114 4 ((l.take g.1).map prbC) g.2.1 g.2.2) (fun g=>l.length-g.1) (0,.slice none 0 0,[]) (aa2 cl2) cl3 ⟨zW _,RowIs.nil _ _⟩ ?_;rintro⟨j,v,s⟩ ⟨hj,hrow⟩;simp only at hj hrow ⊢;by_cases hjl:j<l.length
 ·obtain⟨p,hp⟩:∃ p,l[((j:Nat):Int).toNat]?=some p:=⟨_,zD hjl⟩
  have hp':l[j]?=some p:=hp
  repeat' first|refine sk2 ?_|intro b;conv=>whnf
  refine Ap.go rfl rfl rfl rfl hrow (by simp:s.Perm (s++[])) rfl (zs:=(l.take (j+1)).map prbC) (by rw [af7 hp',yB];rfl) (by simp;omega) (by simp;omega) (fun s'=>s') (fun s'=>by simp) (fun a c s' hr=>?_)
  repeat' first|refine sk2 ?_|intro b;conv=>whnf
  exact⟨(j+1,_,s'),(aa2 cl2),cl3,⟨by simp only;omega,hr⟩,by simp only;omega⟩
 ·obtain rfl:j=l.length:=by omega
  repeat' first|refine sk2 ?_|intro b;conv=>whnf
  rw [yM] at hrow;exact Rt.vs (Vs.row hrow (τ:=[]) (by simp))
theorem bN2 (p:Prb):prE p p=true:=by simp [prE]
theorem sq5 {A B:Prop} (k:B) (h:Hd7 B->A:=by intro q7;(first|refine sk2 ?_|(with_reducible refine Br.t (wP _) ?_)|(with_reducible refine Br.f Bool.not_true ?_)|(with_reducible refine Br.t (yJ trivial) ?_)|(with_reducible refine Br.t (yJ rfl) ?_));exact q7.1):A:=h ⟨k⟩
theorem bo9 (l:List Prb) (hl:l.length<=1000000):APure prog 92 [.sl 4 (l.map prbC),.sl 4 (l.map prbC)] (bD true):=by
 refine eP7 func92 ntmps92 fun BB=>?_
 repeat' first|refine sq5 ?_|intro b;conv=>whnf|(with_reducible refine Br.f (yE (fun h=>h rfl)) ?_)
 refine ac2 mixed aa0 (γ:=Nat) (fun g=>[(5,iD g)]) (fun _=>[]) (fun g=>g<=l.length) (fun g=>l.length-g) 0 (aa2 cl2) cl3 (zW _) ?_;intro j hj;by_cases hjl:j<l.length
 ·obtain⟨p,hp⟩:∃ p,l[((j:Nat):Int).toNat]?=some p:=⟨_,zD hjl⟩
  repeat' first|refine sk2 ?_|intro b;conv=>whnf
  refine Ot.yd (bY8 (p:=p) (q:=p) rfl rfl rfl) ?_;rw [bN2]
  repeat' first|refine sk2 ?_|intro b;conv=>whnf
  exact⟨j+1,(aa2 cl2),cl3,by omega,by omega⟩
 ·obtain rfl:j=l.length:=by omega
  repeat' first|refine sk2 ?_|intro b;conv=>whnf
  refine Rt.pure (zM bD ?_);rfl
theorem cj3 {f:Fld} (h1:f.name.size<=12) (h2:f.of.size<=12) (h3:f.up.size=0) (h4:f.words=[]) (h5:f.wz=[]) (h6:0<=f.kind/\f.kind<=8) (h7:-1000<=f.lo/\f.lo<=1000) (h8:-1000<=f.hi/\f.hi<=1000):CF f:=
 ⟨h1,h2,by omega,by rw [h4];decide,by rw [h4];simp,by rw [h5];decide,by rw [h5];simp,h6,h7,h8⟩
theorem small_cls:Cls aD6:=by
 refine { ver:=by decide,nk:=by decide,ks:=fun k hk=>?_,nl:=by decide,ls:=fun l hl=>(by cases hl),nr:=by decide,rs:=fun r hr=>(by cases hr) };simp only [aD6,zU,yF,xE] at hk;rcases hk with rfl|rfl
 ·refine⟨by decide,by decide,by decide,by decide,fun f hf=>?_⟩;simp only [zU,yF,xE] at hf;subst hf;exact cj3 (by decide) (by decide) rfl rfl rfl (by decide) (by decide) (by decide)
 ·refine⟨by decide,by decide,by decide,by decide,fun f hf=>?_⟩;simp only [zU,yF,xE] at hf;rcases hf with rfl|rfl|rfl<;>exact cj3 (by decide) (by decide) rfl rfl rfl (by decide) (by decide) (by decide)
theorem bu4:Easy aD6:=by
 refine⟨rfl,fun k hk f hf=>?_⟩;simp only [aD6,zU,yF,xE] at hk;rcases hk with rfl|rfl
 ·simp only [zU,yF,xE] at hf;subst hf;exact .inl rfl
 ·simp only [zU,yF,xE] at hf;rcases hf with rfl|rfl|rfl
  ·exact .inl rfl
  ·exact .inr (.inl rfl)
  ·exact .inr (.inr rfl)
theorem aK9 {w:Wd} (h:(decide (w.length<=1000)&&w.all fun l=>decide (l.length<=1000)&&l.all fun r=>decide (r.length<=1000))=true):Ws w:=by
 simp only [zJ,zQ,yA] at h;exact⟨h.1,fun l hl=>(h.2 l hl).1,fun l hl r hr=>(h.2 l hl).2 r hr⟩
theorem sk165 {A B:Prop} (k:B) (h:Hd7 B->A:=by intro q7;(first|refine sb0 ?_|refine sb1 ?_|(refine' cp7x ?hc ?_;(case hc=>first|exact bz3|exact HC|exact bz4 _ (by assumption)|exact bo9 _ (by assumption))));exact q7.1):A:=h ⟨k⟩
theorem aW0 (w:Wd) (l:List Prb) (hw:Ws w) (hl:l.length<=1000000) (h:bh0 aD6 w=l):APure prog 53 [slW w,.sl 4 (l.map prbC)] (bD true):=by
 have HC:=bR4 aD6 w hw bi9 bu4 (aN8 aD6 small_cls.good);rw [h] at HC;refine eP7 func53 ntmps53 fun BB=>?_
 repeat' first|refine sk165 ?_|intro b;conv=>whnf
 refine Rt.pure (zM bD ?_);rfl
theorem sk166 {A B:Prop} (k:B) (h:Hd7 B->A:=by intro q7;(first|refine sb0 ?_|refine sb1 ?_|(refine' cp7x ?hc ?_;(case hc=>first|exact F1|exact F2|exact F3|exact F4)));exact q7.1):A:=h ⟨k⟩
theorem bZ3:APure prog 20 [] (bD true):=by
 have F1:=aW0 [[[5],[6]],[[0,1,4]]] [] (aK9 rfl) (by decide) (by decide +kernel);have F2:=aW0 [[[5],[5]],[[0,1,4]]] [(0,1,0,7)] (aK9 rfl) (by decide) (by decide +kernel);have F3:=aW0 [[[5]],[[0,1,4]]] [(-1,-1,-1,2)] (aK9 rfl) (by decide) (by decide +kernel);have F4:=aW0 [[[4]],[[0,0,10],[1,0,0],[2,0,0]]] [(0,0,0,5),(1,0,2,5),(1,0,1,11)] (aK9 rfl) (by decide) (by decide +kernel);refine eP7 func20 ntmps20 fun BB=>?_
 repeat' first|refine sk166 ?_|intro b;conv=>whnf
 refine CE.pk (APk.peek (.cons (Pk.same _) (.cons (Pk.le (ai5 _)) .nil)) F1 rfl) ?_
 repeat' first|refine sk166 ?_|intro b;conv=>whnf
 refine Rt.pure (zM bD ?_);rfl
end
section
open Go
end
section
open Go
theorem CF.e0 {nm of up:ByteArray} {kd lo hi:Int} (h1:nm.size<=12) (h2:of.size<=12) (h3:up.size<=12) (h4:0<=kd/\kd<=8) (h5:-1000<=lo/\lo<=1000) (h6:-1000<=hi/\hi<=1000):CF ⟨nm,of,up,kd,lo,hi,[],[]⟩:=
 ⟨h1,h2,h3,by simp,by simp,by simp,by simp,h4,h5,h6⟩
theorem PlainF.cf {fs:List Fld} (h:PlainF fs):fs.length<=2/\∀ f∈fs,CF f:=by
 cases h with
 | none=>exact⟨by simp,by simp⟩
 | size a b ha hb=>exact⟨by simp,fun f hf=>by rw [zN] at hf;subst hf;exact .e0 (by decide) (by decide) (by decide) (by omega) (by omega) (by omega)⟩
 | tag n ws hn hw h0 h1=>
  refine⟨by simp,fun f hf=>?_⟩;rw [zN] at hf;subst hf;refine⟨show nTag.size<=12 by decide,show nE.size<=12 by decide,show nE.size<=12 by decide,?_,fun s hs=>?_,by show ws.length<=3;omega,fun z hz=>?_,show (0:Int)<=3/\(3:Int)<=8 by decide,show (-1000:Int)<=0/\(0:Int)<=1000 by decide,show (-1000:Int)<=0/\(0:Int)<=1000 by decide⟩
  ·show (List.take n _).length<=3;rw [zR];simp;omega
  ·have:=xG hs;simp only [zU,yF,xE] at this;rcases this with rfl|rfl|rfl<;>decide
  ·have:=h0 z hz;omega
 | born a b c d ha hb hc hd=>
  refine⟨by simp,fun f hf=>?_⟩;simp only [zU,yF,xE] at hf;rcases hf with rfl|rfl
  ·exact .e0 (by decide) (by decide) (by decide) (by omega) (by omega) (by omega)
  ·exact .e0 (by decide) (by decide) (by decide) (by omega) (by omega) (by omega)
 | state a b ha hb=>exact⟨by simp,fun f hf=>by rw [zN] at hf;subst hf;exact .e0 (by decide) (by decide) (by decide) (by omega) (by omega) (by omega)⟩
 | low a b c d ha hb hc hd=>
  refine⟨by simp,fun f hf=>?_⟩;simp only [zU,yF,xE] at hf;rcases hf with rfl|rfl
  ·exact .e0 (by decide) (by decide) (by decide) (by omega) (by omega) (by omega)
  ·exact .e0 (by decide) (by decide) (by decide) (by omega) (by omega) (by omega)
structure CK1 (k:Knd):Prop where
 ck:CK k
 one:k.fields.length<=9\/0<=ao6 k.fields ar9
theorem cq9 (n:Nat) (h:n<=2):1<=(knm n).size/\(knm n).size<=12:=by
 rcases n with _ | _ | _|n
 ·decide
 ·decide
 ·decide
 ·omega
theorem RefP.cf {ks ks':List Knd} {nm:ByteArray} {f1:List Fld} (h:RefP ks nm f1 ks') (hn:nm.size<=12) (hk:∀ k∈ks,CK1 k):(f1.length<=3/\∀ f∈f1,CF f)/\ks'.length=ks.length/\∀ k∈ks',CK1 k:=by
 have ofc:∀ {tw0:Nat} {y:Knd} {lo hi:Int},ks[tw0]?=some y->(lo=0\/lo=1)->hi∈[(4:Int),3,8,2]->CF (ofF y lo hi):=fun hy hl hh=>by
  have:=(hk _ (zG hy)).ck.nm;simp only [zU,yF,xE] at hh;exact .e0 (by decide) (by omega) (by decide) (by decide) (by omega) (by omega)
 have smc:∀ {tw0:Nat} {y:Knd} {sm:List Fld},ks[tw0]?=some y->(sm=[]\/∃ g,0<=as0 y/\y.fields[(as0 y).toNat]?=some g/\sm=[au9 g.name])->sm.length<=1/\∀ f∈sm,CF f:=fun hy hs=>by
  rcases hs with rfl|⟨g,_,hg,rfl⟩
  ·exact⟨by simp,by simp⟩
  ·have:=((hk _ (zG hy)).ck.fs g (zG hg)).nm;exact⟨by simp,fun f hf=>by rw [zN] at hf;subst hf;exact .e0 (by decide) (by omega) (by decide) (by decide) (by decide) (by decide)⟩
 cases h with
 | none h=>exact⟨⟨by simp,by simp⟩,rfl,hk⟩
 | of tw0 y lo hi sm hy hl hh hs=>
  have h1:=ofc hy hl hh;have h2:=smc hy hs;exact⟨⟨by have:=h2.1;simp only [List.length_cons];omega,fun f hf=>by
   rcases zU.1 hf with rfl|hf
   ·exact h1
   ·exact h2.2 f hf⟩,rfl,hk⟩
 | part tw0 y lo hi a b sm hy hl hh hs ht ha hb=>
  have h1:=ofc hy hl hh;have h2:=smc hy hs;have h3:=hk _ (zG hy);refine⟨⟨by have:=h2.1;simp only [List.length_cons,zI,List.length_nil];omega,fun f hf=>?_⟩,yR ..,fun k hk'=>?_⟩
  ·rcases zU.1 hf with rfl|hf
   ·exact h1
   ·rcases zO.1 hf with hf|hf
    ·exact h2.2 f hf
    ·rw [zN] at hf;subst hf;exact .e0 (by decide) (by decide) (by decide) (by decide) (by omega) (by omega)
  ·rcases yZ hk' with h|rfl
   ·exact hk k h
   ·refine⟨⟨h3.ck.nm,h3.ck.lo,h3.ck.hi,?_,fun f hf=>?_⟩,.inr ?_⟩
    ·show (y.fields++[totF nm]).length<=10;rw [zI];have:=h3.one;simp only [List.length_cons,List.length_nil];omega
    ·rcases zO.1 hf with hf|hf
     ·exact h3.ck.fs f hf
     ·rw [zN] at hf;subst hf;exact .e0 (by decide) hn (by decide) (by decide) (by decide) (by decide)
    ·have:=al6 (fun f:Fld=>seq f.name ar9) (y.fields++[totF nm]);rw [List.any_append,show List.any [totF nm] (fun f=>seq f.name ar9)=true by simp [totF,as3],Bool.or_true] at this;exact wY this
theorem KMade.cls {ks ks':List Knd} {k:Knd} (h:KMade ks k ks') (hl:ks.length<=2) (hk:∀ k∈ks,CK1 k):CK1 k/\ks'.length=ks.length/\∀ k∈ks',CK1 k:=by
 obtain⟨lo,r,idl,f1,f2,p1,p2,h1,h2,h3,rfl,h5,h6,h7,h8,_⟩:=h.ex;have hn:=cq9 ks.length hl;obtain⟨⟨q1,q2⟩,q3,q4⟩:=h5.cf hn.2 hk;have q5:=h7.cf;have q6:=h8.cf;have q7:f2.length<=1/\∀ f∈f2,CF f:=by
  rcases h6 with rfl|⟨y,hy,_,rfl⟩
  ·exact⟨by simp,by simp⟩
  ·have:=(hk _ (zG hy)).ck.nm;exact⟨by simp,fun f hf=>by rw [zN] at hf;subst hf;exact .e0 (by decide) (by omega) (by decide) (by decide) (by decide) (by decide)⟩
 have hlen:(idF idl::(f1++(f2++(p1++p2)))).length<=9:=by
  simp only [List.length_cons,zI];omega
 simp only [zU,yF,xE] at h1 h3;refine⟨⟨⟨hn,by show -1000<=lo/\lo<=1000;omega,by show -1000<=lo+r/\lo+r<=1000;omega,by show List.length (idF idl::(f1++(f2++(p1++p2))))<=10;omega,fun f hf=>?_⟩,.inl hlen⟩,q3,q4⟩;rcases zU.1 hf with rfl|hf
 ·exact .e0 (by decide) (by decide) (by decide) (by decide) (by omega) (by decide)
 ·rcases zO.1 hf with hf|hf
  ·exact q2 f hf
  ·rcases zO.1 hf with hf|hf
   ·exact q7.2 f hf
   ·rcases zO.1 hf with hf|hf
    ·exact q5.2 f hf
    ·exact q6.2 f hf
end
section
open Go Go.RowKit Go.Shelf
inductive KChain:List Knd->Prop
 | nil:KChain []
 | step {ks ks':List Knd} {k:Knd} (h:KChain ks) (m:KMade ks k ks') (l:ks'.length=ks.length):KChain (ks'++[k])
inductive RChain (ks:List Knd):Nat->List Rul->Prop
 | nil:RChain ks 0 []
 | skip {i:Nat} {rs:List Rul} (h:RChain ks i rs):RChain ks (i+1) rs
 | take {i:Nat} {rs:List Rul} {k:Knd} {r:Rul} (h:RChain ks i rs) (hk:ks[i]?=some k) (hr:RuleF k r):RChain ks (i+1) (rs++[r])
theorem KChain.ck {ks:List Knd} (h:KChain ks) (hl:ks.length<=3):∀ k∈ks,CK1 k:=by
 induction h with
 | nil=>simp
 | step h m l ih=>
  rw [zI,List.length_singleton] at hl;obtain⟨h1,h2,h3⟩:=m.cls (by omega) (ih (by omega));intro k hk;rcases zO.1 hk with hk|hk
  ·exact h3 k hk
  ·rw [zN] at hk;subst hk;exact h1
abbrev stL:List ByteArray:=[⟨#[110,101,119]⟩,⟨#[111,112,101,110]⟩,⟨#[100,111,110,101]⟩,⟨#[115,104,117,116]⟩]
structure GenX (x:Sch):Prop where
 ver:0<=x.vz/\x.vz<4
 nk:1<=x.kz.length/\x.kz.length<=3
 ks:KChain x.kz
 ls:∃ (m:Nat) (mv:List (Int × Int)),2<=m/\m<=4/\x.lz=[⟨nLife,stL.take m,mv⟩]/\mv.length<=5/\∀ p∈mv,(0<=p.1/\p.1<m)/\(0<=p.2/\p.2<m)
 nr:x.rules.length<=2
 rs:∃ i,i<=x.kz.length/\RChain x.kz i x.rules
abbrev scB (b:Nat) (ver:Int) (kv lv rv:Value):Nat × Blk:=(b,.cells 28 [iD ver,.v kv,.v lv,.v rv])
abbrev zS:List D:=[.v (zv (ZV.int IntKind.i64)),.v (zv ZV.sl),.v (zv ZV.sl),.v (zv ZV.sl)]
theorem cl31 {p:Prop} (h:p:=by (refine ac3 fun a=>?_;simp only [kdB,mkB,scB,List.append_eq,List.nil_append,ac4,af0,ae9,sD,iD,bD];omega)):p:=h
theorem cl32 {p:Prop} (h:p:=by (refine ac3 fun a=>?_;simp only [kdB,mkB,scB,List.append_eq,List.nil_append,ac4,af0,ae9,sD,iD,bD];omega)):p:=h
theorem cl33 {p:Prop} (h:p:=by first|exact zH _|((refine ac3 fun a=>?_;simp only [kdB,mkB,scB,List.append_eq,List.nil_append,ac4,af0,ae9,sD,iD,bD];omega))):p:=h
theorem bv0 (l:List Int) (hl:I64s l):ACall prog 6 [slI l] [] (fun d σ=>∃ x,d=schD x/\σ=[]/\GenX x):=by
 have hll:=hl.2;have hx:I64s (l.take 200):=⟨fun z hz=>hl.1 z (xG hz),by have:=List.length_take_le 200 l;omega⟩
 generalize hxs:l.take 200=xs at hx;have e0:List.take (if (200:Int)<((l.map fun x=>[iD x]).length:Int) then 200 else ((l.map fun x=>[iD x]).length:Int)).toNat (l.map fun x=>[iD x])=xs.map fun x=>[iD x]:=by
  rw [zL,← hxs,vR];split
  ·rfl
  ·rw [yL (by rw [zL];omega),yL (by rw [zL];omega)]
 refine eC7 func6 ntmps6 fun BB=>?_
 repeat' first|refine sk81 ?_|intro b;conv=>whnf
 generalize b=b2;rw [e0];refine Bx.r (OtE.box rfl rfl (fun bm=>?_));have h0:=ac8 xs 0 4;have h0':=h0.2 (by omega);have h1:=ac8 xs (0+1) 3;have h1':=h1.2 (by omega);obtain⟨n1,hn1⟩:∃ n:Nat,atE xs (0+1) 3=n:=⟨(atE xs (0+1) 3).toNat,by omega⟩
 repeat' first|refine sk81 ?_|intro b;conv=>whnf|((refine pA6 (aa7 xs hx bm _ _ ⟨by omega,by omega⟩) (zH ([mkB bm xs _]++_)) (fun s'=>s'++_) (fun s'=>zH _) ?_);(rintro _ _ ⟨rfl,rfl⟩))|((refine pA6 (aa7 xs hx bm _ _ ⟨by omega,by omega⟩) (show List.Perm (_::mkB bm xs _::_) ([mkB bm xs _]++(_::_)) from List.Perm.swap _ _ _) (fun s'=>s'++(_::_)) (fun s'=>zH _) ?_);(rintro _ _ ⟨rfl,rfl⟩))
 rw [hn1]
 repeat' first|refine sk68 ?_|intro b;conv=>whnf
 generalize b=b4;refine aa5 mixed aa0 (γ:=Nat × Int × List Knd × Value × aa1) (fun g=>[(6,iD g.1)]) (fun g=>mkB bm xs g.2.1::scB b4 (atE xs 0 4) g.2.2.2.1 (.slice none 0 0) (.slice none 0 0)::(b2,.cells 28 zS)::g.2.2.2.2) (fun g=>g.1<=1+n1/\(2<=g.2.1/\g.2.1<=2+g.1*100)/\g.2.2.1.length=g.1/\KChain g.2.2.1/\RowIs 85 4 (g.2.2.1.map kndC) g.2.2.2.1 g.2.2.2.2) (fun g=>1+n1-g.1) (0,2,[],.slice none 0 0,[]) (aa2 cl2) (Sc.perm (by first|exact zH _|exact List.Perm.swap _ _ _)) ⟨zW _,⟨by simp,by simp⟩,rfl,KChain.nil,RowIs.nil _ _⟩ ?_;rintro⟨i,p1,ks,v,sk⟩ ⟨hi,⟨hp1,hp1'⟩,hkl,hch,hkr⟩;simp only at hi hp1 hp1' hkl hch hkr ⊢;obtain⟨a,c,e⟩:=hkr.slice;rw [zL] at e;subst e;by_cases hin:i<1+n1
 ·have hck:=hch.ck (by omega);have HK:=bM7 xs hx bm p1 ⟨by omega,by omega⟩ ks (by omega) (fun k hk=>by have:=(hck k hk).ck.nf;omega) a c sk hkr
  repeat' first|refine sk68 ?_|intro b;conv=>whnf
  refine dr7 ?_;refine bF1 mixed aa0 rfl [0,2,3] 7 (.two 1 (.one 4 (.one 5 (.one 6 (.one 7 (.one 8 (.one 9 .done)))))) 4 (.two 1 (.one 5 (.one 6 (.one 7 (.one 8 (.one 9 .done))))) 5 (.two 1 (.one 6 (.one 7 (.one 8 (.one 9 .done)))) 6 (.one 1 (.one 7 (.one 8 (.one 9 .done))))))) (γ:=Int × List Knd × Knd × Value × aa1) (fun _=>[]) (fun g=>mkB bm xs g.1::scB b4 (atE xs 0 4) g.2.2.2.1 (.slice none 0 0) (.slice none 0 0)::(b2,.cells 28 zS)::g.2.2.2.2) (fun g=>(p1<=g.1/\g.1<=p1+100)/\KMade ks g.2.2.1 g.2.1/\RowIs 85 4 ((g.2.1++[g.2.2.1]).map kndC) g.2.2.2.1 g.2.2.2.2) (by decide +kernel) ?_ ?_
  ·repeat' first|refine sk68 ?_|intro b;conv=>whnf|(refine And.intro ?_ ?_<;>(conv=>whnf))|((refine pA6 (t:=[scB b4 (atE xs 0 4) (.slice a ks.length c) (.slice none 0 0) (.slice none 0 0),(b2,.cells 28 zS)]) HK cl31 (fun s'=>scB b4 (atE xs 0 4) (.slice a ks.length c) (.slice none 0 0) (.slice none 0 0)::(b2,.cells 28 zS)::s') (fun s'=>cl32) ?_);(rintro _ _ ⟨p2,k,ks2,s2,hp2,rfl,rfl,hkr2,hm⟩);(have hml:=(hm.cls (by omega) hck).2.1))|(refine Ap.go rfl rfl rfl rfl hkr2 (τ:=scB b4 (atE xs 0 4) (.slice a ks.length c) (.slice none 0 0) (.slice none 0 0)::(b2,.cells 28 zS)::[mkB bm xs p2]) cl31 rfl (zs:=(ks2++[k]).map kndC) (by rw [yB];rfl) (by rw [zL,zI,hml];simp only [List.length_singleton];omega) (by rw [zL,zI,hml];simp only [List.length_singleton];omega) (fun s'=>scB b4 (atE xs 0 4) (.slice a ks.length c) (.slice none 0 0) (.slice none 0 0)::(b2,.cells 28 zS)::mkB bm xs p2::s') (fun s'=>cl32) (fun a3 c3 s3 hr3=>?_))
   all_goals exact⟨(p2,ks2,k,_,s3),(aa2 cl2),Sc.perm cl31,hp2,hm,hr3⟩
  ·rintro⟨p2,ks2,k,v2,s2⟩ ⟨⟨hp2,hp2'⟩,hm,hkr2⟩;simp only at hp2 hp2' hm hkr2 ⊢;have hml:=(hm.cls (by omega) hck).2.1
   repeat' first|refine sk68 ?_|intro b;conv=>whnf
   exact⟨(i+1,p2,ks2++[k],v2,s2),(aa2 cl4),Sc.perm cl33,⟨by simp only;omega,⟨by simp only;omega,by simp only;omega⟩,by simp only [zI,List.length_singleton];omega,hch.step hm hml,hkr2⟩,by simp only;omega⟩
 ·obtain rfl:i=1+n1:=by omega
  have h2:=ac8 xs p1 3;have h2':=h2.2 (by omega);obtain⟨n2,hn2⟩:∃ n:Nat,atE xs p1 3=n:=⟨(atE xs p1 3).toNat,by omega⟩
  have hst:List.take (2+(n2:Int)).toNat [[D.v (Value.string ⟨#[110,101,119]⟩)],[D.v (Value.string ⟨#[111,112,101,110]⟩)],[D.v (Value.string ⟨#[100,111,110,101]⟩)],[D.v (Value.string ⟨#[115,104,117,116]⟩)]]=(stL.take (2+n2)).map fun s=>[sD s]:=by
   rw [show (2+(n2:Int)).toNat=2+n2 by omega,vR];rfl
  have hsl:(stL.take (2+n2)).length=2+n2:=by rw [zR];simp;omega
  repeat' first|refine sk68 ?_|intro b;conv=>whnf
  ((refine pA6 (aa7 xs hx bm _ _ ⟨by omega,by omega⟩) (zH ([mkB bm xs _]++_)) (fun s'=>s'++_) (fun s'=>zH _) ?_);(rintro _ _ ⟨rfl,rfl⟩))
  rw [hn2]
  repeat' first|refine sk68 ?_|intro b;conv=>whnf
  rw [hst]
  repeat' first|refine sk68 ?_|intro b;conv=>whnf
  generalize b=b8;refine aa5 mixed aa0 (γ:=Nat × List (Int × Int) × Value × aa1) (fun g=>[(9,iD g.1)]) (fun g=>(b8,.cells 89 [sD nLife,slS (stL.take (2+n2)),.v g.2.2.1])::mkB bm xs (p1+1)::scB b4 (atE xs 0 4) (.slice a ks.length c) (.slice none 0 0) (.slice none 0 0)::(b2,.cells 28 zS)::(g.2.2.2++sk)) (fun g=>g.1<=1+n2/\g.2.1.length=g.1/\(∀ q∈g.2.1,(0<=q.1/\q.1<((2+n2:Nat):Int))/\(0<=q.2/\q.2<((2+n2:Nat):Int)))/\RowIs 90 2 (g.2.1.map movC) g.2.2.1 g.2.2.2) (fun g=>1+n2-g.1) (0,[],.slice none 0 0,[]) (aa2 cl2) (Sc.perm (by first|exact zH _|exact List.Perm.swap _ _ _)) ⟨zW _,rfl,by simp,RowIs.nil _ _⟩ ?_;rintro⟨i,mv,v,s⟩ ⟨hi2,hml,hmq,hmr⟩;simp only at hi2 hml hmq hmr ⊢;have hle:((stL.take (2+n2)).map fun s=>[sD s]).length=2+n2:=by rw [zL];exact hsl
  by_cases hin2:i<1+n2
  ·repeat' first|refine sk68 ?_|intro b;conv=>whnf
   refine Ap.go rfl rfl rfl rfl hmr (τ:=(b8,.cells 89 [sD nLife,slS (stL.take (2+n2)),.v v])::mkB bm xs (p1+1)::scB b4 (atE xs 0 4) (.slice a ks.length c) (.slice none 0 0) (.slice none 0 0)::(b2,.cells 28 zS)::sk) cl31 rfl (zs:=(mv++[((i:Int),(i:Int)+1)]).map movC) (by rw [yB];rfl) (by simp;omega) (by simp;omega) (fun s'=>(b8,.cells 89 [sD nLife,slS (stL.take (2+n2)),.v v])::mkB bm xs (p1+1)::scB b4 (atE xs 0 4) (.slice a ks.length c) (.slice none 0 0) (.slice none 0 0)::(b2,.cells 28 zS)::(s'++sk)) (fun s'=>cl32) (fun a5 c5 s5 hr5=>?_)
   repeat' first|refine sk68 ?_|intro b;conv=>whnf
   refine⟨(i+1,mv++[((i:Int),(i:Int)+1)],_,s5),(aa2 cl4),Sc.refl _,⟨by simp only;omega,by simp only [zI,List.length_singleton];omega,fun q hq=>?_,hr5⟩,by simp only;omega⟩;rcases zO.1 hq with h|h
   ·exact hmq q h
   ·rw [zN] at h;subst h;simp only;omega
  ·obtain rfl:i=1+n2:=by omega
   have h3:=ac8 xs (p1+1) 2
   repeat' first|refine sk77 ?_|intro b;conv=>whnf
   refine Bc.l ?_
   repeat' first|refine sk77 ?_|intro b;conv=>whnf
   ((refine pA6 (t:=(b8,.cells 89 [sD nLife,slS (stL.take (2+n2)),.v v])::scB b4 (atE xs 0 4) (.slice a ks.length c) (.slice none 0 0) (.slice none 0 0)::(b2,.cells 28 zS)::(s++sk)) (aa7 xs hx bm (p1+1) _ ⟨by omega,by omega⟩) cl31 (fun s'=>(b8,.cells 89 [sD nLife,slS (stL.take (2+n2)),.v v])::(s'++(scB b4 (atE xs 0 4) (.slice a ks.length c) (.slice none 0 0) (.slice none 0 0)::(b2,.cells 28 zS)::(s++sk)))) (fun s'=>cl32) ?_);(rintro _ _ ⟨rfl,rfl⟩))
   repeat' first|refine sk77 ?_|intro b;conv=>whnf
   refine Bc.j ?_;refine av2 mixed aa0 (γ:=List (Int × Int) × Value × aa1) (fun _=>[]) (fun g=>(b8,.cells 89 [sD nLife,slS (stL.take (2+n2)),.v g.2.1])::mkB bm xs (p1+1+1)::scB b4 (atE xs 0 4) (.slice a ks.length c) (.slice none 0 0) (.slice none 0 0)::(b2,.cells 28 zS)::(g.2.2++sk)) (fun g=>g.1.length<=4/\(∀ q∈g.1,(0<=q.1/\q.1<((2+n2:Nat):Int))/\(0<=q.2/\q.2<((2+n2:Nat):Int)))/\RowIs 90 2 (g.1.map movC) g.2.1 g.2.2) ?_ ?_
   ·(((with_reducible refine W.mk ?_);(conv=>whnf)))
    refine Bc.l ?_;by_cases hz3:atE xs (p1+1) 2=0
    ·repeat' first|refine sk77 ?_|intro b;conv=>whnf
     refine Ap.go rfl rfl rfl rfl hmr (τ:=(b8,.cells 89 [sD nLife,slS (stL.take (2+n2)),.v v])::mkB bm xs (p1+1+1)::scB b4 (atE xs 0 4) (.slice a ks.length c) (.slice none 0 0) (.slice none 0 0)::(b2,.cells 28 zS)::sk) cl31 rfl (zs:=(mv++[((1:Int),(0:Int))]).map movC) (by rw [yB];rfl) (by simp;omega) (by simp;omega) (fun s'=>(b8,.cells 89 [sD nLife,slS (stL.take (2+n2)),.v v])::mkB bm xs (p1+1+1)::scB b4 (atE xs 0 4) (.slice a ks.length c) (.slice none 0 0) (.slice none 0 0)::(b2,.cells 28 zS)::(s'++sk)) (fun s'=>cl32) (fun a5 c5 s5 hr5=>?_)
     repeat' first|refine sk77 ?_|intro b;conv=>whnf
     refine⟨(mv++[((1:Int),(0:Int))],_,s5),(aa2 cl2),Sc.refl _,⟨by simp only [zI,List.length_singleton];omega,fun q hq=>?_,hr5⟩⟩;rcases zO.1 hq with h|h
     ·exact hmq q h
     ·rw [zN] at h;subst h;simp only;omega
    ·repeat' first|refine sk77 ?_|intro b;conv=>whnf
     exact⟨(mv,v,s),(aa2 cl2),Sc.perm cl33,by simp only;omega,hmq,hmr⟩
   ·clear hmq hmr hml;rintro⟨mv,v,s⟩ ⟨hml,hmq,hmr⟩;simp only at hml hmq hmr ⊢;obtain⟨a8,c8,e8⟩:=hmr.slice;rw [zL] at e8;subst e8;have h4:=ac8 xs (p1+1+1) 3
    repeat' first|refine sk77 ?_|intro b;conv=>whnf
    ((refine pA6 (t:=(b8,.cells 89 [sD nLife,slS (stL.take (2+n2)),.v (.slice a8 mv.length c8)])::scB b4 (atE xs 0 4) (.slice a ks.length c) (.slice none 0 0) (.slice none 0 0)::(b2,.cells 28 zS)::(s++sk)) (aa7 xs hx bm (p1+1+1) _ ⟨by omega,by omega⟩) cl31 (fun s'=>(b8,.cells 89 [sD nLife,slS (stL.take (2+n2)),.v (.slice a8 mv.length c8)])::(s'++(scB b4 (atE xs 0 4) (.slice a ks.length c) (.slice none 0 0) (.slice none 0 0)::(b2,.cells 28 zS)::(s++sk)))) (fun s'=>cl32) ?_);(rintro _ _ ⟨rfl,rfl⟩))
    repeat' first|refine sk77 ?_|intro b;conv=>whnf
    refine Bc.j ?_;refine av2 mixed aa0 (γ:=List (Int × Int)) (fun _=>[]) (fun g=>(b8,.cells 89 (lifC ⟨nLife,stL.take (2+n2),g⟩))::mkB bm xs (p1+1+1+1)::scB b4 (atE xs 0 4) (.slice a ks.length c) (.slice none 0 0) (.slice none 0 0)::(b2,.cells 28 zS)::sk) (fun g=>g.length<=5/\(∀ q∈g,(0<=q.1/\q.1<((2+n2:Nat):Int))/\(0<=q.2/\q.2<((2+n2:Nat):Int)))) ?_ ?_
    ·(((with_reducible refine W.mk ?_);(conv=>whnf)))
     refine Bc.l ?_;have hfz:∀ (v:Value) (m:List (Int × Int)) (s:aa1),RowIs 90 2 (m.map movC) v s->Sc ((b8,.cells 89 [sD nLife,slS (stL.take (2+n2)),.v v])::mkB bm xs (p1+1+1+1)::scB b4 (atE xs 0 4) (.slice a ks.length c) (.slice none 0 0) (.slice none 0 0)::(b2,.cells 28 zS)::(s++sk)) ((b8,.cells 89 (lifC ⟨nLife,stL.take (2+n2),m⟩))::mkB bm xs (p1+1+1+1)::scB b4 (atE xs 0 4) (.slice a ks.length c) (.slice none 0 0) (.slice none 0 0)::(b2,.cells 28 zS)::sk):=fun v m s hr=>
      (Sc.perm cl31).trans (Sc.frz (cs:=[sD nLife,slS (stL.take (2+n2)),.v v]) (j:=2) (s:=s) (τ:=mkB bm xs (p1+1+1+1)::scB b4 (atE xs 0 4) (.slice a ks.length c) (.slice none 0 0) (.slice none 0 0)::(b2,.cells 28 zS)::sk) rfl hr (LeR.refl _))
     by_cases hz4:atE xs (p1+1+1) 3=0
     ·repeat' first|refine sk77 ?_|intro b;conv=>whnf
      rw [hle]
      repeat' first|refine sk77 ?_|intro b;conv=>whnf
      refine Ap.go rfl rfl rfl rfl hmr (τ:=(b8,.cells 89 [sD nLife,slS (stL.take (2+n2)),.v (.slice a8 mv.length c8)])::mkB bm xs (p1+1+1+1)::scB b4 (atE xs 0 4) (.slice a ks.length c) (.slice none 0 0) (.slice none 0 0)::(b2,.cells 28 zS)::sk) cl31 rfl (zs:=(mv++[((0:Int),((2+n2:Nat):Int)-1)]).map movC) (by rw [yB];rfl) (by simp;omega) (by simp;omega) (fun s'=>(b8,.cells 89 [sD nLife,slS (stL.take (2+n2)),.v (.slice a8 mv.length c8)])::mkB bm xs (p1+1+1+1)::scB b4 (atE xs 0 4) (.slice a ks.length c) (.slice none 0 0) (.slice none 0 0)::(b2,.cells 28 zS)::(s'++sk)) (fun s'=>cl32) (fun a10 c10 s10 hr10=>?_)
      repeat' first|refine sk77 ?_|intro b;conv=>whnf
      refine⟨mv++[((0:Int),((2+n2:Nat):Int)-1)],(aa2 cl2),hfz _ _ s10 hr10,by simp only [zI,List.length_singleton];omega,fun q hq=>?_⟩;rcases zO.1 hq with h|h
      ·exact hmq q h
      ·rw [zN] at h;subst h;simp only;omega
     ·repeat' first|refine sk77 ?_|intro b;conv=>whnf
      exact⟨mv,(aa2 cl2),(Sc.perm cl33).trans (hfz _ mv s hmr),by omega,hmq⟩
    ·clear hmq hmr hml;rintro mv ⟨hml,hmq⟩;have hck:=hch.ck (by omega)
     repeat' first|refine sk68 ?_|intro b;conv=>whnf
     refine Ap.go rfl rfl rfl rfl (RowIs.nil 89 3) (zH ([]++_)) rfl (zs:=[lifC ⟨nLife,stL.take (2+n2),mv⟩]) rfl (by simp) (by simp) (fun s'=>s'++_) (fun s'=>zH _) (fun a11 c11 s11 hr11=>?_)
     repeat' first|refine sk68 ?_|intro b;conv=>whnf
     refine Sv.cellm (tb:=28) (cs:=[iD (atE xs 0 4),.v (.slice a ks.length c),.v (.slice none 0 0),.v (.slice none 0 0)]) (cs':=[iD (atE xs 0 4),.v (.slice a ks.length c),.v (.slice a11 1 c11),.v (.slice none 0 0)]) (τ:=(b8,.cells 89 (lifC ⟨nLife,stL.take (2+n2),mv⟩))::mkB bm xs (p1+1+1+1)::(b2,.cells 28 zS)::(s11++sk)) cl31 (by simp) rfl rfl ?_
     repeat' first|refine sk68 ?_|intro b;conv=>whnf
     refine aa5 mixed aa0 (γ:=Nat × Int × List Rul × Value × aa1) (fun g=>[(10,iD g.1)]) (fun g=>mkB bm xs g.2.1::scB b4 (atE xs 0 4) (.slice a ks.length c) (.slice a11 1 c11) g.2.2.2.1::(b2,.cells 28 zS)::(g.2.2.2.2++(s11++sk))) (fun g=>g.1<=ks.length/\(p1+3<=g.2.1/\g.2.1<=p1+3+g.1*20)/\g.2.2.1.length<=2/\RChain ks g.1 g.2.2.1/\RowIs 92 5 (g.2.2.1.map rulC) g.2.2.2.1 g.2.2.2.2) (fun g=>ks.length-g.1) (0,p1+1+1+1,[],.slice none 0 0,[]) (aa2 cl2) (Sc.drop (ρ:=[(b8,.cells 89 (lifC ⟨nLife,stL.take (2+n2),mv⟩))]) cl31) ⟨zW _,⟨by simp only;omega,by simp only;omega⟩,by simp,RChain.nil,RowIs.nil _ _⟩ ?_;rintro⟨i,p2,rs,rv,s⟩ ⟨hi5,⟨hp2,hp2'⟩,hrl,hrc,hrr⟩;simp only at hi5 hp2 hp2' hrl hrc hrr ⊢;obtain⟨a12,c12,e12⟩:=hrr.slice;rw [zL] at e12;subst e12;by_cases hin5:i<ks.length
     ·by_cases hr2:rs.length<2
      ·obtain⟨k,hk⟩:∃ k,ks[i]?=some k:=⟨_,zD hin5⟩
       have hk1:=(hck k (zG hk)).ck;obtain⟨b9,cap9,cs9,e9,e9s,hcs9⟩:=RowIs.get hkr (show (ks.map kndC)[i]?=some (kndC k) by rw [zP,hk];rfl);rw [zL] at e9
       cases e9
       subst e9s;have HR:=bM5 xs hx bm p2 ⟨by omega,by omega⟩ k (by have:=hk1.nf;omega) hk1.nm (fun f hf=>by have h1:=(hk1.fs f hf).lo;have h2:=(hk1.fs f hf).hi;omega)
       repeat' first|refine sk68 ?_|intro b;conv=>whnf
       refine pB0 (tb:=85) (cs:=cs9) (x:=kndC k) (by simp) rfl (by decide) (fun j hj=>by rw [show 0+((i:Nat):Int).toNat*4+j=i*4+j by simp];exact hcs9 j hj) ?_
       repeat' first|refine sk68 ?_|intro b;conv=>whnf
       refine pA6 (t:=scB b4 (atE xs 0 4) (.slice (some ⟨b9,0,none⟩) ks.length c) (.slice a11 1 c11) (.slice a12 rs.length c12)::(b2,.cells 28 zS)::(s++(s11++[(b9,.cells 85 cs9)]))) HR cl33 (fun s'=>s'++(scB b4 (atE xs 0 4) (.slice (some ⟨b9,0,none⟩) ks.length c) (.slice a11 1 c11) (.slice a12 rs.length c12)::(b2,.cells 28 zS)::(s++(s11++[(b9,.cells 85 cs9)])))) (fun s'=>zH _) ?_;rintro _ _ ⟨p3,r,ok,⟨hp3,hp3'⟩,rfl,rfl,hok⟩
       cases ok with
       | false=>
        repeat' first|refine sk68 ?_|intro b;conv=>whnf
        exact⟨(i+1,p3,rs,.slice a12 rs.length c12,s),(aa2 cl4),Sc.sl (yG _ _),⟨by simp only;omega,⟨by simp only;omega,by simp only;omega⟩,hrl,hrc.skip,hrr⟩,by simp only;omega⟩
       | true=>
        repeat' first|refine sk68 ?_|intro b;conv=>whnf
        generalize b=b11;refine Ap.go rfl rfl rfl rfl hrr (τ:=(b11,.cells 92 [sD r.name,sD r.kind,sD r.a,sD r.b,iD r.n])::mkB bm xs p3::scB b4 (atE xs 0 4) (.slice (some ⟨b9,0,none⟩) ks.length c) (.slice a11 1 c11) (.slice a12 rs.length c12)::(b2,.cells 28 zS)::(s11++[(b9,.cells 85 cs9)])) cl31 rfl (zs:=(rs++[r]).map rulC) (by rw [yB];rfl) (by simp;omega) (by simp;omega) (fun s'=>(b11,.cells 92 [sD r.name,sD r.kind,sD r.a,sD r.b,iD r.n])::mkB bm xs p3::scB b4 (atE xs 0 4) (.slice (some ⟨b9,0,none⟩) ks.length c) (.slice a11 1 c11) (.slice a12 rs.length c12)::(b2,.cells 28 zS)::(s'++(s11++[(b9,.cells 85 cs9)]))) (fun s'=>cl32) (fun a13 c13 s13 hr13=>?_)
        repeat' first|refine sk68 ?_|intro b;conv=>whnf
        exact⟨(i+1,p3,rs++[r],_,s13),(aa2 cl4),Sc.sl (yG _ _),⟨by simp only;omega,⟨by simp only;omega,by simp only;omega⟩,by simp only [zI,List.length_singleton];omega,hrc.take hk (hok rfl),hr13⟩,by simp only;omega⟩
      ·repeat' first|refine sk68 ?_|intro b;conv=>whnf
       refine Rs.c aa0 (m:=2) rfl rfl rfl rfl rfl rfl ?_
       repeat' first|refine sk68 ?_|intro b;conv=>whnf
       exact Rt.by (σ':=[]) (d':=schD ⟨atE xs 0 4,ks,[⟨nLife,stL.take (2+n2),mv⟩],rs⟩) (Vs.vd ⟨mkB bm xs p2::scB b4 (atE xs 0 4) (.slice a ks.length c) (.slice a11 1 c11) (.slice a12 rs.length c12)::scB b2 (atE xs 0 4) (.slice a ks.length c) (.slice a11 1 c11) (.slice a12 rs.length c12)::(s++(s11++sk)),by rw [zZ]⟩ (Vd.agg (.cons (Vd.same (fun z hz=>by cases hz) _) (.cons (Vd.row (ρ:=mkB bm xs p2::scB b4 (atE xs 0 4) (.slice a ks.length c) (.slice a11 1 c11) (.slice a12 rs.length c12)::scB b2 (atE xs 0 4) (.slice a ks.length c) (.slice a11 1 c11) (.slice a12 rs.length c12)::(s++s11)) hkr cl31 (fun z hz=>by cases hz)) (.cons (Vd.row (ρ:=mkB bm xs p2::scB b4 (atE xs 0 4) (.slice a ks.length c) (.slice a11 1 c11) (.slice a12 rs.length c12)::scB b2 (atE xs 0 4) (.slice a ks.length c) (.slice a11 1 c11) (.slice a12 rs.length c12)::(s++sk)) hr11 cl31 (fun z hz=>by cases hz)) (.cons (Vd.row (ρ:=mkB bm xs p2::scB b4 (atE xs 0 4) (.slice a ks.length c) (.slice a11 1 c11) (.slice a12 rs.length c12)::scB b2 (atE xs 0 4) (.slice a ks.length c) (.slice a11 1 c11) (.slice a12 rs.length c12)::(s11++sk)) hrr cl31 (fun z hz=>by cases hz)) .nil)))))) ⟨_,rfl,rfl,⟨⟨h0.1,h0'⟩,⟨by show 1<=ks.length;omega,by show ks.length<=3;omega⟩,hch,⟨2+n2,mv,by omega,by omega,rfl,hml,hmq⟩,hrl,⟨_,hi5,hrc⟩⟩⟩
     ·obtain rfl:i=ks.length:=by omega
      repeat' first|refine sk68 ?_|intro b;conv=>whnf
      refine Rs.c aa0 (m:=2) rfl rfl rfl rfl rfl rfl ?_
      repeat' first|refine sk68 ?_|intro b;conv=>whnf
      exact Rt.by (σ':=[]) (d':=schD ⟨atE xs 0 4,ks,[⟨nLife,stL.take (2+n2),mv⟩],rs⟩) (Vs.vd ⟨mkB bm xs p2::scB b4 (atE xs 0 4) (.slice a ks.length c) (.slice a11 1 c11) (.slice a12 rs.length c12)::scB b2 (atE xs 0 4) (.slice a ks.length c) (.slice a11 1 c11) (.slice a12 rs.length c12)::(s++(s11++sk)),by rw [zZ]⟩ (Vd.agg (.cons (Vd.same (fun z hz=>by cases hz) _) (.cons (Vd.row (ρ:=mkB bm xs p2::scB b4 (atE xs 0 4) (.slice a ks.length c) (.slice a11 1 c11) (.slice a12 rs.length c12)::scB b2 (atE xs 0 4) (.slice a ks.length c) (.slice a11 1 c11) (.slice a12 rs.length c12)::(s++s11)) hkr cl31 (fun z hz=>by cases hz)) (.cons (Vd.row (ρ:=mkB bm xs p2::scB b4 (atE xs 0 4) (.slice a ks.length c) (.slice a11 1 c11) (.slice a12 rs.length c12)::scB b2 (atE xs 0 4) (.slice a ks.length c) (.slice a11 1 c11) (.slice a12 rs.length c12)::(s++sk)) hr11 cl31 (fun z hz=>by cases hz)) (.cons (Vd.row (ρ:=mkB bm xs p2::scB b4 (atE xs 0 4) (.slice a ks.length c) (.slice a11 1 c11) (.slice a12 rs.length c12)::scB b2 (atE xs 0 4) (.slice a ks.length c) (.slice a11 1 c11) (.slice a12 rs.length c12)::(s11++sk)) hrr cl31 (fun z hz=>by cases hz)) .nil)))))) ⟨_,rfl,rfl,⟨⟨h0.1,h0'⟩,⟨by show 1<=ks.length;omega,by show ks.length<=3;omega⟩,hch,⟨2+n2,mv,by omega,by omega,rfl,hml,hmq⟩,hrl,⟨_,hi5,hrc⟩⟩⟩
end
section
open Go
theorem RuleF.cr {k:Knd} {r:Rul} (h:RuleF k r) (hk:CK k):CR r:=by
 have hx:(k.name.extract 0 1).size<=1:=by rw [ByteArray.size_extract];omega
 have ap:∀ a:ByteArray,a.size<=5->(a++k.name.extract 0 1).size<=12:=fun a ha=>by rw [yU];omega
 cases h with
 | low n h hn=>exact⟨ap _ (by decide),hk.nm.2,by show nLow.size<=12;decide,by show nHigh.size<=12;decide,by show -2000<=n-2/\n-2<=2000;omega⟩
 | most f n h hf hn=>
  have:=(hk.fs f (zG hf)).lo;exact⟨ap _ (by decide),hk.nm.2,by show nSize.size<=12;decide,by show nE.size<=12;decide,by show -2000<=f.lo+n/\f.lo+n<=2000;omega⟩
 | least f n h hf hn=>
  have:=(hk.fs f (zG hf)).hi;exact⟨ap _ (by decide),hk.nm.2,by show nE.size<=12;decide,by show nSize.size<=12;decide,by show -2000<=n-f.hi/\n-f.hi<=2000;omega⟩
theorem RChain.cr {ks:List Knd} {i:Nat} {rs:List Rul} (h:RChain ks i rs) (hk:∀ k∈ks,CK k):∀ r∈rs,CR r:=by
 induction h with
 | nil=>simp
 | skip h ih=>exact ih
 | take h hk' hr ih=>
  intro r hm;rcases zO.1 hm with hm|hm
  ·exact ih r hm
  ·rw [zN] at hm;subst hm;exact hr.cr (hk _ (zG hk'))
theorem GenX.cls {x:Sch} (h:GenX x):Cls x:=by
 have hk:∀ k∈x.kz,CK k:=fun k hk=>(h.ks.ck h.nk.2 k hk).ck;obtain⟨m,mv,hm,hm',hl,hml,hmq⟩:=h.ls;obtain⟨i,_,hr⟩:=h.rs;refine⟨by have:=h.ver;omega,h.nk.2,hk,by rw [hl];simp,fun l hl'=>?_,by have:=h.nr;omega,hr.cr hk⟩;rw [hl,zN] at hl';subst hl';refine⟨by show nLife.size<=12;decide,by show (stL.take m).length<=4;rw [zR];simp;omega,fun s hs=>?_,hml,fun q hq=>by have:=hmq q hq;omega⟩;have:=xG hs;simp only [stL,zU,yF,xE] at this;rcases this with rfl|rfl|rfl|rfl<;>decide
end
section
open Go
theorem aV0 {k:Knd} (hN:(k.fields.map Fld.name).Nodup) {j:Nat} {f:Fld} (h:k.fields[j]?=some f):aa4 k f.name=j:=
 ad3 h (as3 _) fun i y hi hy=>by
  cases hs:seq y.name f.name with
  | false=>rfl
  | true=>
   exfalso;have he:=(aC5 _ _).1 hs;have hlt:i<(k.fields.map Fld.name).length:=by rw [zL];exact (zE.1 hy).1
   have:=(List.getElem?_inj (j:=j) hlt hN).1 (by rw [zP,zP,hy,h];simp [he]);omega
theorem cy1 {F:List Fld} (hN:(F.map Fld.name).Nodup) {j n:Nat} {f g:Fld} (h:F[j]?=some f) (h2:F[n]?=some g) (e:f.name=g.name):j=n:=
 (List.getElem?_inj (by rw [zL];exact (zE.1 h).1) hN).1 (by rw [zP,zP,h,h2];simp [e])
theorem bP7 {α:Type} {p:α->Bool} {xs:List α} {a:α} (h:0<=idx p xs) (ha:xs[(idx p xs).toNat]?=some a):p a=true:=by
 unfold idx at *;split at h
 ·rename_i o ho;obtain⟨h1,h2,_⟩:=wB.1 ho;simp only [ho,Int.toNat_natCast] at ha;rw [zD h1] at ha
  cases ha;exact h2
 ·omega
theorem bG7 {l:List Fld} {n:ByteArray} (h:ao6 l n<0):∀ f∈l,f.name≠n:=by
 intro f hf e;have:=al6 (fun f:Fld=>seq f.name n) l;have h2:l.any (fun f:Fld=>seq f.name n)=true:=wC.2 ⟨f,hf,(aC5 _ _).2 e⟩;rw [h2] at this;have:=wY this;unfold ao6 at h;omega
theorem bl2 {l:List Fld} {n:ByteArray} (h:0<=ao6 l n):∃ f∈l,f.name=n:=by
 have:=al6 (fun f:Fld=>seq f.name n) l;unfold ao6 at h;rw [yJ h] at this;obtain⟨f,hf,e⟩:=wC.1 this.symm;exact⟨f,hf,(aC5 _ _).1 e⟩
def ofN (t:Nat) (lo hi:Int):Fld:=⟨nOf,knm t,nE,1,lo,hi,[],[]⟩
def byN:Fld:=⟨nBy,knm 0,nE,1,0,8,[],[]⟩
def PartTo (kj:Knd) (i:Nat):Prop:=∃ n lo hi a b,kj.fields[1]?=some (ofN i lo hi)/\1<n/\kj.fields[n]?=some (am3 a b)/\∀ (n':Nat) (g:Fld),kj.fields[n']?=some g->g.kind=7->n'=n
def SmQ (ks:List Knd) (t:Nat) (sm:List Fld):Prop:=sm=[]\/∃ (y:Knd) (n:Nat) (g:Fld),ks[t]?=some y/\y.fields[n]?=some g/\aq9 g.kind=true/\sm=[au9 g.name]
def PtQ (ks:List Knd) (t i:Nat) (pt:List Fld):Prop:=pt=[]\/∃ (a b:Int) (y:Knd) (n:Nat),(0<=a/\a<3)/\(0<=b/\b<8)/\ks[t]?=some y/\y.fields[n]?=some (totF (knm i))/\pt=[am3 a b]
def RefQ (ks:List Knd) (i:Nat) (f1:List Fld):Prop:=f1=[]\/∃ (t:Nat) (lo hi:Int) (sm pt:List Fld),t<i/\(lo=0\/lo=1)/\hi∈[(4:Int),3,8,2]/\SmQ ks t sm/\PtQ ks t i pt/\f1=ofN t lo hi::(sm++pt)
def TotQ (ks:List Knd) (i:Nat) (tt:List Fld):Prop:=tt=[]\/∃ (j:Nat) (kj:Knd),i<j/\ks[j]?=some kj/\PartTo kj i/\tt=[totF (knm j)]
def KForm (ks:List Knd) (i:Nat) (k:Knd):Prop:=∃ lo r idl f1 f2 p1 p2 tt,lo∈[(0:Int),1,2,4,1,2]/\(0<=r/\r<5)/\idl∈[(0:Int),1,100,-3]/\k=⟨knm i,lo,lo+r,idF idl::(f1++(f2++(p1++(p2++tt))))⟩/\RefQ ks i f1 /\
 (f2=[]\/(0<i/\f2=[byN]))/\PlainF p1/\PlainF p2/\(p2=[]\/∃ g gs,p2=g::gs/\ao6 (idF idl::(f1++(f2++p1))) g.name<0)/\TotQ ks i tt
def Ext (ks ks':List Knd):Prop:=∀ (i:Nat) (y:Knd),ks[i]?=some y->∃ y',ks'[i]?=some y'/\∃ t,y'.fields=y.fields++t/\∀ g∈t,g.kind≠7
theorem ba7 {y y':Knd} {t:List Fld} (h:y'.fields=y.fields++t) {n:Nat} {g:Fld} (hg:y.fields[n]?=some g):y'.fields[n]?=some g:=by
 rw [h,yP (zE.1 hg).1];exact hg
theorem PartTo.ext {y y':Knd} {t:List Fld} {i:Nat} (h:PartTo y i) (e:y'.fields=y.fields++t) (ht:∀ g∈t,g.kind≠7):PartTo y' i:=by
 obtain⟨n,lo,hi,a,b,h1,h2,h3,h4⟩:=h;refine⟨n,lo,hi,a,b,ba7 e h1,h2,ba7 e h3,fun n' g hg hk=>?_⟩;rw [e] at hg;by_cases hl:n' < y.fields.length
 ·rw [yP hl] at hg;exact h4 n' g hg hk
 ·rw [yK (by omega)] at hg;exact absurd hk (ht g (zG hg))
theorem SmQ.ext {ks ks':List Knd} {t:Nat} {sm:List Fld} (h:SmQ ks t sm) (e:Ext ks ks'):SmQ ks' t sm:=by
 rcases h with rfl|⟨y,n,g,h1,h2,h3,h4⟩
 ·exact .inl rfl
 ·obtain⟨y',g1,_,g2,_⟩:=e t y h1;exact .inr ⟨y',n,g,g1,ba7 g2 h2,h3,h4⟩
theorem PtQ.ext {ks ks':List Knd} {t i:Nat} {sm:List Fld} (h:PtQ ks t i sm) (e:Ext ks ks'):PtQ ks' t i sm:=by
 rcases h with rfl|⟨a,b,y,n,ha,hb,h1,h2,h3⟩
 ·exact .inl rfl
 ·obtain⟨y',g1,_,g2,_⟩:=e t y h1;exact .inr ⟨a,b,y',n,ha,hb,g1,ba7 g2 h2,h3⟩
theorem RefQ.ext {ks ks':List Knd} {i:Nat} {f1:List Fld} (h:RefQ ks i f1) (e:Ext ks ks'):RefQ ks' i f1:=by
 rcases h with rfl|⟨t,lo,hi,sm,pt,h1,h2,h3,h4,h5,h6⟩
 ·exact .inl rfl
 ·exact .inr ⟨t,lo,hi,sm,pt,h1,h2,h3,h4.ext e,h5.ext e,h6⟩
theorem TotQ.ext {ks ks':List Knd} {i:Nat} {tt:List Fld} (h:TotQ ks i tt) (e:Ext ks ks'):TotQ ks' i tt:=by
 rcases h with rfl|⟨j,kj,h1,h2,h3,h4⟩
 ·exact .inl rfl
 ·obtain⟨y',g1,_,g2,g3⟩:=e j kj h2;exact .inr ⟨j,y',h1,g1,h3.ext g2 g3,h4⟩
theorem KForm.ext {ks ks':List Knd} {i:Nat} {k:Knd} (h:KForm ks i k) (e:Ext ks ks'):KForm ks' i k:=by
 obtain⟨lo,r,idl,f1,f2,p1,p2,tt,h1,h2,h3,h4,h5,h6,h7,h8,h9,h10⟩:=h;exact⟨lo,r,idl,f1,f2,p1,p2,tt,h1,h2,h3,h4,h5.ext e,h6,h7,h8,h9,h10.ext e⟩
theorem KForm.name {ks:List Knd} {i:Nat} {k:Knd} (h:KForm ks i k):k.name=knm i:=by
 obtain⟨lo,r,idl,f1,f2,p1,p2,tt,h1,h2,h3,h4,_⟩:=h;rw [h4]
theorem PlainF.kd {fs:List Fld} (h:PlainF fs):∀ f∈fs,f.kind=2\/f.kind=3\/f.kind=4\/f.kind=5:=by
 cases h<;>simp
theorem cv6 {A B:List Fld} {c:Fld} (hA:∀ g∈A,g.kind≠7) (hB:∀ g∈B,g.kind≠7) {n:Nat} {g:Fld} (h:(A++c::B)[n]?=some g) (hk:g.kind=7):n=A.length:=by
 by_cases h1:n<A.length
 ·rw [yP h1] at h;exact absurd hk (hA g (zG h))
 ·rw [yK (by omega)] at h;by_cases h2:n-A.length=0
  ·omega
  ·obtain⟨m,hm⟩:∃ m,n-A.length=m+1:=⟨n-A.length-1,by omega⟩
   rw [hm,List.getElem?_cons_succ] at h;exact absurd hk (hB g (zG h))
theorem bs6 (ks:List Knd) (k:Knd):Ext ks (ks++[k]):=fun i y h=>⟨y,by rw [yP (zE.1 h).1];exact h,[],by simp,by simp⟩
theorem cg6 (ks:List Knd) (tw:Nat) (y:Knd) (k:Knd) (nm:ByteArray) (hy:ks[tw]?=some y):Ext ks (ks.set tw ⟨y.name,y.lo,y.hi,y.fields++[totF nm]⟩++[k]):=fun i z h=>by
 have hl:=(zE.1 h).1;rw [yP (by rw [yR];exact hl)];by_cases e:i=tw
 ·subst e;rw [hy] at h;cases h
  exact⟨_,xI hl,[totF nm],rfl,fun g hg=>by rw [zN] at hg;subst hg;show (6:Int)≠7;decide⟩
 ·rw [wN (Ne.symm e)];exact⟨z,h,[],by simp,by simp⟩
theorem bU7 {ks:List Knd} {t:Nat} {y:Knd} {sm:List Fld} (hy:ks[t]?=some y) (hs:sm=[]\/∃ g,0<=as0 y/\y.fields[(as0 y).toNat]?=some g/\sm=[au9 g.name]):SmQ ks t sm:=by
 rcases hs with rfl|⟨g,h1,h2,h3⟩
 ·exact .inl rfl
 ·exact .inr ⟨y,_,g,hy,h2,bP7 (p:=fun f:Fld=>aq9 f.kind) h1 h2,h3⟩
theorem KChain.form {ks:List Knd} (h:KChain ks):∀ (i:Nat) k,ks[i]?=some k->KForm ks i k:=by
 induction h with
 | nil=>intro i k h;simp at h
 | @step ks ks' k h m l ih=>
  obtain⟨lo,r,idl,f1,f2,p1,p2,hlo,hr,hid,rfl,hR,hf2,hp1,hp2,hp2n⟩:=m.ex;have hf2':f2=[]\/(0<ks.length/\f2=[byN]):=by
   rcases hf2 with rfl|⟨y,hy,hl,rfl⟩
   ·exact .inl rfl
   ·exact .inr ⟨by omega,by rw [byF,byN,(ih 0 y hy).name]⟩
  have ofn:∀ {t:Nat} {y:Knd} (lo hi:Int),ks[t]?=some y->ofF y lo hi=ofN t lo hi:=fun lo hi hy=>by rw [ofF,ofN,(ih _ _ hy).name]
  cases hR with
  | none hks=>
   subst hks;intro i k hk;have hi:i=0:=by have:=(zE.1 hk).1;simp at this;omega
   subst hi;rw [List.nil_append,List.getElem?_cons_zero] at hk
   cases hk
   exact⟨lo,r,idl,[],f2,p1,p2,[],hlo,hr,hid,by simp,.inl rfl,hf2',hp1,hp2,hp2n,.inl rfl⟩
  | of tw y lo1 hi1 sm hy hl1 hh1 hs=>
   intro i k hk;by_cases hi:i<ks.length
   ·rw [yP hi] at hk;exact (ih i k hk).ext (bs6 _ _)
   ·have hi:i=ks.length:=by have:=(zE.1 hk).1;rw [zI,List.length_singleton] at this;omega
    subst hi;rw [yK (zT _),wH,List.getElem?_cons_zero] at hk
    cases hk
    refine⟨lo,r,idl,_,f2,p1,p2,[],hlo,hr,hid,by simp,.inr ⟨tw,lo1,hi1,sm,[],(zE.1 hy).1,hl1,hh1,(bU7 hy hs).ext (bs6 _ _),.inl rfl,by rw [ofn _ _ hy];simp⟩,hf2',hp1,hp2,hp2n,.inl rfl⟩
  | part tw y lo1 hi1 a b sm hy hl1 hh1 hs ht ha hb=>
   have hto:=(zE.1 hy).1;have hE:=cg6 ks tw y ⟨knm ks.length,lo,lo+r,idF idl::(ofF y lo1 hi1::(sm++[am3 a b])++(f2++(p1++p2)))⟩ (knm ks.length) hy;have hsm7:∀ g∈sm,g.kind≠7:=by
    rcases hs with rfl|⟨g,_,_,rfl⟩
    ·simp
    ·intro g hg;rw [zN] at hg;subst hg;show (8:Int)≠7;decide
   have hrest7:∀ g∈f2++(p1++p2),g.kind≠7:=by
    intro g hg;rcases zO.1 hg with hg|hg
    ·rcases hf2' with rfl|⟨_,rfl⟩
     ·cases hg
     ·rw [zN] at hg;subst hg;show (1:Int)≠7;decide
    ·rcases zO.1 hg with hg|hg
     ·have:=hp1.kd g hg;omega
     ·have:=hp2.kd g hg;omega
   have hP:PartTo ⟨knm ks.length,lo,lo+r,idF idl::(ofF y lo1 hi1::(sm++[am3 a b])++(f2++(p1++p2)))⟩ tw:=by
    have hF:idF idl::(ofF y lo1 hi1::(sm++[am3 a b])++(f2++(p1++p2)))=(idF idl::ofN tw lo1 hi1::sm)++am3 a b::(f2++(p1++p2)):=by rw [ofn _ _ hy];simp
    refine⟨(idF idl::ofN tw lo1 hi1::sm).length,lo1,hi1,a,b,by rw [hF];rfl,by simp,by show (idF idl::_)[_]?=_;rw [hF,yK (zT _),wH];rfl,fun n' g hg hk=>?_⟩;change (idF idl::_)[n']?=_ at hg;rw [hF] at hg;refine cv6 (fun g hg=>?_) hrest7 hg hk;rcases zU.1 hg with rfl|hg
    ·show (0:Int)≠7;decide
    ·rcases zU.1 hg with rfl|hg
     ·show (1:Int)≠7;decide
     ·exact hsm7 g hg
   intro i k hk;by_cases hi:i<ks.length
   ·have hk':=hk;rw [yP (by rw [yR];exact hi)] at hk;by_cases e:i=tw
    ·subst e;rw [xI hi] at hk
     cases hk
     obtain⟨lo2,r2,idl2,g1,g2,q1,q2,tt,h1,h2,h3,h4,h5,h6,h7,h8,h9,h10⟩:=ih i y hy;have htt:tt=[]:=by
      rcases h10 with rfl|⟨j,kj,_,_,_,rfl⟩
      ·rfl
      ·exact absurd rfl (bG7 ht (totF (knm j)) (by rw [h4];simp))
     subst htt;refine⟨lo2,r2,idl2,g1,g2,q1,q2,[totF (knm ks.length)],h1,h2,h3,by rw [h4];simp,h5.ext hE,h6,h7,h8,h9,.inr ⟨ks.length,_,hi,by rw [yK (by rw [yR];exact zT _),yR,wH];rfl,hP,rfl⟩⟩
    ·rw [wN (Ne.symm e)] at hk;exact (ih i k hk).ext hE
   ·have hi:i=ks.length:=by have:=(zE.1 hk).1;rw [zI,yR,List.length_singleton] at this;omega
    subst hi;rw [yK (by rw [yR];exact zT _),yR,wH,List.getElem?_cons_zero] at hk
    cases hk
    refine⟨lo,r,idl,_,f2,p1,p2,[],hlo,hr,hid,by simp,.inr ⟨tw,lo1,hi1,sm,[am3 a b],hto,hl1,hh1,(bU7 hy hs).ext hE,.inr ⟨a,b,⟨y.name,y.lo,y.hi,y.fields++[totF (knm ks.length)]⟩,y.fields.length,ha,hb,?_,?_,rfl⟩,by rw [ofn _ _ hy]⟩,hf2',hp1,hp2,hp2n,.inl rfl⟩
    ·rw [yP (by rw [yR];exact hto)];exact xI hto
    ·show (y.fields++[_])[_]?=_;rw [yK (zT _),wH];rfl
end
section
open Go
theorem RefQ.nms {ks:List Knd} {i:Nat} {f1:List Fld} (h:RefQ ks i f1):(f1.map Fld.name).Sublist [nOf,bw6,bw7]:=by
 rcases h with rfl|⟨t,lo,hi,sm,pt,_,_,_,hs,hp,rfl⟩
 ·simp
 ·rcases hs with rfl|⟨y,n,g,_,_,_,rfl⟩<;>rcases hp with rfl|⟨a,b,y2,n2,_,_,_,_,rfl⟩<;>simp [ofN,au9,am3]
theorem TotQ.nms {ks:List Knd} {i:Nat} {tt:List Fld} (h:TotQ ks i tt):(tt.map Fld.name).Sublist [ar9]:=by
 rcases h with rfl|⟨j,kj,_,_,_,rfl⟩<;>simp [totF]
theorem KForm.nodup {ks:List Knd} {i:Nat} {k:Knd} (h:KForm ks i k):(k.fields.map Fld.name).Nodup:=by
 obtain⟨lo,r,idl,f1,f2,p1,p2,tt,h1,h2,h3,rfl,h5,h6,h7,h8,h9,h10⟩:=h;have s1:=h5.nms;have s2:(f2.map Fld.name).Sublist [nBy]:=by rcases h6 with rfl|⟨_,rfl⟩<;>simp [byN]
 have s3:=h10.nms;have hS:(([nId]++(f1.map Fld.name++(f2.map Fld.name++(p1.map Fld.name++(p2.map Fld.name++tt.map Fld.name)))))).Sublist ([nId]++([nOf,bw6,bw7]++([nBy]++(p1.map Fld.name++(p2.map Fld.name++[ar9]))))):=
  (xQ _).append (s1.append (s2.append ((xQ _).append ((xQ _).append s3))))
 have hQ:∀ f∈p1,∀ g gs,p2=g::gs->f.name≠g.name:=by
  intro f hf g gs e;rcases h9 with h9|⟨g',gs',e',hn⟩
  ·rw [h9] at e;cases e
  ·rw [e'] at e;cases e
   exact bG7 hn f (by simp [hf])
 have hD:([nId]++([nOf,bw6,bw7]++([nBy]++(p1.map Fld.name++(p2.map Fld.name++[ar9]))))).Nodup:=by
  cases h7<;>cases h8<;>first|(simp only [List.map_cons,List.map_nil];decide)|exact (hQ _ yN _ _ rfl rfl).elim
 refine List.Sublist.nodup (l₁:=_) ?_ hD
 simpa [idF] using hS
structure HX (x:Sch):Prop where
 nk:x.kz.length<=3
 form:∀ (i:Nat) k,x.kz[i]?=some k->KForm x.kz i k
 kd:∀ k∈x.kz,∀ f∈k.fields,0<=f.kind
 life:x.lz.any (fun l=>seq l.name nLife)=true
theorem cr0 {i t:Nat} (h:i<t) (ht:t<=2):seq (knm i) (knm t)=false:=by
 obtain rfl|rfl:t=1\/t=2:=by omega
 ·obtain rfl:i=0:=by omega
  decide +kernel
 ·obtain rfl|rfl:i=0\/i=1:=by omega
  ·decide +kernel
  ·decide +kernel
variable {x:Sch} (H:HX x)
include H
theorem HX.kix {t:Nat} {y:Knd} (h:x.kz[t]?=some y):aa9 x (knm t)=t:=
 ad3 h (by rw [(H.form t y h).name];exact as3 _) fun i z hi hz=>by
  rw [(H.form i z hz).name];exact cr0 hi (by have:=(zE.1 h).1;have:=H.nk;omega)
omit H in
theorem kat {i:Nat} {k:Knd} (hk:x.kz[i]?=some k):af6 x i=some k:=by simp [af6,hk]
omit H in
theorem fat {i:Nat} {k:Knd} (hk:x.kz[i]?=some k) (j:Nat):fieldAt x i j=k.fields[j]?:=by simp [fieldAt,af6,hk]
theorem HX.refUp {i t:Nat} {y:Knd} {f:Fld} (hy:x.kz[t]?=some y) (hti:t<i) (ho:f.of=knm t):refUp x i f=t:=by
 rw [Go.Proofs.YtlcfiilejnnlnaaGreatDoor.refUp,ho,H.kix hy,if_pos (by omega)]
theorem HX.up1 {i t j:Nat} {k y:Knd} {f:Fld} (hk:x.kz[i]?=some k) (hf:k.fields[j]?=some f) (hy:x.kz[t]?=some y) (hti:t<i) (h1:f.kind=1) (ho:f.of=knm t):upIx x i j=t:=by
 rw [aW4 ((fat hk j).trans hf) (kat hk),if_neg (by rw [h1];decide),if_pos h1,H.refUp hy hti ho]
theorem HX.up7 {i t j:Nat} {k y:Knd} {f:Fld} {lo hi:Int} (hk:x.kz[i]?=some k) (hf:k.fields[j]?=some f) (hy:x.kz[t]?=some y) (hti:t<i) (h7:f.kind=7\/f.kind=8) (ho:f.up=nOf) (h1:k.fields[1]?=some (ofN t lo hi)) (hj:1<j):upIx x i j=t:=by
 have e1:aa4 k f.up=((1:Nat):Int):=by rw [ho];exact aV0 (H.form i k hk).nodup h1
 rw [aW4 ((fat hk j).trans hf) (kat hk),if_pos h7,e1,fat hk 1,h1,aO8,if_pos ⟨by omega,rfl⟩,aB8,H.refUp hy hti rfl]
omit H in
theorem HX.below {i t:Nat} {k:Knd} (hk:x.kz[i]?=some k) (hti:t<i):∃ y,x.kz[t]?=some y:=⟨_,zD (by have:=(zE.1 hk).1;omega)⟩
omit H in
theorem cm1 {l:List Nat} {c:Nat} (hn:l.Nodup) (h1:∀ a∈l,a=c) (h2:c∈l):l.length=1:=by
 match l,hn,h1,h2 with
 | [a],_,_,_=>rfl
 | a::b::r,hn,h1,_=>
  have e1:=h1 a (by simp);have e2:=h1 b (by simp);simp [e1,e2] at hn
theorem HX.shares {i j:Nat} {k kj:Knd} (hk:x.kz[i]?=some k) (hij:i<j) (hkj:x.kz[j]?=some kj) (hP:PartTo kj i):(aA5 x i (totF (knm j))).length=1:=by
 obtain⟨n,lo,hi,a,b,g1,g2,g3,g4⟩:=hP;have e:aa9 x (totF (knm j)).of=j:=H.kix hkj;rw [aA5,e,kat hkj];simp only [zL];refine cm1 (c:=n) (List.Pairwise.filter _ List.nodup_range) (fun m hm=>?_) ?_
 ·obtain⟨_,hq⟩:=vP.1 hm
  cases hg:kj.fields[m]? with
  | none=>rw [hg] at hq;cases hq
  | some g=>
   rw [hg] at hq;simp only [zJ,zQ] at hq;exact g4 m g hg hq.1.1
 ·refine vP.2 ⟨xT.2 (zE.1 g3).1,?_⟩;rw [g3];simp only [zJ,zQ];exact⟨⟨rfl,as3 _⟩,H.up7 hkj g3 hk hij (.inl rfl) rfl g1 g2⟩
omit H in
theorem bY4 {F:List Fld} (hN:(F.map Fld.name).Nodup) {A B:List Fld} {c:Fld} (hF:F=A++c::B) {j:Nat} {f:Fld} (hf:F[j]?=some f) (e:f.name=c.name):j=A.length/\f=c:=by
 have hc:F[A.length]?=some c:=by rw [hF,yK (zT _),wH];rfl
 have:=cy1 hN hf hc e;subst this;rw [hf] at hc;cases hc
 exact⟨rfl,rfl⟩
theorem HX.plain {i j:Nat} {k:Knd} {A p B:List Fld} {f:Fld} (hk:x.kz[i]?=some k) (hp:PlainF p) (hF:k.fields=A++(p++B)) (hf:k.fields[j]?=some f) (hm:f∈p):ac9 x i j f=0:=by
 have hN:=(H.form i k hk).nodup
 cases hp with
 | none=>cases hm
 | size a b ha hb=>rw [zN] at hm;subst hm;simp [ac9]
 | tag n ws hn hw h0 h1=>rw [zN] at hm;subst hm;simp [ac9]
 | low a b c d ha hb hc hd=>
  simp only [zU,yF,xE] at hm;rcases hm with rfl|rfl<;>simp [ac9]
 | state a b ha hb=>
  rw [zN] at hm;subst hm;simp only [ac9];rw [if_neg (by simp),if_neg (by simp),if_neg (by simp),if_neg (by simp),if_pos trivial,if_pos H.life]
 | born a b c d ha hb hc hd=>
  simp only [zU,yF,xE] at hm;rcases hm with rfl|rfl
  ·simp only [ac9];rw [if_neg (by simp),if_neg (by simp),if_neg (by simp),if_pos trivial,dayE,kat hk];simp only;rw [if_pos (by decide +kernel)]
  ·obtain⟨rfl,_⟩:=bY4 hN (A:=A++[⟨aK2,nE,nE,4,a,a+b,[],[]⟩]) (B:=B) (c:=⟨cd7,aK2,nE,4,c,3+d,[],[]⟩) (by rw [hF];simp) hf rfl;have hb:k.fields[A.length]?=some ⟨aK2,nE,nE,4,a,a+b,[],[]⟩:=by rw [hF,yK (zT _),wH];rfl
   have e1:aa4 k aK2=A.length:=aV0 hN hb;simp only [ac9];rw [if_neg (by simp),if_neg (by simp),if_neg (by simp),if_pos trivial,dayE,kat hk];simp only;rw [if_neg (by decide +kernel),e1,if_neg (by simp;omega),Int.toNat_natCast,hb]
   rfl
theorem HX.leads {i j:Nat} {k:Knd} {f:Fld} (hk:x.kz[i]?=some k) (hf:k.fields[j]?=some f):ac9 x i j f=0:=by
 have hN:=(H.form i k hk).nodup;have hF:=H.form i k hk;have hmf:=zG hf;obtain⟨lo,r,idl,f1,f2,p1,p2,tt,h1,h2,h3,h4,h5,h6,h7,h8,h9,h10⟩:=hF;have hK:k.fields=idF idl::(f1++(f2++(p1++(p2++tt)))):=by rw [h4]
 have hmf2:=hmf;rw [hK] at hmf2;rcases zU.1 hmf2 with rfl|hm
 ·obtain⟨rfl,_⟩:=bY4 hN (A:=[]) (c:=idF idl) hK hf rfl;simp [ac9,idF]
 rcases zO.1 hm with hm|hm
 ·rcases h5 with rfl|⟨t,lo1,hi1,sm,pt,hti,hl1,hh1,hs,hp,rfl⟩
  ·cases hm
  obtain⟨y,hy⟩:=HX.below hk hti;have hof:k.fields[1]?=some (ofN t lo1 hi1):=by rw [hK];rfl
  rcases zU.1 hm with rfl|hm
  ·simp only [ac9];rw [H.up1 hk hf hy hti rfl rfl,if_neg (by simp [ofN]),if_neg (by simp [ofN]),if_pos (by simp [ofN]),if_neg (by omega)]
  have hj:1<j:=by
   refine Nat.lt_of_not_le fun hle=>?_;have h01:j=0\/j=1:=by omega
   rcases h01 with rfl|rfl
   ·rw [hK] at hf;cases hf
    rcases zO.1 hm with hm|hm
    ·rcases hs with rfl|⟨_,_,_,_,_,_,rfl⟩
     ·cases hm
     ·rw [zN] at hm;cases hm
    ·rcases hp with rfl|⟨_,_,_,_,_,_,_,_,rfl⟩
     ·cases hm
     ·rw [zN] at hm;cases hm
   ·rw [hof] at hf;cases hf
    rcases zO.1 hm with hm|hm
    ·rcases hs with rfl|⟨_,_,_,_,_,_,rfl⟩
     ·cases hm
     ·rw [zN] at hm;cases hm
    ·rcases hp with rfl|⟨_,_,_,_,_,_,_,_,rfl⟩
     ·cases hm
     ·rw [zN] at hm;cases hm
  rcases zO.1 hm with hm|hm
  ·rcases hs with rfl|⟨y',n,g,hy',hg,hpk,rfl⟩
   ·cases hm
   rw [hy] at hy';cases hy'
   rw [zN] at hm;subst hm;have hu:=H.up7 hk hf hy hti (.inr rfl) rfl hof hj;have hg0:=H.kd y (zG hy) g (zG hg);have hx:aa4 y g.name=n:=aV0 (H.form t y hy).nodup hg;simp only [aq9,zJ,xJ,xF] at hpk;have ha:abvR x i j (au9 g.name)=(g.kind,g):=by
    unfold abvR topF;rw [hu,if_neg (by omega),kat hy];simp only [au9];rw [hx,fat hy,hg]
   simp only [ac9];rw [if_neg (by simp [au9]),if_neg (by simp [au9]),if_neg (by simp [au9]),if_neg (by simp [au9]),if_neg (by simp [au9]),if_neg (by simp [au9]),hu,aR5,if_neg (by omega),if_neg (by simp [au9]),ha,if_neg (by simp only;omega)]
  ·rcases hp with rfl|⟨a,b,y',n,_,_,hy',hg,rfl⟩
   ·cases hm
   rw [hy] at hy';cases hy'
   rw [zN] at hm;subst hm;have hu:=H.up7 hk hf hy hti (.inl rfl) rfl hof hj;have hx:aa4 y ar9=n:=aV0 (f:=totF (knm i)) (H.form t y hy).nodup hg;have ha:abvR x i j (am3 a b)=(6,totF (knm i)):=by
    unfold abvR topF;rw [hu,if_neg (by omega),kat hy];simp only [am3];rw [hx,fat hy,hg]
    rfl
   simp only [ac9];rw [if_neg (by simp [am3]),if_neg (by simp [am3]),if_neg (by simp [am3]),if_neg (by simp [am3]),if_neg (by simp [am3]),if_neg (by simp [am3]),hu,aR5,if_neg (by omega),if_pos (by simp [am3]),ha,if_pos ⟨rfl,H.kix hk⟩]
 rcases zO.1 hm with hm|hm
 ·rcases h6 with rfl|⟨hi0,rfl⟩
  ·cases hm
  rw [zN] at hm;subst hm;obtain⟨y,hy⟩:=HX.below hk hi0;simp only [ac9];rw [H.up1 hk hf hy hi0 rfl rfl,if_neg (by simp [byN]),if_neg (by simp [byN]),if_pos (by simp [byN]),if_neg (by omega)]
 rcases zO.1 hm with hm|hm
 ·exact H.plain hk h7 (A:=idF idl::(f1++f2)) (B:=p2++tt) (by rw [hK];simp) hf hm
 rcases zO.1 hm with hm|hm
 ·exact H.plain hk h8 (A:=idF idl::(f1++(f2++p1))) (B:=tt) (by rw [hK];simp) hf hm
 ·rcases h10 with rfl|⟨j',kj,hij,hkj,hP,rfl⟩
  ·cases hm
  rw [zN] at hm;subst hm;have e:aa9 x (totF (knm j')).of=j':=H.kix hkj;have hno:aw6 x i (totF (knm j'))=false:=by
   rw [aw6,e];simp [totF];omega
  simp only [ac9];rw [if_neg (by simp [totF]),if_neg (by simp [totF]),if_neg (by simp [totF]),if_neg (by simp [totF]),if_neg (by simp [totF]),if_pos (by simp [totF]),au7,hno];simp only [wG,uC];rw [e,if_neg (by omega),if_pos (H.shares hk hij hkj hP)]
end
section
open Go
theorem GenX.hx {x:Sch} (h:GenX x):HX x where
 nk:=h.nk.2
 form:=h.ks.form
 kd:=fun k hk f hf=>((h.cls.ks k hk).fs f hf).kd.1
 life:=by
  obtain⟨m,mv,_,_,hl,_⟩:=h.ls;rw [hl];simp [as3]
theorem be3 {t:Nat} (h:t<=2):isNm (knm t)=true:=by
 obtain rfl|rfl|rfl:t=0\/t=1\/t=2:=by omega
 all_goals decide +kernel
theorem eNE:isE nE=true:=by decide +kernel
theorem PlainF.ok {p:List Fld} (h:PlainF p):∀ f∈p,ab2 f=true:=by
 cases h with
 | none=>simp
 | size a b ha hb=>
  intro f hf;rw [zN] at hf;subst hf
  (simp only [ab2,zJ];refine⟨⟨by decide +kernel,?_⟩,?_⟩)
  ·(simp [ap3,ae1,ae0,ae3,ae2,ac5,eNE])
  ·simp [am4,ap2];omega
 | tag n ws hn hw h0 h1=>
  intro f hf;rw [zN] at hf;subst hf
  (simp only [ab2,zJ];refine⟨⟨by decide +kernel,?_⟩,?_⟩)
  ·(simp [ap3,ae1,ae0,ae3,ae2,ac5,eNE])
  ·have hs:0<ws.sum:=by
    obtain⟨w,hw1,hw2⟩:=h1;clear hw
    induction ws with
    | nil=>cases hw1
    | cons z zs ih=>
     have hz:=h0 z (by simp);have hnn:∀ l:List Int,(∀ w∈l,0<=w/\w<=4)->0<=l.sum:=fun l=>by
      induction l with
      | nil=>simp
      | cons q l ih=>intro hl;have:=hl q (by simp);have:=ih fun w hw=>hl w (by simp [hw]);simp;omega
     rw [List.sum_cons];rcases zU.1 hw1 with rfl|hw1
     ·have:=hnn zs fun w hw=>h0 w (by simp [hw]);omega
     ·have:=ih (fun w hw=>h0 w (by simp [hw])) hw1;omega
   have hg:ws.all (fun n=>aa3 n 0 1048576)=true:=by
    rw [yA];intro w hw;have:=h0 w hw;simp [aa3];omega
   have hwd:([nRed,aP4,bk0].take n).all isNm=true:=by
    rw [yA];intro w hw;have:=xG hw;simp only [zU,yF,xE] at this;rcases this with rfl|rfl|rfl<;>decide +kernel
   have hl:([nRed,aP4,bk0].take n).length=n:=by rw [zR];simp;omega
   simp only [am4];rw [if_neg (by simp),if_neg (by simp),if_neg (by simp),if_pos trivial,ag1,hg,hwd,hl,hw];simp [aa3];omega
 | born a b c d ha hb hc hd=>
  intro f hf;simp only [zU,yF,xE] at hf;rcases hf with rfl|rfl
  ·(simp only [ab2,zJ];refine⟨⟨by decide +kernel,?_⟩,?_⟩)
   ·(simp [ap3,ae1,ae0,ae3,ae2,ac5,eNE])
   ·simp [am4,ap2,eNE];omega
  ·(simp only [ab2,zJ];refine⟨⟨by decide +kernel,?_⟩,?_⟩)
   ·(simp [ap3,ae1,ae0,ae3,ae2,ac5,eNE])
   ·have:isNm aK2=true:=by decide +kernel
    simp [am4,ap2,this];omega
 | state a b ha hb=>
  intro f hf;rw [zN] at hf;subst hf
  (simp only [ab2,zJ];refine⟨⟨by decide +kernel,?_⟩,?_⟩)
  ·(simp [ap3,ae1,ae0,ae3,ae2,ac5,eNE])
  ·have:isNm nLife=true:=by decide +kernel
   simp [am4,ap2,this];omega
 | low a b c d ha hb hc hd=>
  intro f hf;simp only [zU,yF,xE] at hf;rcases hf with rfl|rfl
  ·(simp only [ab2,zJ];refine⟨⟨by decide +kernel,?_⟩,?_⟩)
   ·(simp [ap3,ae1,ae0,ae3,ae2,ac5,eNE])
   ·simp [am4,ap2];omega
  ·(simp only [ab2,zJ];refine⟨⟨by decide +kernel,?_⟩,?_⟩)
   ·(simp [ap3,ae1,ae0,ae3,ae2,ac5,eNE])
   ·simp [am4,ap2];omega
theorem PlainF.nm {p:List Fld} (h:PlainF p):∀ f∈p,isNm f.name=true:=fun f hf=>by
 have:=h.ok f hf;simp only [ab2,zJ] at this;exact this.1.1
def vX:=@List.mem_map_of_mem
theorem KForm.nms {ks:List Knd} {i:Nat} {k:Knd} (h:KForm ks i k):∀ f∈k.fields,isNm f.name=true:=by
 obtain⟨lo,r,idl,f1,f2,p1,p2,tt,h1,h2,h3,rfl,h5,h6,h7,h8,h9,h10⟩:=h;intro f hf;rcases zU.1 hf with rfl|hf
 ·show isNm nId=true;decide +kernel
 rcases zO.1 hf with hf|hf
 ·have:=(h5.nms).subset (vX (f:=Fld.name) hf);simp only [zU,yF,xE] at this;rcases this with e|e|e<;>rw [e]<;>decide +kernel
 rcases zO.1 hf with hf|hf
 ·rcases h6 with rfl|⟨_,rfl⟩
  ·cases hf
  ·rw [zN] at hf;subst hf;show isNm nBy=true;decide +kernel
 rcases zO.1 hf with hf|hf
 ·exact h7.nm f hf
 rcases zO.1 hf with hf|hf
 ·exact h8.nm f hf
 ·have:=(h10.nms).subset (vX (f:=Fld.name) hf);simp only [zU,yF,xE] at this;rw [this];decide +kernel
theorem HX.field {x:Sch} (H:HX x) {i:Nat} {k:Knd} (hk:x.kz[i]?=some k):∀ f∈k.fields,ab2 f=true:=by
 have hF:=H.form i k hk;have hil:i<=2:=by have:=(zE.1 hk).1;have:=H.nk;omega
 have hnm:=hF.nms;obtain⟨lo,r,idl,f1,f2,p1,p2,tt,h1,h2,h3,rfl,h5,h6,h7,h8,h9,h10⟩:=hF;intro f hf;have hn:=hnm f hf;rcases zU.1 hf with rfl|hf
 ·simp only [ab2,hn,Bool.true_and,zJ];refine⟨by simp [ap3,ae1,ae0,ae3,ae2,ac5,eNE,idF],?_⟩;simp only [zU,yF,xE] at h3;rcases h3 with rfl|rfl|rfl|rfl<;>simp [am4,idF,aa3]
 rcases zO.1 hf with hf|hf
 ·rcases h5 with rfl|⟨t,lo1,hi1,sm,pt,hti,hl1,hh1,hs,hp,rfl⟩
  ·cases hf
  rcases zU.1 hf with rfl|hf
  ·simp only [ab2,hn,Bool.true_and,zJ];refine⟨by simp [ap3,ae1,ae0,ae3,ae2,ac5,eNE,ofN],?_⟩;have:=be3 (t:=t) (by omega);simp only [zU,yF,xE] at hh1;rcases hl1 with rfl|rfl<;>rcases hh1 with rfl|rfl|rfl|rfl<;>simp [am4,ofN,this,ap2]
  have eof:isNm nOf=true:=by decide +kernel
  have ett:isNm ar9=true:=by decide +kernel
  rcases zO.1 hf with hf|hf
  ·rcases hs with rfl|⟨y,n,g,hy,hg,hpk,rfl⟩
   ·cases hf
   rw [zN] at hf;subst hf;have:=(H.form t y hy).nms g (zG hg);simp only [ab2,hn,Bool.true_and,zJ];exact⟨by simp [ap3,ae1,ae0,ae3,ae2,ac5,eNE,au9],by simp [am4,au9,this,eof]⟩
  ·rcases hp with rfl|⟨a,b,y,n,ha,hb,hy,hg,rfl⟩
   ·cases hf
   rw [zN] at hf;subst hf;simp only [ab2,hn,Bool.true_and,zJ];exact⟨by simp [ap3,ae1,ae0,ae3,ae2,ac5,eNE,am3],by simp [am4,am3,ett,eof,ap2];exact⟨yJ (by omega),yJ (by omega),yJ (by omega)⟩⟩
 rcases zO.1 hf with hf|hf
 ·rcases h6 with rfl|⟨_,rfl⟩
  ·cases hf
  ·rw [zN] at hf;subst hf;have:=be3 (t:=0) (by omega);simp only [ab2,hn,Bool.true_and,zJ];exact⟨by simp [ap3,ae1,ae0,ae3,ae2,ac5,eNE,byN],by simp [am4,byN,this,ap2]⟩
 rcases zO.1 hf with hf|hf
 ·exact h7.ok f hf
 rcases zO.1 hf with hf|hf
 ·exact h8.ok f hf
 ·rcases h10 with rfl|⟨j,kj,hij,hkj,hP,rfl⟩
  ·cases hf
  ·rw [zN] at hf;subst hf;have:=be3 (t:=j) (by have:=(zE.1 hkj).1;have:=H.nk;omega);simp only [ab2,hn,Bool.true_and,zJ];exact⟨by simp [ap3,ae1,ae0,ae3,ae2,ac5,eNE,totF],by simp [am4,totF,this]⟩
def bT9 (n:ByteArray) (t:Nat):Prop:=n=aP3++(knm t).extract 0 1\/n=be4++(knm t).extract 0 1\/n=aJ3++(knm t).extract 0 1
theorem bL6 {a b:ByteArray} {s t:Nat} (hst:s<t) (ht:t<=2) (h:bT9 a s) (k:bT9 b t):a≠b:=by
 obtain⟨rfl,rfl⟩|⟨rfl,rfl⟩|⟨rfl,rfl⟩:(s=0/\t=1)\/(s=0/\t=2)\/(s=1/\t=2):=by omega
 all_goals rcases h with rfl|rfl|rfl<;>rcases k with rfl|rfl|rfl<;>decide +kernel
theorem bL5 {a:ByteArray} {t:Nat} (ht:t<=2) (h:bT9 a t):isNm a=true:=by
 obtain rfl|rfl|rfl:t=0\/t=1\/t=2:=by omega
 all_goals rcases h with rfl|rfl|rfl<;>decide +kernel
theorem RuleF.rn {k:Knd} {r:Rul} {t:Nat} (h:RuleF k r) (hn:k.name=knm t):bT9 r.name t:=by
 cases h with
 | low n h hn'=>exact .inl (by rw [hn])
 | most f n h hf hn'=>exact .inr (.inl (by rw [hn]))
 | least f n h hf hn'=>exact .inr (.inr (by rw [hn]))
theorem RChain.facts {ks:List Knd} {i:Nat} {rs:List Rul} (h:RChain ks i rs) (hN:∀ (t:Nat) y,ks[t]?=some y->y.name=knm t) (hl:ks.length<=3) :
  rs.Pairwise (fun a b=>a.name≠b.name)/\∀ r∈rs,∃ t k,t<i/\ks[t]?=some k/\RuleF k r:=by
 induction h with
 | nil=>simp
 | skip h ih=>exact⟨ih.1,fun r hr=>by obtain⟨t,k,h1,h2⟩:=ih.2 r hr;exact⟨t,k,by omega,h2⟩⟩
 | @take i rs k r h hk hr ih=>
  refine⟨List.pairwise_append.2 ⟨ih.1,by simp,fun a ha b hb=>?_⟩,fun q hq=>?_⟩
  ·rw [zN] at hb;subst hb;obtain⟨t,k2,h1,h2,h3⟩:=ih.2 a ha;exact bL6 h1 (by have:=(zE.1 hk).1;omega) (h3.rn (hN t k2 h2)) (hr.rn (hN i k hk))
  ·rcases zO.1 hq with hq|hq
   ·obtain⟨t,k2,h1,h2⟩:=ih.2 q hq;exact⟨t,k2,by omega,h2⟩
   ·rw [zN] at hq;subst hq;exact⟨i,k,by omega,hk,hr⟩
def cj0 (F:List Fld) (f:Fld):Prop:=(f.name=nLow->f.kind=2/\∃ g∈F,g.name=nHigh/\g.kind=2)/\(f.name=nSize->f.kind=2)
theorem PlainF.low_ok {p:List Fld} (h:PlainF p) {F:List Fld} (hs:∀ f∈p,f∈F):∀ f∈p,cj0 F f:=by
 cases h with
 | none=>simp
 | low a b c d ha hb hc hd=>
  intro f hf;simp only [zU,yF,xE] at hf;rcases hf with rfl|rfl
  ·exact⟨fun _=>⟨rfl,⟨nHigh,nE,nE,2,c,10+d,[],[]⟩,hs _ (by simp),rfl,rfl⟩,fun _=>rfl⟩
  ·exact⟨fun h=>absurd h (by show ¬ nHigh=nLow;decide +kernel),fun _=>rfl⟩
 | _=>
  intro f hf;simp only [zU,yF,xE] at hf;rcases hf with rfl|rfl<;>refine⟨fun h=>?_,fun h=>?_⟩<;>first|rfl|(exfalso;simp only at h;revert h;decide +kernel)
end
end Go.Proofs.YtlcfiilejnnlnaaGreatDoor
