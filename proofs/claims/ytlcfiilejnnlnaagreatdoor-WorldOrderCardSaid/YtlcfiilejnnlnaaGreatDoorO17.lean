/- A part of the proof: Xi Yb Yc Ec Ye Yf Yg Yh Yi Yj Yk Yl Ym Gw Gc Ch Sc Gx. -/
import Derived.Test.YtlcfiilejnnlnaaGreatDoorO16
import Derived.Laws.StructEq
import Derived.ChangeKeysEq
set_option maxRecDepth 100000
set_option maxHeartbeats 20000000
set_option linter.unusedVariables false
set_option linter.unusedSimpArgs false
namespace Go.Proofs.YtlcfiilejnnlnaaGreatDoor
section
open Go Go.Maps Go.MapKept
/-! ### Two problems are compared -/
theorem cb5:∃ f0 f1 f2 f3:Field,Tryz.prog.underlying 114=some (.struct #[f0,f1,f2,f3])/\f0.name ≠ "_" /\ f1.name ≠ "_" /\ f2.name ≠ "_" /\ f3.name ≠ "_" /\ f0.type=3/\f1.type=3/\f2.type=3/\f3.type=43/\f0.offset=0/\f1.offset=1/\f2.offset=2/\f3.offset=3:=
 ⟨_,_,_,_,Tryz.underlying114,by decide,by decide,by decide,by decide,rfl,rfl,rfl,rfl,rfl,rfl,rfl,rfl⟩
theorem bE0:Tryz.prog.plainKey 3=true:=by kernel_rfl
theorem ct8:Tryz.prog.plainKey 43=true:=by kernel_rfl
theorem cb4:Tryz.prog.stoodInHeld 114=false:=by kernel_rfl
theorem bL6:Tryz.prog.eqGuardType Tryz.prog.depth 114=false:=by kernel_rfl
def prV (p:Prb):Value:=.agg #[.int .i64 p.1,.int .i64 p.2.1,.int .i64 p.2.2.1,.int .i64 p.2.2.2]
def prE (p q:Prb):Bool:=(p.1==q.1)&&((p.2.1==q.2.1)&&((p.2.2.1==q.2.2.1)&&(p.2.2.2==q.2.2.2)))
theorem bx9 (w:World) (p q:Prb):(Op.equalIn 10000 114 (prV p) (prV q)).run Tryz.prog w = .ok (prE p q) w:=by
 obtain⟨f0,f1,f2,f3,hu,n0,n1,n2,n3,t0,t1,t2,t3,o0,o1,o2,o3⟩:=cb5
 obtain⟨a,b,c,d⟩:=p
 obtain⟨a',b',c',d'⟩:=q
 unfold prV prE
 have hf:Tryz.prog.fieldsOf 114 = #[f0,f1,f2,f3]:=by simp [Program.fieldsOf,hu]
 have p0:∀ x y z u:Int,(Go.part 3 #[.int .i64 x,.int .i64 y,.int .i64 z,.int .i64 u] 0).run Tryz.prog w = .ok (.int .i64 x) w:=fun x y z u=>run_part_plain w bE0 rfl
 have p1:∀ x y z u:Int,(Go.part 3 #[.int .i64 x,.int .i64 y,.int .i64 z,.int .i64 u] 1).run Tryz.prog w = .ok (.int .i64 y) w:=fun x y z u=>run_part_plain w bE0 rfl
 have p2:∀ x y z u:Int,(Go.part 3 #[.int .i64 x,.int .i64 y,.int .i64 z,.int .i64 u] 2).run Tryz.prog w = .ok (.int .i64 z) w:=fun x y z u=>run_part_plain w bE0 rfl
 have p3:∀ x y z u:Int,(Go.part 43 #[.int .i64 x,.int .i64 y,.int .i64 z,.int .i64 u] 3).run Tryz.prog w = .ok (.int .i64 u) w:=fun x y z u=>run_part_plain w ct8 rfl
 have q:∀ x y:Int,(Op.equalIn 9999 3 (.int .i64 x) (.int .i64 y)).run Tryz.prog w = .ok (x==y) w:=fun x y=>run_equalIn_int w 9998 _ _ _ _ _ Tryz.underlying3
 have q3:∀ x y:Int,(Op.equalIn 9999 43 (.int .i64 x) (.int .i64 y)).run Tryz.prog w = .ok (x==y) w:=fun x y=>run_equalIn_int w 9998 _ _ _ _ _ Tryz.underlying43
 rw [show (10000:Nat)=9999+1 from rfl,run_equalIn_agg w 9999 _ _ _ (by rw [hf];exact hu) cb4,hf]
 simp only [Op.eqFields,if_pos n0,if_pos n1,if_pos n2,if_pos n3,t0,t1,t2,t3,o0,o1,o2,o3,Sem.run_bind,Result.andThen,p0,p1,p2,p3,q,q3,Sem.run_ite,Sem.run_pure]
 cases (a==a')<;>cases (b==b')<;>cases (c==c')<;>cases (d==d')<;>rfl
theorem bU3 {w:World} {O:Nat->Prop} {u:Value} {p:Prb} (h:Rd w O (.agg (prbC p)) u):u=prV p:=by
 obtain⟨vs,rfl,hv⟩:=h.agg_inv
 have hl:=hv.len
 match vs,hl,hv with
 | [x,y,z,u],_,hv=>
  rw [(hv.at_ 0 _ _ rfl rfl).val rfl,(hv.at_ 1 _ _ rfl rfl).val rfl,(hv.at_ 2 _ _ rfl rfl).val rfl,(hv.at_ 3 _ _ rfl rfl).val rfl]
  rfl
theorem bX6 {ρ:Operand->D} {σ:aa1} {o:Oper} {t':TypeId} {x y:Operand} {p q:Prb} (ho:o.op = .binOp .neq 114 x y t') (hx:ρ x = .agg (prbC p)) (hy:ρ y = .agg (prbC q)):Yd Tryz.prog o ρ σ (.v (.bool (!prE p q))):=by
 intro w X η hη hst
 obtain⟨dst,op,ty,pos,aft,g⟩:=o
 simp only at ho
 subst ho
 have h1:=hη x (by simp [Op.operands])
 have h2:=hη y (by simp [Op.operands])
 rw [hx] at h1
 rw [hy] at h2
 refine ae0 (s:=do eqGuard .neq 114 x y (η x) (η y);binOp .neq 114 (η x) (η y)) (u:=.bool (!prE p q)) ?_ (Ex.refl w) (.v _)
 rw [bU3 h1,bU3 h2]
 unfold prV at *
 have e:=bx9 w p q
 unfold prV at e
 simp only [Sem.run_bind,run_eqGuard_agg w .neq _ _ _ _ _ bL6,Result.andThen,run_neq_struct,e]
def sB (l:List UInt8):ByteArray:=⟨l.toArray⟩
def zF:Fld:={ name:=sB [],of:=sB [],up:=sB [],kind:=0,lo:=0,hi:=0,words:=[],weights:=[] }
def aA9:Sch:={ version:=0,kinds:=[{ name:=sB [97],lo:=1,hi:=3,fields:=[{ zF with name:=sB [105,100],lo:=5 }] },{ name:=sB [98],lo:=0,hi:=9,fields:=[{ zF with name:=sB [105,100] },{ zF with name:=sB [116,111],kind:=1,of:=sB [97],hi:=2 },{ zF with name:=sB [110],kind:=2,hi:=9 }] }],lives:=[],rules:=[] }
theorem bf8:ah6 aA9=[]:=by decide +kernel
theorem bu8:APure Tryz.prog 94 [] (schD aA9):=by
 refine eP7 Tryz.func94 Tryz.ntmps94 fun BB=>?_
 repeat' first|refine sk2 ?_|(intro b;conv=>whnf)
 refine Rt.le ?_
 (repeat' (first|exact Le.refl _|exact af6 _|exact LeL.nil|refine LeL.cons ?_ ?_|refine bV7 ?_|refine bn7 ?_|refine bN7 ?_|exact LeR.nil|refine LeR.cons ?_ ?_))
theorem bu9 (l:List Prb) (hl:l.length<=1000000):APure Tryz.prog 93 [.sl 4 (l.map prbC)] (.sl 4 (l.map prbC)):=by
 refine eP7 Tryz.func93 Tryz.ntmps93 fun BB=>?_
 repeat' first|refine sk2 ?_|(intro b;conv=>whnf)
 refine af0 mixed aa0 (γ:=Nat × Value × aa1) (fun g=>[(3,.v g.2.1),(4,iD g.1)]) (fun g=>g.2.2) (fun g=>g.1<=l.length/\RowIs 114 4 ((l.take g.1).map prbC) g.2.1 g.2.2) (fun g=>l.length-g.1) (0,.slice none 0 0,[]) (aa2 cl3) cl2 ⟨Nat.zero_le _,RowIs.nil _ _⟩ ?_
 rintro⟨j,v,s⟩ ⟨hj,hrow⟩
 simp only at hj hrow ⊢
 by_cases hjl:j<l.length
 ·obtain⟨p,hp⟩:∃ p,l[((j:Nat):Int).toNat]?=some p:=⟨_,List.getElem?_eq_getElem hjl⟩
  have hp':l[j]?=some p:=hp
  repeat' first|refine sk2 ?_|(intro b;conv=>whnf)
  refine Ap.go rfl rfl rfl rfl hrow (by simp:s.Perm (s++[])) rfl (zs:=(l.take (j+1)).map prbC) (by rw [ac7 hp',List.map_append];rfl) (by simp;omega) (by simp;omega) (fun s'=>s') (fun s'=>by simp) (fun a c s' hr=>?_)
  repeat' first|refine sk2 ?_|(intro b;conv=>whnf)
  exact⟨(j+1,_,s'),(aa2 cl3),cl2,⟨by simp only;omega,hr⟩,by simp only;omega⟩
 ·obtain rfl:j=l.length:=by omega
  repeat' first|refine sk2 ?_|(intro b;conv=>whnf)
  rw [List.take_length] at hrow
  exact Rt.vs (Vs.row hrow (τ:=[]) (by simp))
theorem bL7 (p:Prb):prE p p=true:=by simp [prE]
theorem sq11 {A B:Prop} (k:B) (h:Hd7 B->A:=by intro hk7q;(first|refine sk2 ?_|(with_reducible refine Br.t (beq_self_eq_true _) ?_)|(with_reducible refine Br.f Bool.not_true ?_)|(with_reducible refine Br.t (decide_eq_true trivial) ?_)|(with_reducible refine Br.t (decide_eq_true rfl) ?_));exact hk7q.run):A:=h ⟨k⟩
theorem bm2 (l:List Prb) (hl:l.length<=1000000):APure Tryz.prog 92 [.sl 4 (l.map prbC),.sl 4 (l.map prbC)] (bD true):=by
 refine eP7 Tryz.func92 Tryz.ntmps92 fun BB=>?_
 repeat' first|refine sq11 ?_|(intro b;conv=>whnf)|(with_reducible refine Br.f (decide_eq_false (fun h=>h rfl)) ?_)
 refine af0 mixed aa0 (γ:=Nat) (fun g=>[(5,iD g)]) (fun _=>[]) (fun g=>g<=l.length) (fun g=>l.length-g) 0 (aa2 cl3) cl2 (Nat.zero_le _) ?_
 intro j hj
 by_cases hjl:j<l.length
 ·obtain⟨p,hp⟩:∃ p,l[((j:Nat):Int).toNat]?=some p:=⟨_,List.getElem?_eq_getElem hjl⟩
  repeat' first|refine sk2 ?_|(intro b;conv=>whnf)
  refine Ot.yd (bX6 (p:=p) (q:=p) rfl rfl rfl) ?_
  rw [bL7]
  repeat' first|refine sk2 ?_|(intro b;conv=>whnf)
  exact⟨j+1,(aa2 cl3),cl2,by omega,by omega⟩
 ·obtain rfl:j=l.length:=by omega
  repeat' first|refine sk2 ?_|(intro b;conv=>whnf)
  refine Rt.pure (congrArg bD ?_);rfl
theorem ci6 {f:Fld} (h1:f.name.size<=12) (h2:f.of.size<=12) (h3:f.up.size=0) (h4:f.words=[]) (h5:f.weights=[]) (h6:0<=f.kind/\f.kind<=8) (h7:-1000<=f.lo/\f.lo<=1000) (h8:-1000<=f.hi/\f.hi<=1000):CF f:=
 ⟨h1,h2,by omega,by rw [h4];decide,by rw [h4];simp,by rw [h5];decide,by rw [h5];simp,h6,h7,h8⟩
theorem small_cls:Cls aA9:=by
 refine { ver:=by decide,nk:=by decide,ks:=fun k hk=>?_,nl:=by decide,ls:=fun l hl=>(by cases hl),nr:=by decide,rs:=fun r hr=>(by cases hr) }
 simp only [aA9,List.mem_cons,List.not_mem_nil,or_false] at hk
 rcases hk with rfl|rfl
 ·refine⟨by decide,by decide,by decide,by decide,fun f hf=>?_⟩
  simp only [List.mem_cons,List.not_mem_nil,or_false] at hf
  subst hf
  exact ci6 (by decide) (by decide) rfl rfl rfl (by decide) (by decide) (by decide)
 ·refine⟨by decide,by decide,by decide,by decide,fun f hf=>?_⟩
  simp only [List.mem_cons,List.not_mem_nil,or_false] at hf
  rcases hf with rfl|rfl|rfl<;>exact ci6 (by decide) (by decide) rfl rfl rfl (by decide) (by decide) (by decide)
theorem bq8:Easy aA9:=by
 refine⟨rfl,fun k hk f hf=>?_⟩
 simp only [aA9,List.mem_cons,List.not_mem_nil,or_false] at hk
 rcases hk with rfl|rfl
 ·simp only [List.mem_cons,List.not_mem_nil,or_false] at hf
  subst hf
  exact .inl rfl
 ·simp only [List.mem_cons,List.not_mem_nil,or_false] at hf
  rcases hf with rfl|rfl|rfl
  ·exact .inl rfl
  ·exact .inr (.inl rfl)
  ·exact .inr (.inr rfl)
theorem aH7 {w:Wd} (h:(decide (w.length<=1000)&&w.all fun l=>decide (l.length<=1000)&&l.all fun r=>decide (r.length<=1000))=true):Ws w:=by
 simp only [Bool.and_eq_true,decide_eq_true_eq,List.all_eq_true] at h
 exact⟨h.1,fun l hl=>(h.2 l hl).1,fun l hl r hr=>(h.2 l hl).2 r hr⟩
theorem sk116 {A B:Prop} (k:B) (h:Hd7 B->A:=by intro hk7q;(first|refine sb0 ?_|refine sb1 ?_|((with_reducible refine' Cp.by ?hc ?_);(case hc=>first|exact bu8|exact HC|exact bu9 _ (by assumption)|exact bm2 _ (by assumption)))|((with_reducible refine' CE.pure ?hc ?_);(case hc=>first|exact bu8|exact HC|exact bu9 _ (by assumption)|exact bm2 _ (by assumption))));exact hk7q.run):A:=h ⟨k⟩
theorem aS5 (w:Wd) (l:List Prb) (hw:Ws w) (hl:l.length<=1000000) (h:ak4 aA9 w=l):APure Tryz.prog 53 [slW w,.sl 4 (l.map prbC)] (bD true):=by
 have HC:=bQ6 aA9 w hw bf8 bq8 (aZ2 aA9 small_cls.good)
 rw [h] at HC
 refine eP7 Tryz.func53 Tryz.ntmps53 fun BB=>?_
 repeat' first|refine sk116 ?_|(intro b;conv=>whnf)
 refine Rt.pure (congrArg bD ?_);rfl
theorem sk117 {A B:Prop} (k:B) (h:Hd7 B->A:=by intro hk7q;(first|refine sb0 ?_|refine sb1 ?_|((with_reducible refine' Cp.by ?hc ?_);(case hc=>first|exact F1|exact F2|exact F3|exact F4))|((with_reducible refine' CE.pure ?hc ?_);(case hc=>first|exact F1|exact F2|exact F3|exact F4)));exact hk7q.run):A:=h ⟨k⟩
theorem bv0:APure Tryz.prog 20 [] (bD true):=by
 have F1:=aS5 [[[5],[6]],[[0,1,4]]] [] (aH7 rfl) (by decide) (by decide +kernel)
 have F2:=aS5 [[[5],[5]],[[0,1,4]]] [(0,1,0,7)] (aH7 rfl) (by decide) (by decide +kernel)
 have F3:=aS5 [[[5]],[[0,1,4]]] [(-1,-1,-1,2)] (aH7 rfl) (by decide) (by decide +kernel)
 have F4:=aS5 [[[4]],[[0,0,10],[1,0,0],[2,0,0]]] [(0,0,0,5),(1,0,2,5),(1,0,1,11)] (aH7 rfl) (by decide) (by decide +kernel)
 refine eP7 Tryz.func20 Tryz.ntmps20 fun BB=>?_
 repeat' first|refine sk117 ?_|(intro b;conv=>whnf)
 refine CE.pk (APk.peek (.cons (Pk.same _) (.cons (Pk.le (af6 _)) .nil)) F1 rfl) ?_
 repeat' first|refine sk117 ?_|(intro b;conv=>whnf)
 refine Rt.pure (congrArg bD ?_);rfl
end
section
open Go
def rdig (m:Nat):List Nat:=(dig (nb m) m).reverse
theorem aH9 (m:Nat):(rdig m).length=nb m:=by unfold rdig;rw [List.length_reverse,ah4]
theorem aI0 {m i:Nat} (h:i<nb m):(rdig m)[i]?=some (m/256 ^ i%256):=by
 unfold rdig
 rw [List.getElem?_reverse (by rw [ah4];exact h),ah4,ax7 _ _ _ (by omega)]
 congr 3
 congr 1
 omega
theorem az1 {m q:Nat}:0<m/256 ^ q↔q<nb m:=by
 rw [Nat.pos_iff_ne_zero,Ne,bn2]
 omega
section
variable {P:Program} {t:TypeId} {p q:Operand} {w:World}
theorem s255 {d:Nat} (h:d<256):(do eqGuard .sub t p q (.int .u8 255) (.int .u8 (d:Int));binOp .sub t (.int .u8 255) (.int .u8 (d:Int))).run P w = .ok (.int .u8 ((ac2 true d:Nat):Int)) w:=by
 show Result.ok (Value.int .u8 (IntKind.u8.wrap _)) w=_
 have e:IntKind.u8.wrap (255-(d:Int))=((ac2 true d:Nat):Int):=by
  rw [IntKind.wrap_u8];unfold ac2;rw [if_pos rfl];omega
 rw [e]
end
theorem cl25 {p:Prop} (h:p:=by rw [Nat.pow_zero,Nat.div_one];exact (aa2 (by repeat (first|exact Chk.nil|refine Chk.cons rfl ?_|(refine Chk.cons (congrArg (fun n=>some (iD n)) ?h) ?_;(case h=>(first|omega|((try simp only [List.length_map,List.length_take,List.length_append,List.length_cons,List.length_nil,List.length_replicate,Nat.reduceAdd]);omega)))))))):p:=h
theorem cl26 {p:Prop} (h:p:=by rw [List.take_add_one,hrg];simp only [Option.toList_some,List.map_append,List.map_cons,List.map_nil]):p:=h
theorem cl27 {p:Prop} (h:p:=by rw [List.take_add_one,hd];simp only [Option.toList_some,List.map_append,List.map_cons,List.map_nil,List.cons_append];try simp only [hfl hneg]):p:=h
theorem bU6 (n:Int) (hn:InR n):ACall Tryz.prog 39 [iD n] [] (fun d s=>∃ v,d = .v v/\RY (encI n) v s):=by
 have h1:=hn.lo
 have h2:=hn.hi
 have hm:=bn4 hn
 have hk8:=aV9 hm
 by_cases h0:n<0
 ·obtain⟨m,hmm⟩:∃ m,m=ax3 n:=⟨_,rfl⟩
  rw [← hmm] at hm hk8
  obtain⟨neg,hneg⟩:∃ b,b=true:=⟨_,rfl⟩
  have hE:encI n=ac2 neg (128+nb m)::(dig (nb m) m).map (ac2 neg):=by unfold encI;rw [hmm,hneg,decide_eq_true h0]
  have hnm:-1-n=(m:Int):=by rw [hmm];unfold ax3;rw [if_pos h0];omega
  rw [hE]
  refine eC7 Tryz.func39 Tryz.ntmps39 fun BB=>?_
  repeat' first|refine sk2 ?_|(intro b;conv=>whnf)
  rw [hnm]
  refine aa5 mixed aa0 (γ:=Nat × Value × aa1) (fun g=>[(3,iD ((m/256 ^ g.1:Nat):Int)),(4,.v g.2.1)]) (fun g=>g.2.2) (fun g=>g.1<=nb m/\RY ((rdig m).take g.1) g.2.1 g.2.2) (fun g=>nb m-g.1) (0,.slice none 0 0,[]) cl25 (Sc.refl _) ⟨Nat.zero_le _,RowIs.nil _ _⟩ ?_
  rintro⟨j,v,s⟩ ⟨hj,hrow⟩
  simp only at hj hrow ⊢
  have hrl:=aH9 m
  by_cases hjl:j<nb m
  ·have hg:=az1.2 hjl
   have hrg:=aI0 (m:=m) hjl
   have hnx:m/256 ^ (j+1)=m/256 ^ j/256:=by rw [Nat.pow_succ,Nat.div_div_eq_div_mul]
   have hlt:m/256 ^ j<=m:=Nat.div_le_self _ _
   have hrow2:RowIs 5 1 (((rdig m).take j).map yC) v s:=hrow
   generalize m/256 ^ j=g at *
   repeat' first|refine sk2 ?_|(intro b;conv=>whnf)
   refine Ot.yd (ah9 (m:=((g%256:Nat):Int)) rfl rfl Tryz.underlying3 Tryz.underlying5 (by rw [IntKind.wrap_u8,Int.tmod_eq_emod_of_nonneg (by omega)];omega)) ?_
   repeat' first|refine sk2 ?_|(intro b;conv=>whnf)
   refine Ap.go rfl rfl rfl rfl hrow2 (by simp:s.Perm (s++[])) rfl (zs:=((rdig m).take (j+1)).map yC) cl26 (by simp;omega) (by simp;omega) (fun s'=>s') (fun s'=>by simp) (fun a' c' s' hr'=>?_)
   have htd:((g:Int)).tdiv 256=((g/256:Nat):Int):=by rw [Int.tdiv_eq_ediv_of_nonneg (by omega)];omega
   repeat' first|refine sk2 ?_|(intro b;conv=>whnf)
   refine Sd.go ⟨by decide,by rw [htd];exact⟨by omega,by omega⟩⟩ ?_
   rw [htd]
   repeat' first|refine sk2 ?_|(intro b;conv=>whnf)
   exact⟨(j+1,_,s'),(by simp only [hnx];exact (aa2 cl3)),Sc.refl _,⟨by simp only;omega,hr'⟩,by simp only;omega⟩
  ·obtain rfl:j=nb m:=by omega
   have hg:¬ 0<m/256 ^ nb m:=fun h=>by have:=az1.1 h;omega
   have hg0:m/256 ^ nb m=0:=Nat.eq_zero_of_not_pos hg
   rw [hg0]
   rw [List.take_of_length_le (by omega)] at hrow
   have hrd:RowIs 5 1 ((rdig m).map yC) v s:=hrow
   obtain⟨a0,c0,rfl⟩:=hrd.slice
   rw [List.length_map,hrl] at hrd ⊢
   repeat' first|refine sk2 ?_|(intro b;conv=>whnf)
   refine Ot.yd (ah9 (m:=((ac2 neg (128+nb m):Nat):Int)) rfl rfl Tryz.underlying3 Tryz.underlying5 (by rw [IntKind.wrap_u8,hneg];unfold ac2;simp;omega)) ?_
   repeat' first|refine sk2 ?_|(intro b;conv=>whnf)
   refine Ap.go rfl rfl rfl rfl (RowIs.nil 5 1) (τ:=s) (List.Perm.refl s) rfl (zs:=[yC (ac2 neg (128+nb m))]) rfl (by simp) (by simp) (fun s'=>s'++s) (fun s'=>List.Perm.refl _) (fun a' c' so hro=>?_)
   repeat' first|refine sk2 ?_|(intro b;conv=>whnf)
   refine af2 (i:=4) (d':=slY (rdig m)) (τ:=so) rfl (fun h=>by cases h) (Vs.row hrd List.perm_append_comm) ?_
   refine aa5 mixed aa0 (γ:=Nat × Value × aa1) (fun g=>[(6,.v g.2.1),(7,iD ((nb m:Int)-1-g.1))]) (fun g=>g.2.2) (fun g=>g.1<=nb m/\RY (ac2 neg (128+nb m)::((dig (nb m) m).take g.1).map (ac2 neg)) g.2.1 g.2.2) (fun g=>nb m-g.1) (0,_,so) (aa2 cl6) (Sc.refl _) ⟨Nat.zero_le _,hro⟩ ?_
   clear hro hrd
   rintro⟨j,v,s⟩ ⟨hj,hrow⟩
   simp only at hj hrow ⊢
   have hdl:(dig (nb m) m).length=nb m:=ah4 _ _
   by_cases hjl:j<nb m
   ·have hd:=ax7 (nb m) m j hjl
    obtain⟨i,hi⟩:∃ i:Nat,nb m-1-j=i:=⟨_,rfl⟩
    have hi2:(nb m:Int)-1-j=(i:Int):=by omega
    rw [hi] at hd
    rw [hi2]
    have hrg:=aI0 (m:=m) (i:=i) (by omega)
    have hrg':(rdig m)[((i:Nat):Int).toNat]?=some (m/256 ^ i%256):=hrg
    have hrl:=aH9 m
    have hrow2:RowIs 5 1 ((ac2 neg (128+nb m)::((dig (nb m) m).take j).map (ac2 neg)).map yC) v s:=hrow
    have hlt:m/256 ^ i%256<256:=Nat.mod_lt _ (by decide)
    generalize m/256 ^ i%256=d at *
    have hfl:neg=false->ac2 neg d=d:=fun h=>by rw [h];rfl
    repeat' first|refine sk2 ?_|(intro b;conv=>whnf)
    first|(refine Ot.yd (af9 (r:=.int .u8 ((ac2 neg d:Nat):Int)) rfl rfl rfl (fun w=>by rw [hneg];exact s255 hlt)) ?_;repeat' (first|refine sk2 ?_|(intro b;conv=>whnf)))|skip
    refine Ap.go rfl rfl rfl rfl hrow2 (by simp:s.Perm (s++[])) rfl (zs:=(ac2 neg (128+nb m)::((dig (nb m) m).take (j+1)).map (ac2 neg)).map yC) cl27 (by simp;omega) (by simp;omega) (fun s'=>s') (fun s'=>by simp) (fun a' c' s' hr'=>?_)
    repeat' first|refine sk2 ?_|(intro b;conv=>whnf)
    exact⟨(j+1,_,s'),(aa2 cl6),Sc.refl _,⟨by simp only;omega,hr'⟩,by simp only;omega⟩
   ·obtain rfl:j=nb m:=by omega
    repeat' first|refine sk2 ?_|(intro b;conv=>whnf)
    rw [List.take_of_length_le (by rw [ah4];exact Nat.le_refl _)] at hrow
    exact Rt.same ⟨_,rfl,hrow⟩
 ·obtain⟨m,hmm⟩:∃ m,m=ax3 n:=⟨_,rfl⟩
  rw [← hmm] at hm hk8
  obtain⟨neg,hneg⟩:∃ b,b=false:=⟨_,rfl⟩
  have hE:encI n=ac2 neg (128+nb m)::(dig (nb m) m).map (ac2 neg):=by unfold encI;rw [hmm,hneg,decide_eq_false h0]
  have hnm:n=(m:Int):=by rw [hmm];unfold ax3;rw [if_neg h0];omega
  rw [hE]
  clear hmm hE
  subst hnm
  refine eC7 Tryz.func39 Tryz.ntmps39 fun BB=>?_
  repeat' first|refine sk2 ?_|(intro b;conv=>whnf)
  refine aa5 mixed aa0 (γ:=Nat × Value × aa1) (fun g=>[(3,iD ((m/256 ^ g.1:Nat):Int)),(4,.v g.2.1)]) (fun g=>g.2.2) (fun g=>g.1<=nb m/\RY ((rdig m).take g.1) g.2.1 g.2.2) (fun g=>nb m-g.1) (0,.slice none 0 0,[]) cl25 (Sc.refl _) ⟨Nat.zero_le _,RowIs.nil _ _⟩ ?_
  rintro⟨j,v,s⟩ ⟨hj,hrow⟩
  simp only at hj hrow ⊢
  have hrl:=aH9 m
  by_cases hjl:j<nb m
  ·have hg:=az1.2 hjl
   have hrg:=aI0 (m:=m) hjl
   have hnx:m/256 ^ (j+1)=m/256 ^ j/256:=by rw [Nat.pow_succ,Nat.div_div_eq_div_mul]
   have hlt:m/256 ^ j<=m:=Nat.div_le_self _ _
   have hrow2:RowIs 5 1 (((rdig m).take j).map yC) v s:=hrow
   generalize m/256 ^ j=g at *
   repeat' first|refine sk2 ?_|(intro b;conv=>whnf)
   refine Ot.yd (ah9 (m:=((g%256:Nat):Int)) rfl rfl Tryz.underlying3 Tryz.underlying5 (by rw [IntKind.wrap_u8,Int.tmod_eq_emod_of_nonneg (by omega)];omega)) ?_
   repeat' first|refine sk2 ?_|(intro b;conv=>whnf)
   refine Ap.go rfl rfl rfl rfl hrow2 (by simp:s.Perm (s++[])) rfl (zs:=((rdig m).take (j+1)).map yC) cl26 (by simp;omega) (by simp;omega) (fun s'=>s') (fun s'=>by simp) (fun a' c' s' hr'=>?_)
   have htd:((g:Int)).tdiv 256=((g/256:Nat):Int):=by rw [Int.tdiv_eq_ediv_of_nonneg (by omega)];omega
   repeat' first|refine sk2 ?_|(intro b;conv=>whnf)
   refine Sd.go ⟨by decide,by rw [htd];exact⟨by omega,by omega⟩⟩ ?_
   rw [htd]
   repeat' first|refine sk2 ?_|(intro b;conv=>whnf)
   exact⟨(j+1,_,s'),(by simp only [hnx];exact (aa2 cl3)),Sc.refl _,⟨by simp only;omega,hr'⟩,by simp only;omega⟩
  ·obtain rfl:j=nb m:=by omega
   have hg:¬ 0<m/256 ^ nb m:=fun h=>by have:=az1.1 h;omega
   have hg0:m/256 ^ nb m=0:=Nat.eq_zero_of_not_pos hg
   rw [hg0]
   rw [List.take_of_length_le (by omega)] at hrow
   have hrd:RowIs 5 1 ((rdig m).map yC) v s:=hrow
   obtain⟨a0,c0,rfl⟩:=hrd.slice
   rw [List.length_map,hrl] at hrd ⊢
   repeat' first|refine sk2 ?_|(intro b;conv=>whnf)
   refine Ot.yd (ah9 (m:=((ac2 neg (128+nb m):Nat):Int)) rfl rfl Tryz.underlying3 Tryz.underlying5 (by rw [IntKind.wrap_u8,hneg];unfold ac2;simp;omega)) ?_
   repeat' first|refine sk2 ?_|(intro b;conv=>whnf)
   refine Ap.go rfl rfl rfl rfl (RowIs.nil 5 1) (τ:=s) (List.Perm.refl s) rfl (zs:=[yC (ac2 neg (128+nb m))]) rfl (by simp) (by simp) (fun s'=>s'++s) (fun s'=>List.Perm.refl _) (fun a' c' so hro=>?_)
   repeat' first|refine sk2 ?_|(intro b;conv=>whnf)
   refine af2 (i:=4) (d':=slY (rdig m)) (τ:=so) rfl (fun h=>by cases h) (Vs.row hrd List.perm_append_comm) ?_
   refine aa5 mixed aa0 (γ:=Nat × Value × aa1) (fun g=>[(6,.v g.2.1),(7,iD ((nb m:Int)-1-g.1))]) (fun g=>g.2.2) (fun g=>g.1<=nb m/\RY (ac2 neg (128+nb m)::((dig (nb m) m).take g.1).map (ac2 neg)) g.2.1 g.2.2) (fun g=>nb m-g.1) (0,_,so) (aa2 cl6) (Sc.refl _) ⟨Nat.zero_le _,hro⟩ ?_
   clear hro hrd
   rintro⟨j,v,s⟩ ⟨hj,hrow⟩
   simp only at hj hrow ⊢
   have hdl:(dig (nb m) m).length=nb m:=ah4 _ _
   by_cases hjl:j<nb m
   ·have hd:=ax7 (nb m) m j hjl
    obtain⟨i,hi⟩:∃ i:Nat,nb m-1-j=i:=⟨_,rfl⟩
    have hi2:(nb m:Int)-1-j=(i:Int):=by omega
    rw [hi] at hd
    rw [hi2]
    have hrg:=aI0 (m:=m) (i:=i) (by omega)
    have hrg':(rdig m)[((i:Nat):Int).toNat]?=some (m/256 ^ i%256):=hrg
    have hrl:=aH9 m
    have hrow2:RowIs 5 1 ((ac2 neg (128+nb m)::((dig (nb m) m).take j).map (ac2 neg)).map yC) v s:=hrow
    have hlt:m/256 ^ i%256<256:=Nat.mod_lt _ (by decide)
    generalize m/256 ^ i%256=d at *
    have hfl:neg=false->ac2 neg d=d:=fun h=>by rw [h];rfl
    repeat' first|refine sk2 ?_|(intro b;conv=>whnf)
    first|(refine Ot.yd (af9 (r:=.int .u8 ((ac2 neg d:Nat):Int)) rfl rfl rfl (fun w=>by rw [hneg];exact s255 hlt)) ?_;repeat' (first|refine sk2 ?_|(intro b;conv=>whnf)))|skip
    refine Ap.go rfl rfl rfl rfl hrow2 (by simp:s.Perm (s++[])) rfl (zs:=(ac2 neg (128+nb m)::((dig (nb m) m).take (j+1)).map (ac2 neg)).map yC) cl27 (by simp;omega) (by simp;omega) (fun s'=>s') (fun s'=>by simp) (fun a' c' s' hr'=>?_)
    repeat' first|refine sk2 ?_|(intro b;conv=>whnf)
    exact⟨(j+1,_,s'),(aa2 cl6),Sc.refl _,⟨by simp only;omega,hr'⟩,by simp only;omega⟩
   ·obtain rfl:j=nb m:=by omega
    repeat' first|refine sk2 ?_|(intro b;conv=>whnf)
    rw [List.take_of_length_le (by rw [ah4];exact Nat.le_refl _)] at hrow
    exact Rt.same ⟨_,rfl,hrow⟩
end
section
open Go
section
variable {P:Program} {t:TypeId} {p q:Operand} {w:World}
end
end
section
open Go
section
variable {α β:Type}
theorem aE2 {l:List α} {f:α->List β} {c:Nat} (h:∀ x∈l,(f x).length<=c):(l.flatMap f).length<=l.length*c:=by
 induction l with
 | nil=>simp
 | cons x l ih=>
  have h1:=h x List.mem_cons_self
  have h2:=ih (fun y hy=>h y (List.mem_cons_of_mem _ hy))
  rw [List.flatMap_cons,List.length_append,List.length_cons,Nat.add_mul]
  omega
theorem aC8 {l:List α} {f:α->List β} {i:Nat} {x:α} (h:l[i]?=some x):(l.take (i+1)).flatMap f=(l.take i).flatMap f++f x:=by
 rw [List.take_add_one,h]
 simp
end
theorem cg2 {l:List Int} (h:∀ v∈l,InR v) (hn:InR l.length):(encL l).length<=9+l.length*9:=by
 unfold encL
 rw [List.length_append]
 have h1:=ah3 hn
 have h2:=aE2 (f:=encI) (l:=l) (c:=9) (fun x hx=>ah3 (h x hx))
 omega
structure WSm (w:List (List (List Int))):Prop where
 k:w.length<=20
 n:∀ l∈w,l.length<=20
 f:∀ l∈w,∀ r∈l,r.length<=60
 v:∀ l∈w,∀ r∈l,∀ v∈r,InR v
theorem ar8 {n:Nat} (h:n<=1000000):InR n:=⟨by omega,by omega⟩
theorem WSm.wd {w:List (List (List Int))} (h:WSm w):WdR w:=
 ⟨ar8 (by have:=h.k;omega),fun l hl=>ar8 (by have:=h.n l hl;omega),fun l hl r hr=>ar8 (by have:=h.f l hl r hr;omega),h.v⟩
theorem WSm.l {w:List (List (List Int))} (h:WSm w) {l:List (List Int)} (hl:l∈w):∀ r∈l,(encL r).length<=549:=fun r hr=>by
 have h1:=h.f l hl r hr
 have:=cg2 (h.v l hl r hr) (ar8 (by omega))
 omega
theorem WSm.kl {w:List (List (List Int))} (h:WSm w):∀ l∈w,(encK l).length<=10989:=fun l hl=>by
 unfold encK
 rw [List.length_append]
 have h0:=h.n l hl
 have h1:=ah3 (n:=(l.length:Int)) (ar8 (by omega))
 have h2:=aE2 (f:=encL) (l:=l) (c:=549) (h.l hl)
 omega
theorem WSm.len {w:List (List (List Int))} (h:WSm w):(encW w).length<=300000:=by
 unfold encW
 rw [List.length_append]
 have h0:=h.k
 have h1:=ah3 (n:=(w.length:Int)) (ar8 (by omega))
 have h2:=aE2 (f:=encK) (l:=w) (c:=10989) h.kl
 omega
end
section
open Go
theorem aI6 {P:Program} {f:FuncId} {args:List D} {l:List Nat} (h:ACall P f args [] (fun d s=>∃ v,d = .v v/\RY l v s)):APure P f args (slY l):=
 APure.of_call (ACall.vs (ACall.imp h fun d s ⟨v,hd,hr⟩=>by rw [hd];exact Rt.vs (Vs.row (τ:=[]) hr (by simp))))
theorem aU2 {n:Int} (hn:InR n):APure Tryz.prog 39 [iD n] (slY (encI n)):=aI6 (bU6 n hn)
theorem aS3 {n:Int} (hn:InR n):APure Tryz.prog 37 [iD n] (slY (encI n)):=aI6 (bT5 n hn)
theorem sk118 {A B:Prop} (k:B) (h:Hd7 B->A:=by intro hk7q;(first|refine sb0 ?_|refine sb1 ?_|((with_reducible refine' Cp.by ?hc ?_);(case hc=>first|exact HI|exact HS))|((with_reducible refine' CE.pure ?hc ?_);(case hc=>first|exact HI|exact HS)));exact hk7q.run):A:=h ⟨k⟩
end
section
open Go
theorem sk119 {A B:Prop} (k:B) (h:Hd7 B->A:=by intro hk7q;(first|refine sb0 ?_|refine sb1 ?_|((with_reducible refine' Cp.by ?hc ?_);(case hc=>exact HG))|((with_reducible refine' CE.pure ?hc ?_);(case hc=>exact HG)));exact hk7q.run):A:=h ⟨k⟩
end
section
open Go
theorem sz_y {c k:Nat} {l:List Nat} (h1:l.length<=c) (h:c*k<=140737488355328):(l.map yC).length*k<=140737488355328:=by rw [List.length_map];exact Nat.le_trans (Nat.mul_le_mul_right _ h1) h
theorem ck4 {l:List Nat} (h:l.length<=1000000):(l.map yC).length<=1000000000:=by rw [List.length_map];omega
theorem sk120 {A B:Prop} (k:B) (h:Hd7 B->A:=by intro hk7q;(first|refine sb0 ?_|refine sb1 ?_|((with_reducible refine' Cp.by ?hc ?_);(case hc=>exact aS3 HX))|((with_reducible refine' CE.pure ?hc ?_);(case hc=>exact aS3 HX)));exact hk7q.run):A:=h ⟨k⟩
theorem bY1 (l:List Int) (hl:l.length<=1000) (h:∀ v∈l,InR v):ACall Tryz.prog 38 [slI l] [] (fun d s=>∃ v,d = .v v/\RY (encL l) v s):=by
 refine eC7 Tryz.func38 Tryz.ntmps38 fun BB=>?_
 repeat' first|refine sk120 ?_|(intro b;conv=>whnf)
 refine CE.own (bT5 ((l.map fun n=>[iD n]).length:Int) (ar8 (by simp;omega))) (bz9 _) (fun s'=>s') bz8 ?_
 rintro _ s0 ⟨v0,rfl,hr0⟩
 rw [List.length_map] at hr0
 repeat' first|refine sk120 ?_|(intro b;conv=>whnf)
 refine aa5 mixed aa0 (γ:=Nat × Value × aa1) (fun g=>[(11,iD g.1),(3,.v g.2.1)]) (fun g=>g.2.2) (fun g=>g.1<=l.length/\RY (encI l.length++(l.take g.1).flatMap encI) g.2.1 g.2.2) (fun g=>l.length-g.1) (0,v0,s0) (aa2 cl6) (Sc.refl _) ⟨Nat.zero_le _,by simpa using hr0⟩ ?_
 clear hr0
 rintro⟨j,v,s⟩ ⟨hj,hrow⟩
 simp only at hj hrow ⊢
 by_cases hjl:j<l.length
 ·obtain⟨x,hx⟩:∃ x,l[j]?=some x:=⟨_,List.getElem?_eq_getElem hjl⟩
  have hx':l[((j:Nat):Int).toNat]?=some x:=hx
  have HX:=h x (List.mem_of_getElem? hx)
  have hxs:=ah3 HX
  have hns:=ah3 (n:=(l.length:Int)) (ar8 (by omega))
  have hpre:=aE2 (f:=encI) (l:=l.take j) (c:=9) (fun y hy=>ah3 (h y (List.mem_of_mem_take hy)))
  rw [List.length_take] at hpre
  have hrow2:RowIs 5 1 ((encI l.length++(l.take j).flatMap encI).map yC) v s:=hrow
  have hle:(encI l.length++(l.take (j+1)).flatMap encI).length<=1000000:=by rw [aC8 hx];simp only [List.length_append];omega
  repeat' first|refine sk120 ?_|(intro b;conv=>whnf)
  refine Ap.go rfl rfl rfl rfl hrow2 (by simp:s.Perm (s++[])) (co7 _) (zs:=(encI l.length++(l.take (j+1)).flatMap encI).map yC) (by rw [aC8 hx];simp only [List.map_append,List.append_assoc]) (sz_y hle (by decide)) (ck4 hle) (fun s'=>s') (fun s'=>by simp) (fun a' c' s' hr'=>?_)
  repeat' first|refine sk120 ?_|(intro b;conv=>whnf)
  exact⟨(j+1,_,s'),(aa2 cl6),Sc.refl _,⟨by simp only;omega,hr'⟩,by simp only;omega⟩
 ·obtain rfl:j=l.length:=by omega
  repeat' first|refine sk120 ?_|(intro b;conv=>whnf)
  rw [List.take_length] at hrow
  exact Rt.same ⟨_,rfl,hrow⟩
theorem sk121 {A B:Prop} (k:B) (h:Hd7 B->A:=by intro hk7q;(first|refine sb0 ?_|refine sb1 ?_|((with_reducible refine' Cp.by ?hc ?_);(case hc=>exact aU2 HX))|((with_reducible refine' CE.pure ?hc ?_);(case hc=>exact aU2 HX)));exact hk7q.run):A:=h ⟨k⟩
theorem cb1 (l:List Int) (hl:l.length<=1000) (h:∀ v∈l,InR v):ACall Tryz.prog 40 [slI l] [] (fun d s=>∃ v,d = .v v/\RY (encL l) v s):=by
 refine eC7 Tryz.func40 Tryz.ntmps40 fun BB=>?_
 repeat' first|refine sk121 ?_|(intro b;conv=>whnf)
 refine CE.own (bU6 ((l.map fun n=>[iD n]).length:Int) (ar8 (by simp;omega))) (bz9 _) (fun s'=>s') bz8 ?_
 rintro _ s0 ⟨v0,rfl,hr0⟩
 rw [List.length_map] at hr0
 repeat' first|refine sk121 ?_|(intro b;conv=>whnf)
 refine aa5 mixed aa0 (γ:=Nat × Value × aa1) (fun g=>[(4,iD g.1),(3,.v g.2.1)]) (fun g=>g.2.2) (fun g=>g.1<=l.length/\RY (encI l.length++(l.take g.1).flatMap encI) g.2.1 g.2.2) (fun g=>l.length-g.1) (0,v0,s0) (aa2 cl6) (Sc.refl _) ⟨Nat.zero_le _,by simpa using hr0⟩ ?_
 clear hr0
 rintro⟨j,v,s⟩ ⟨hj,hrow⟩
 simp only at hj hrow ⊢
 by_cases hjl:j<l.length
 ·obtain⟨x,hx⟩:∃ x,l[j]?=some x:=⟨_,List.getElem?_eq_getElem hjl⟩
  have hx':l[((j:Nat):Int).toNat]?=some x:=hx
  have HX:=h x (List.mem_of_getElem? hx)
  have hxs:=ah3 HX
  have hns:=ah3 (n:=(l.length:Int)) (ar8 (by omega))
  have hpre:=aE2 (f:=encI) (l:=l.take j) (c:=9) (fun y hy=>ah3 (h y (List.mem_of_mem_take hy)))
  rw [List.length_take] at hpre
  have hrow2:RowIs 5 1 ((encI l.length++(l.take j).flatMap encI).map yC) v s:=hrow
  have hle:(encI l.length++(l.take (j+1)).flatMap encI).length<=1000000:=by rw [aC8 hx];simp only [List.length_append];omega
  repeat' first|refine sk121 ?_|(intro b;conv=>whnf)
  refine Ap.go rfl rfl rfl rfl hrow2 (by simp:s.Perm (s++[])) (co7 _) (zs:=(encI l.length++(l.take (j+1)).flatMap encI).map yC) (by rw [aC8 hx];simp only [List.map_append,List.append_assoc]) (sz_y hle (by decide)) (ck4 hle) (fun s'=>s') (fun s'=>by simp) (fun a' c' s' hr'=>?_)
  repeat' first|refine sk121 ?_|(intro b;conv=>whnf)
  exact⟨(j+1,_,s'),(aa2 cl6),Sc.refl _,⟨by simp only;omega,hr'⟩,by simp only;omega⟩
 ·obtain rfl:j=l.length:=by omega
  repeat' first|refine sk121 ?_|(intro b;conv=>whnf)
  rw [List.take_length] at hrow
  exact Rt.same ⟨_,rfl,hrow⟩
theorem bj6 {l:List Int} (hl:l.length<=1000) (h:∀ v∈l,InR v):APure Tryz.prog 38 [slI l] (slY (encL l)):=aI6 (bY1 l hl h)
theorem bm3 {l:List Int} (hl:l.length<=1000) (h:∀ v∈l,InR v):APure Tryz.prog 40 [slI l] (slY (encL l)):=aI6 (cb1 l hl h)
end
section
open Go
section
variable {P:Program} {r:Option Nat} {n:Nat} {df:Nat} {N:Nat} {σ:aa1} {a:List D} {f:Frm} {T:TypeId->Option TI} {L:List Oper}
end
theorem sz_i {c k:Nat} {l:List Int} (h1:l.length<=c) (h:c*k<=140737488355328):(l.map fun n=>[iD n]).length*k<=140737488355328:=by rw [List.length_map];exact Nat.le_trans (Nat.mul_le_mul_right _ h1) h
theorem sk122 {A B:Prop} (k:B) (h:Hd7 B->A:=by intro hk7q;(first|refine sb0 ?_|refine sb1 ?_|((with_reducible refine' Cp.by ?hc ?_);(case hc=>first|exact HC|exact HG))|((with_reducible refine' CE.pure ?hc ?_);(case hc=>first|exact HC|exact HG)));exact hk7q.run):A:=h ⟨k⟩
theorem sk123 {A B:Prop} (k:B) (h:Hd7 B->A:=by intro hk7q;(first|refine sb0 ?_|refine sb1 ?_|((with_reducible refine' Cp.by ?hc ?_);(case hc=>exact HC))|((with_reducible refine' CE.pure ?hc ?_);(case hc=>exact HC)));exact hk7q.run):A:=h ⟨k⟩
end
section
open Go
theorem WSm.pre {w:List (List (List Int))} (h:WSm w) (k:Nat):(encI w.length++(w.take k).flatMap encK).length<=220000:=by
 rw [List.length_append]
 have h0:=h.k
 have h1:=ah3 (n:=(w.length:Int)) (ar8 (by omega))
 have h2:=aE2 (f:=encK) (l:=w.take k) (c:=10989) (fun l hl=>h.kl l (List.mem_of_mem_take hl))
 rw [List.length_take] at h2
 have h3:Nat.min k w.length<=20:=Nat.le_trans (Nat.min_le_right _ _) h0
 have h4:=Nat.mul_le_mul_right 10989 h3
 have h5:min k w.length*10989<=20*10989:=h4
 omega
theorem sk124 {A B:Prop} (k:B) (h:Hd7 B->A:=by intro hk7q;(first|refine sb0 ?_|refine sb1 ?_|((with_reducible refine' Cp.by ?hc ?_);(case hc=>first|exact aS3 HX|exact bj6 HL HR))|((with_reducible refine' CE.pure ?hc ?_);(case hc=>first|exact aS3 HX|exact bj6 HL HR)));exact hk7q.run):A:=h ⟨k⟩
theorem sk125 {A B:Prop} (k:B) (h:Hd7 B->A:=by intro hk7q;(first|refine sb0 ?_|refine sb1 ?_|((with_reducible refine' Cp.by ?hc ?_);(case hc=>first|exact aU2 HX|exact bm3 HL HR))|((with_reducible refine' CE.pure ?hc ?_);(case hc=>first|exact aU2 HX|exact bm3 HL HR)));exact hk7q.run):A:=h ⟨k⟩
end
section
open Go
theorem aK6 {α:Type} {R:ORep α} {e:TypeId} {xs:List α} {vs:List Value} {s0 t s':aa1} {ts:List aa1} {v u:Value} {x:α} (h2:All3 R xs vs ts) (h1:RowIs e 1 (vs.map (fun u=>[D.v u])++[[D.v u]]) v s0) (hx:R x u t) (hp:s'.Perm (s0++(ts.flatten++t))):RowsOf e R (xs++[x]) v s':=
 ⟨vs++[u],s0,ts++[t],by simpa using h1,h2.append (.cons hx .nil),hp.trans (by simp)⟩
end
section
open Go
theorem sz_2 {c k:Nat} {vs:List Value} {z:D} (h1:vs.length+1<=c) (h:c*k<=140737488355328):(vs.map (fun u=>[D.v u])++[[z]]).length*k<=140737488355328:=by rw [List.length_append,List.length_map];exact Nat.le_trans (Nat.mul_le_mul_right _ h1) h
theorem sk126 {A B:Prop} (k:B) (h:Hd7 B->A:=by intro hk7q;(first|refine sb0 ?_|refine sb1 ?_|((with_reducible refine' Cp.by ?hc ?_);(case hc=>first|exact HC|exact HG|exact HL))|((with_reducible refine' CE.pure ?hc ?_);(case hc=>first|exact HC|exact HG|exact HL)));exact hk7q.run):A:=h ⟨k⟩
end
section
open Go
theorem sk127 {A B:Prop} (k:B) (h:Hd7 B->A:=by intro hk7q;(first|refine sb0 ?_|refine sb1 ?_|((with_reducible refine' Cp.by ?hc ?_);(case hc=>exact HL))|((with_reducible refine' CE.pure ?hc ?_);(case hc=>exact HL)));exact hk7q.run):A:=h ⟨k⟩
end
section
open Go
theorem bU2 (a b:List Int) (ha:a.length<=1000000) (hb:b.length<=1000000):APure Tryz.prog 47 [slI a,slI b] (bD (decide (a=b))):=by
 refine eP7 Tryz.func47 Tryz.ntmps47 fun BB=>?_
 by_cases hl:a.length=b.length
 ·repeat' first|refine sk2 ?_|(intro b;conv=>whnf)
  refine ae2 mixed aa0 (γ:=Nat) (fun k=>[(13,iD k)]) (fun _=>[]) (fun k=>k<=a.length/\∀ i,i<k->a[i]?=b[i]?) (fun k=>a.length-k) 0 rfl rfl ⟨Nat.zero_le _,fun i h=>by omega⟩ ?_
  rintro k ⟨hk,hno⟩
  by_cases hlt:k<a.length
  ·obtain⟨x,hx⟩:∃ x,a[((k:Nat):Int).toNat]?=some x:=⟨_,List.getElem?_eq_getElem hlt⟩
   obtain⟨y,hy⟩:∃ y,b[((k:Nat):Int).toNat]?=some y:=⟨_,List.getElem?_eq_getElem (by show k<_;omega)⟩
   have hx':a[k]?=some x:=hx
   have hy':b[k]?=some y:=hy
   by_cases he:x=y
   ·repeat' first|refine sk2 ?_|(intro b;conv=>whnf)
    refine⟨k+1,rfl,rfl,⟨by omega,fun i hi=>?_⟩,by omega⟩
    by_cases e:i=k
    ·subst e;rw [hx',hy',he]
    ·exact hno i (by omega)
   ·have hne:a≠b:=fun h=>he (by rw [h,hy'] at hx';cases hx';rfl)
    repeat' first|refine sk2 ?_|(intro b;conv=>whnf)
    refine Rt.pure (congrArg bD ?_)
    exact (decide_eq_false hne).symm
  ·have hab:a=b:=List.ext_getElem? fun i=>by
    by_cases hi:i<k
    ·exact hno i hi
    ·rw [List.getElem?_eq_none_iff.2 (by omega),List.getElem?_eq_none_iff.2 (by omega)]
   repeat' first|refine sk2 ?_|(intro b;conv=>whnf)
   refine Rt.pure (congrArg bD ?_)
   exact (decide_eq_true hab).symm
 ·have hne:a≠b:=fun h=>hl (by rw [h])
  repeat' first|refine sk2 ?_|(intro b;conv=>whnf)
  refine Rt.pure (congrArg bD ?_)
  exact (decide_eq_false hne).symm
theorem sk128 {A B:Prop} (k:B) (h:Hd7 B->A:=by intro hk7q;(first|refine sb0 ?_|refine sb1 ?_|((with_reducible refine' Cp.by ?hc ?_);(case hc=>exact bU2 _ _ (by assumption) (by assumption)))|((with_reducible refine' CE.pure ?hc ?_);(case hc=>exact bU2 _ _ (by assumption) (by assumption))));exact hk7q.run):A:=h ⟨k⟩
end
section
open Go
theorem ACall.vs3 {P:Program} {f:FuncId} {args:List D} {σ:aa1} {R R':D->aa1->Prop} (h:ACall P f args σ R) (k:∀ d s,R d s->∃ d' s',Vs s d s' d'/\R' d' s'):ACall P f args σ R':=
 ⟨h.ent,fun w X vs hv hs=>(h.run w X vs hv hs).mono fun e w' ⟨u,d,s,g1,g2,g3,g4,g5⟩=>by
  obtain⟨d',s',q1,q2⟩:=k d s g2
  obtain⟨q3,q4⟩:=q1.run w' X u g4 g3
  exact⟨u,d',s',g1,q2,q4,q3,g5.fewer q1.sub⟩⟩
theorem cm2 {cs:List Int} {v:Value} {s:aa1} (h:RI cs v s) (hne:cs≠[]):∃ b cap cells,v = .slice (some ⟨b,0,none⟩) cs.length cap/\s=[(b,.cells 3 cells)]/\(∀ (i:Nat) c,cs[i]?=some c->cells[i]?=some (iD c))/\∀ (i:Nat) c',i<cs.length->RI (cs.set i c') v [(b,.cells 3 (cells.set i (iD c')))]:=by
 have h0:RowIs 3 1 (cs.map fun n=>[iD n]) v s:=h
 obtain⟨b,cap,junk,rfl,rfl,h1,h2,h3,h4⟩:=h0.block (by intro e;exact hne (List.map_eq_nil_iff.1 e))
 have hf:(cs.map fun n=>[iD n]).flatten=cs.map fun n=>iD n:=by
  clear h0 h h1 h3 hne
  induction cs with
  | nil=>rfl
  | cons c cs ih=>rw [List.map_cons,List.flatten_cons,ih];rfl
 refine⟨b,cap,_,by rw [List.length_map],rfl,fun i c hc=>?_,fun i c' hi=>?_⟩
 ·have:=(List.getElem?_eq_some_iff.1 hc).1
  rw [hf,List.getElem?_append_left (by simpa using this),List.getElem?_map,hc];rfl
 ·have:=h0.put (i:=i) (x':=[iD c']) (by simpa using hi) rfl
  have e:spl ((cs.map fun n=>[iD n]).flatten++junk) (i*1) [iD c']=((cs.map fun n=>[iD n]).flatten++junk).set i (iD c'):=by
   unfold spl
   rw [Nat.mul_one,List.set_eq_take_append_cons_drop,if_pos (by rw [hf];simp;omega)]
   simp
  rw [e] at this
  show RowIs _ 1 ((cs.set i c').map _) _ _
  rw [List.map_set]
  exact this
theorem cj7 {cs:List Int} {v:Value} {s:aa1} (h:RI cs v s):∃ a c,v = .slice a cs.length c:=by
 obtain⟨a,c,e⟩:=RowIs.slice h
 rw [List.length_map] at e
 exact⟨a,c,e⟩
structure Tn (z:Int):Prop where
 lo:-1000<=z
 hi:z<=1000
structure WTiny (w:Wd):Prop where
 k:w.length<=10
 n:∀ l∈w,l.length<=10
 f:∀ l∈w,∀ r∈l,r.length<=50
 v:∀ l∈w,∀ r∈l,∀ v∈r,Tn v
theorem WTiny.sm {w:Wd} (h:WTiny w):WSm w:=
 ⟨by have:=h.k;omega,fun l hl=>by have:=h.n l hl;omega,fun l hl r hr=>by have:=h.f l hl r hr;omega,fun l hl r hr v hv=>⟨by have:=(h.v l hl r hr v hv).lo;omega,by have:=(h.v l hl r hr v hv).hi;omega⟩⟩
def Cnt (cs:List Int):Prop:=∀ c∈cs,0<=c/\c<=4
theorem sk129 {A B:Prop} (k:B) (h:Hd7 B->A:=by intro hk7q;(first|refine sb0 ?_|refine sb1 ?_|((with_reducible refine' Cp.by ?hc ?_);(case hc=>first|exact HAt|exact HUp|exact HA _ _|exact HU _ _))|((with_reducible refine' CE.pure ?hc ?_);(case hc=>first|exact HAt|exact HUp|exact HA _ _|exact HU _ _)));exact hk7q.run):A:=h ⟨k⟩
theorem by7 (x:Sch) (hK:x.kinds.length<=10) (hF:∀ k∈x.kinds,k.fields.length<=50) (p:List Int) (hp:I64s p):ASome Tryz.prog 7 [schD x,slI p,bD false] (fun d=>∃ w,d=slW w/\WTiny w):=by
 have HA:=fun i n=>by9 p hp i n
 have HU:=fun i j=>aF6 x i j (by omega) (fun k hk=>by have:=hF k hk;omega)
 refine ASome.of_call (ACall.vs3 (R:=fun d s=>∃ v w,d = .v v/\RW w v s/\WTiny w) ?_ fun d σ ⟨v,w,e,hr,hw⟩=>by subst e;exact⟨_,[],Vs.frz cx2 hr (by simp),w,rfl,hw⟩)
 refine eC7 Tryz.func7 Tryz.ntmps7 fun BB=>?_
 repeat' first|refine sk129 ?_|(intro b;conv=>whnf)
 refine aa5 mixed aa0 (γ:=Nat × List Int × Value × aa1) (fun g=>[(8,iD g.1),(7,.v g.2.2.1)]) (fun g=>g.2.2.2) (fun g=>g.1<=x.kinds.length/\g.2.1.length=g.1/\Cnt g.2.1/\RI g.2.1 g.2.2.1 g.2.2.2) (fun g=>x.kinds.length-g.1) (0,[],.slice none 0 0,[]) (aa2 cl6) (Sc.refl _) ⟨Nat.zero_le _,rfl,fun c hc=>by (cases hc),RowIs.nil _ _⟩ ?_
 rintro⟨k,cs,v,s⟩ ⟨hk,hcl,hcs,hrow⟩
 simp only at hk hcl hcs hrow ⊢
 by_cases hkl:k<x.kinds.length
 ·have hc:=ac6 p k 5
  have hc2:=hc.2 (by decide)
  have hcs2:Cnt (cs++[atE p k 5]):=fun c h=>by
   rcases List.mem_append.1 h with h|h
   ·exact hcs c h
   ·rw [List.mem_singleton] at h;subst h;omega
  have HAt:=HA k 5
  generalize atE p k 5=c0 at *
  repeat' first|refine sk129 ?_|(intro b;conv=>whnf)
  refine Ap.go rfl rfl rfl rfl hrow (by simp:s.Perm (s++[])) rfl (zs:=(cs++[c0]).map fun n=>[iD n]) (by rw [List.map_append];rfl) (sz_i (c:=1000) (by simp;omega) (by decide)) (by simp;omega) (fun s'=>s') (fun s'=>by simp) (fun a1 c1 s1 hr1=>?_)
  have hr2:RI (cs++[c0]) (.slice a1 ((cs++[c0]).map fun n=>[iD n]).length c1) s1:=hr1
  obtain⟨b1,cap1,cells,e1,rfl,hck,hset⟩:=cm2 hr2 (by simp)
  by_cases hk0:k=0
  ·subst hk0
   repeat' first|refine sk129 ?_|(intro b;conv=>whnf)
   exact⟨(1,cs++[c0],_,_),(aa2 cl6),Sc.refl _,⟨by simp only;omega,by simp only [List.length_append,List.length_singleton];omega,hcs2,hr2⟩,by simp only;omega⟩
  ·obtain⟨c2,hc2⟩:∃ c,(cs++[c0])[k-1]?=some c:=⟨_,List.getElem?_eq_getElem (by simp;omega)⟩
   rw [e1] at hr2 hset ⊢
   have hkc:=(List.getElem?_eq_some_iff.1 (hck k c0 (by rw [List.getElem?_append_right (by omega),hcl,Nat.sub_self];rfl))).1
   have hlen:(cs++[c0]).length=k+1:=by rw [List.length_append,hcl];rfl
   repeat' first|refine sk129 ?_|(intro b;conv=>whnf)
   refine Ld.cellm (List.Mem.head _) (by rw [show 0+((k:Int)-1).toNat*1=k-1 by omega];exact hck _ _ hc2) ?_
   by_cases h20:c2=0
   ·repeat' first|refine sk129 ?_|(intro b;conv=>whnf)
    refine Sv.cellm (cs':=cells.set k (iD 0)) (List.Perm.refl _) (by rw [show 0+((k:Nat):Int).toNat*1=k by simp];exact hkc) rfl (by rw [show 0+((k:Nat):Int).toNat*1=k by simp]) ?_
    repeat' first|refine sk129 ?_|(intro b;conv=>whnf)
    exact⟨(k+1,(cs++[c0]).set k 0,_,_),(aa2 cl6),Sc.refl _,⟨by simp only;omega,by simp only [List.length_set];exact hlen,fun c h=>by
     rcases List.mem_or_eq_of_mem_set h with h|h
     ·exact hcs2 c h
     ·omega,by simp only [List.length_set];exact hset k 0 (by omega)⟩,by simp only;omega⟩
   ·repeat' first|refine sk129 ?_|(intro b;conv=>whnf)
    exact⟨(k+1,cs++[c0],_,_),(aa2 cl6),Sc.refl _,⟨by simp only;omega,hlen,hcs2,hr2⟩,by simp only;omega⟩
 ·obtain rfl:k=x.kinds.length:=by omega
  clear hkl hk
  repeat' first|refine sk129 ?_|(intro b;conv=>whnf)
  refine af2 (i:=7) (d':=slI cs) (τ:=[]) rfl (fun h=>by cases h) (Vs.row hrow (by simp)) ?_
  refine aa5 mixed aa0 (γ:=Nat × Nat × Wd × Value × aa1) (fun g=>[(11,iD g.1),(10,iD g.2.1),(9,.v g.2.2.2.1)]) (fun g=>g.2.2.2.2) (fun g=>g.1<=x.kinds.length/\g.2.1<=6+g.1*2000/\g.2.2.1.length=g.1/\WTiny g.2.2.1/\RW g.2.2.1 g.2.2.2.1 g.2.2.2.2) (fun g=>x.kinds.length-g.1) (0,6,[],.slice none 0 0,[]) (aa2 cl6) (Sc.refl _) ⟨Nat.zero_le _,by decide,rfl,⟨by decide,by simp,by simp,by simp⟩,RowsOf.nil _ _⟩ ?_
  clear hrow
  rintro⟨k,a0,w,v,s⟩ ⟨hk,ha0,hwl,hw,hrow⟩
  simp only at hk ha0 hwl hw hrow ⊢
  by_cases hkl:k<x.kinds.length
  ·obtain⟨kd,hkd⟩:∃ y,x.kinds[k]?=some y:=⟨_,List.getElem?_eq_getElem hkl⟩
   have hkd':x.kinds[((k:Nat):Int).toNat]?=some kd:=hkd
   have hfl:=hF kd (List.mem_of_getElem? hkd)
   obtain⟨ck,hck⟩:∃ y,cs[k]?=some y:=⟨_,List.getElem?_eq_getElem (by omega)⟩
   have hck':cs[((k:Nat):Int).toNat]?=some ck:=hck
   have hc4:=hcs ck (List.mem_of_getElem? hck)
   obtain⟨n,rfl⟩:∃ n:Nat,ck=n:=⟨ck.toNat,by omega⟩
   repeat' first|refine sk129 ?_|(intro b;conv=>whnf)
   refine aa5 mixed aa0 (γ:=Nat × Nat × List (List Int) × Value × aa1) (fun g=>[(13,iD g.1),(10,iD g.2.1),(12,.v g.2.2.2.1)]) (fun g=>g.2.2.2.2++s) (fun g=>g.1<=n/\g.2.1<=a0+g.1*400/\g.2.2.1.length=g.1/\(∀ r∈g.2.2.1,r.length<=50/\∀ v∈r,Tn v)/\RW1 g.2.2.1 g.2.2.2.1 g.2.2.2.2) (fun g=>n-g.1) (0,a0,[],.slice none 0 0,[]) (aa2 cl6) (Sc.refl _) ⟨Nat.zero_le _,by simp only;omega,rfl,by simp,RowsOf.nil _ _⟩ ?_
   rintro⟨i,a1,l,v1,s1⟩ ⟨hi,ha1,hll,hlr,hrow1⟩
   simp only at hi ha1 hll hlr hrow1 ⊢
   by_cases hin:i<n
   ·repeat' first|refine sk129 ?_|(intro b;conv=>whnf)
    refine aa5 mixed aa0 (γ:=Nat × Nat × List Int × Value × aa1) (fun g=>[(15,iD g.1),(10,iD g.2.1),(14,.v g.2.2.2.1)]) (fun g=>g.2.2.2.2++(s1++s)) (fun g=>g.1<=kd.fields.length/\g.2.1<=a1+g.1/\g.2.2.1.length=g.1/\(∀ v∈g.2.2.1,Tn v)/\RI g.2.2.1 g.2.2.2.1 g.2.2.2.2) (fun g=>kd.fields.length-g.1) (0,a1,[],.slice none 0 0,[]) (aa2 cl6) (Sc.refl _) ⟨Nat.zero_le _,by simp only;omega,rfl,by simp,RowIs.nil _ _⟩ ?_
    rintro⟨j,a2,r,v2,s2⟩ ⟨hj,ha2,hrl,hrv,hrow2⟩
    simp only at hj ha2 hrl hrv hrow2 ⊢
    by_cases hjl:j<kd.fields.length
    ·obtain⟨f,hf⟩:∃ y,kd.fields[j]?=some y:=⟨_,List.getElem?_eq_getElem hjl⟩
     have hf':kd.fields[((j:Nat):Int).toNat]?=some f:=hf
     have hq12:=ac6 p ((a2:Int).tmod (if ((p.map fun n=>[iD n]).length:Int)<1 then (1:Int) else ((p.map fun n=>[iD n]).length:Int))) 12
     have hv12:Tn (atE p ((a2:Int).tmod (if ((p.map fun n=>[iD n]).length:Int)<1 then (1:Int) else ((p.map fun n=>[iD n]).length:Int))) 12-2):=⟨by omega,by omega⟩
     have hul:=ay3 x k j
     have HUp:=HU k j
     by_cases hk1:f.kind=1
     ·generalize upIx x k j=u at *
      by_cases hu:0<=u
      ·have hu2:=hul hu
       obtain⟨o,rfl⟩:∃ o:Nat,u=o:=⟨u.toNat,by omega⟩
       obtain⟨co,hco⟩:∃ y,cs[((o:Nat):Int).toNat]?=some y:=⟨_,List.getElem?_eq_getElem (by simp;omega)⟩
       have hco4:=hcs co (List.mem_of_getElem? hco)
       have hq:=ac6 p ((a2:Int).tmod (if ((p.map fun n=>[iD n]).length:Int)<1 then (1:Int) else ((p.map fun n=>[iD n]).length:Int))) (if co<1 then 1 else co)
       have hq2:Tn (atE p ((a2:Int).tmod (if ((p.map fun n=>[iD n]).length:Int)<1 then (1:Int) else ((p.map fun n=>[iD n]).length:Int))) (if co<1 then 1 else co)):=⟨by omega,by have:=hq.2 (by split<;>omega);split at this<;>omega⟩
       repeat' first|refine sk129 ?_|(intro b;conv=>whnf)
       generalize atE p ((a2:Int).tmod (if ((p.map fun n=>[iD n]).length:Int)<1 then (1:Int) else ((p.map fun n=>[iD n]).length:Int))) (if co<1 then 1 else co)=z at *
       have hz:=hq2
       refine Ap.go rfl rfl rfl rfl hrow2 (List.Perm.refl _) rfl (zs:=(r++[z]).map fun n=>[iD n]) (by rw [List.map_append];rfl) (sz_i (c:=1000) (by simp;omega) (by decide)) (by simp;omega) (fun s'=>s'++(s1++s)) (fun s'=>List.Perm.refl _) (fun a3 c3 s3 hr3=>?_)
       repeat' first|refine sk129 ?_|(intro b;conv=>whnf)
       exact⟨(j+1,a2+1,r++[z],_,s3),(aa2 cl6),Sc.refl _,⟨by simp only;omega,by simp only;omega,by simp only [List.length_append,List.length_singleton];omega,fun v h=>(List.mem_append.1 h).elim (hrv v) (fun h=>by rw [List.mem_singleton] at h;rw [h];exact hz),hr3⟩,by simp only;omega⟩
      ·repeat' first|refine sk129 ?_|(intro b;conv=>whnf)
       generalize atE p ((a2:Int).tmod (if ((p.map fun n=>[iD n]).length:Int)<1 then (1:Int) else ((p.map fun n=>[iD n]).length:Int))) 12-2=z at *
       have hz:=hv12
       refine Ap.go rfl rfl rfl rfl hrow2 (List.Perm.refl _) rfl (zs:=(r++[z]).map fun n=>[iD n]) (by rw [List.map_append];rfl) (sz_i (c:=1000) (by simp;omega) (by decide)) (by simp;omega) (fun s'=>s'++(s1++s)) (fun s'=>List.Perm.refl _) (fun a3 c3 s3 hr3=>?_)
       repeat' first|refine sk129 ?_|(intro b;conv=>whnf)
       exact⟨(j+1,a2+1,r++[z],_,s3),(aa2 cl6),Sc.refl _,⟨by simp only;omega,by simp only;omega,by simp only [List.length_append,List.length_singleton];omega,fun v h=>(List.mem_append.1 h).elim (hrv v) (fun h=>by rw [List.mem_singleton] at h;rw [h];exact hz),hr3⟩,by simp only;omega⟩
     ·repeat' first|refine sk129 ?_|(intro b;conv=>whnf)
      generalize atE p ((a2:Int).tmod (if ((p.map fun n=>[iD n]).length:Int)<1 then (1:Int) else ((p.map fun n=>[iD n]).length:Int))) 12-2=z at *
      have hz:=hv12
      refine Ap.go rfl rfl rfl rfl hrow2 (List.Perm.refl _) rfl (zs:=(r++[z]).map fun n=>[iD n]) (by rw [List.map_append];rfl) (sz_i (c:=1000) (by simp;omega) (by decide)) (by simp;omega) (fun s'=>s'++(s1++s)) (fun s'=>List.Perm.refl _) (fun a3 c3 s3 hr3=>?_)
      repeat' first|refine sk129 ?_|(intro b;conv=>whnf)
      exact⟨(j+1,a2+1,r++[z],_,s3),(aa2 cl6),Sc.refl _,⟨by simp only;omega,by simp only;omega,by simp only [List.length_append,List.length_singleton];omega,fun v h=>(List.mem_append.1 h).elim (hrv v) (fun h=>by rw [List.mem_singleton] at h;rw [h];exact hz),hr3⟩,by simp only;omega⟩
    ·obtain rfl:j=kd.fields.length:=by omega
     obtain⟨vs,s0,ts,g1,g2,g3⟩:=hrow1.ex
     have hvl:=g2.len.1
     obtain⟨a4,c4,rfl⟩:=cj7 hrow2
     have hfew:i<4:=by omega
     repeat' first|refine sk129 ?_|(intro b;conv=>whnf)
     refine Ap.go rfl rfl rfl rfl g1 (show (s2++(s1++s)).Perm (s0++(ts.flatten++(s2++s))) by (refine ad8 fun a=>?_;have e1:=aN2 g3 a;simp only [List.append_eq,List.nil_append,ad9,ah8,ah7,rfC,atC,iD,bD] at e1 ⊢;omega)) rfl (zs:=vs.map (fun u=>[D.v u])++[[D.v (.slice a4 r.length c4)]]) rfl (sz_2 (c:=1000) (by omega) (by decide)) (by simp;omega) (fun s3=>s3++(ts.flatten++s2)++s) (fun s3=>cl9) (fun a3 c3 s3 hr3=>?_)
     repeat' first|refine sk129 ?_|(intro b;conv=>whnf)
     exact⟨(i+1,a2,l++[r],_,s3++(ts.flatten++s2)),(aa2 cl6),Sc.refl _,⟨by simp only;omega,by simp only;omega,by simp only [List.length_append,List.length_singleton];omega,fun y h=>(List.mem_append.1 h).elim (hlr y) (fun h=>by rw [List.mem_singleton] at h;rw [h];exact⟨by omega,hrv⟩),aK6 g2 hr3 hrow2 (List.Perm.refl _)⟩,by simp only;omega⟩
   ·obtain rfl:i=n:=by omega
    obtain⟨vs,s0,ts,g1,g2,g3⟩:=hrow.ex
    have hvl:=g2.len.1
    obtain⟨a4,c4,rfl⟩:=RowsOf.slice hrow1
    repeat' first|refine sk129 ?_|(intro b;conv=>whnf)
    refine Ap.go rfl rfl rfl rfl g1 (show (s1++s).Perm (s0++(ts.flatten++s1)) by (refine ad8 fun a=>?_;have e1:=aN2 g3 a;simp only [List.append_eq,List.nil_append,ad9,ah8,ah7,rfC,atC,iD,bD] at e1 ⊢;omega)) rfl (zs:=vs.map (fun u=>[D.v u])++[[D.v (.slice a4 l.length c4)]]) rfl (sz_2 (c:=1000) (by omega) (by decide)) (by simp;omega) (fun s3=>s3++(ts.flatten++s1)) (fun s3=>List.Perm.refl _) (fun a3 c3 s3 hr3=>?_)
    repeat' first|refine sk129 ?_|(intro b;conv=>whnf)
    exact⟨(k+1,a1,w++[l],_,s3++(ts.flatten++s1)),(aa2 cl6),Sc.refl _,⟨by simp only;omega,by simp only;omega,by simp only [List.length_append,List.length_singleton];omega,⟨by simp only [List.length_append,List.length_singleton];omega,fun y h=>(List.mem_append.1 h).elim (hw.n y) (fun h=>by rw [List.mem_singleton] at h;rw [h];omega),fun y h=>(List.mem_append.1 h).elim (hw.f y) (fun h=>by rw [List.mem_singleton] at h;rw [h];exact fun z hz=>(hlr z hz).1),fun y h=>(List.mem_append.1 h).elim (hw.v y) (fun h=>by rw [List.mem_singleton] at h;rw [h];exact fun z hz=>(hlr z hz).2)⟩,aK6 g2 hr3 hrow1 (List.Perm.refl _)⟩,by simp only;omega⟩
  ·obtain rfl:k=x.kinds.length:=by omega
   repeat' first|refine sk129 ?_|(intro b;conv=>whnf)
   exact Rt.same ⟨_,_,rfl,hrow,hw⟩
end
section
open Go
def oK (w:Wd) (k:Nat) (x:List (List Int)):Wd:=w.take k++x::List.replicate (w.length-k-1) []
theorem cp0 {w:Wd} {k:Nat} (h:k<w.length) (x:List (List Int)):(oK w k x).length=w.length:=by unfold oK;simp;omega
theorem cw3 {w:Wd} {k:Nat} (h:k<w.length) (x:List (List Int)):(oK w k x)[k]?=some x:=by
 unfold oK
 rw [List.getElem?_append_right (by simp;omega),List.length_take,show k-min k w.length=0 by omega]
 rfl
theorem co9 {w:Wd} {k:Nat} (h:k<w.length) (x y:List (List Int)):(oK w k x).set k y=oK w k y:=by
 unfold oK
 rw [List.set_append_right _ _ (by simp;omega),List.length_take,show k-min k w.length=0 by omega]
 rfl
theorem bM4 {w:Wd} {k:Nat} (h:k<w.length):w.take k++List.replicate (w.length-k) []=oK w k []:=by
 unfold oK
 rw [show w.length-k=(w.length-k-1)+1 by omega,List.replicate_succ]
 rfl
theorem cc2 {w:Wd} {k:Nat} {l:List (List Int)} (h:w[k]?=some l):oK w k l=w.take (k+1)++List.replicate (w.length-(k+1)) []:=by
 unfold oK
 rw [List.take_add_one,h,show w.length-k-1=w.length-(k+1) by omega]
 simp
theorem by6 (w:Wd) (hw:WTiny w):ACall Tryz.prog 23 [slW w] [] (fun d s=>∃ v,d = .v v/\RW w v s):=by
 have hwk:=hw.k
 refine eC7 Tryz.func23 Tryz.ntmps23 fun BB=>?_
 repeat' first|refine sk2 ?_|(intro b;conv=>whnf)
 refine Mk.go w.length rfl rfl rfl rfl rfl (by simp) (by omega) (by omega) (fun bo=>?_)
 repeat' first|refine sk2 ?_|(intro b;conv=>whnf)
 have hR0:RW (w.take 0++List.replicate (w.length-0) []) (.slice (some ⟨bo,0,none⟩) w.length w.length) [(bo,.cells 62 (List.replicate w.length (.v (.slice none 0 0))))]:=
  RowsOf.made (R:=RW1) (x0:=[]) (RowsOf.nil _ _) _ bo (by unfold maxLen;omega)
 refine aa5 mixed aa0 (γ:=Nat × aa1) (fun g=>[(4,iD g.1)]) (fun g=>g.2) (fun g=>g.1<=w.length/\RW (w.take g.1++List.replicate (w.length-g.1) []) (.slice (some ⟨bo,0,none⟩) w.length w.length) g.2) (fun g=>w.length-g.1) (0,_) (aa2 cl6) (Sc.refl _) ⟨Nat.zero_le _,hR0⟩ ?_
 clear hR0
 rintro⟨k,s⟩ ⟨hk,hR⟩
 simp only at hk hR ⊢
 by_cases hkl:k<w.length
 ·obtain⟨l,hl⟩:∃ l,w[k]?=some l:=⟨_,List.getElem?_eq_getElem hkl⟩
  have hl':w[((k:Nat):Int).toNat]?=some l:=hl
  have hln:=hw.n l (List.mem_of_getElem? hl)
  rw [bM4 hkl] at hR
  repeat' first|refine sk2 ?_|(intro b;conv=>whnf)
  refine aa5 mixed aa0 (γ:=Nat × aa1) (fun g=>[(5,iD g.1)]) (fun g=>g.2) (fun g=>g.1<=l.length/\RW (oK w k (l.take g.1)) (.slice (some ⟨bo,0,none⟩) w.length w.length) g.2) (fun g=>l.length-g.1) (0,s) (aa2 cl6) (Sc.refl _) ⟨Nat.zero_le _,hR⟩ ?_
  clear hR
  rintro⟨i,s⟩ ⟨hi,hR⟩
  simp only at hi hR ⊢
  by_cases hil:i<l.length
  ·obtain⟨r,hr⟩:∃ r,l[i]?=some r:=⟨_,List.getElem?_eq_getElem hil⟩
   have hr':l[((i:Nat):Int).toNat]?=some r:=hr
   have hrl:=hw.f l (List.mem_of_getElem? hl) r (List.mem_of_getElem? hr)
   obtain⟨b0,cap0,cs0,u,t,τ,e0,p0,c0,hu,upo⟩:=RowsOf.at hR (cw3 hkl (l.take i))
   rw [cp0 hkl] at e0
   cases e0
   obtain⟨a1,ca1,rfl⟩:=RowsOf.slice hu
   obtain⟨vs,s0,ts,g1,g2,g3⟩:=hu.ex
   have hvl:=g2.len.1
   rw [List.length_take] at hvl
   repeat' first|refine sk97 ?_|(intro b;conv=>whnf)
   refine dr7 ?_
   refine ah2 mixed aa0 rfl [0,1,2,3,4,7,8,9,10,11,12,13] 7 (inE [5,6,14,16,18]) (.two 5 (.one 6 (.one 14 (.fst 15 (.one 16 (.fst 17 (.one 18 .done)))))) 6 (.two 5 (.one 14 (.fst 15 (.one 16 (.fst 17 (.one 18 .done))))) 14 (.fst 15 (.one 5 (.one 16 (.fst 17 (.one 18 .done))))))) (γ:=aa1) (fun _=>[]) (fun g=>g) (fun g=>RW (oK w k (l.take (i+1))) (.slice (some ⟨bo,0,none⟩) w.length w.length) g) (by decide +kernel) ?_ ?_
   ·repeat' first|refine sk2 ?_|(intro b;conv=>whnf)|(refine And.intro ?_ ?_<;>(conv=>whnf))|(refine Ld.cellm (tb:=62) (cs:=cs0) (p0.mem_iff.2 List.mem_cons_self) (by rw [ix1];exact c0) ?_)|(refine Ld.cellm (tb:=62) (cs:=cs0) (List.mem_append_right _ (p0.mem_iff.2 List.mem_cons_self)) (by rw [ix1];exact c0) ?_)|(refine Ap.go rfl rfl rfl rfl (RowIs.e0 _ _ (some ⟨b,0,none⟩)) (List.Perm.refl ([]++s)) (cw2 r) (zs:=r.map fun n=>[iD n]) rfl (sz_i (c:=50) hrl (by decide)) (by simp;omega) (fun s'=>s'++s) (fun s'=>List.Perm.refl _) (fun a5 c5 s5 hr5=>?_))|(refine Ap.go rfl rfl rfl rfl g1 (τ:=((bo,Blk.cells 62 cs0)::(ts.flatten++(τ++s5)))) (by refine ad8 fun a=>?_;have e1:=aN2 p0 a;have e2:=aN2 g3 a;simp only [List.append_eq,List.nil_append,ad9,ah8,ah7] at e1 e2 ⊢;omega) rfl (zs:=vs.map (fun u=>[D.v u])++[[D.v (.slice a5 (r.map fun n=>[iD n]).length c5)]]) rfl (sz_2 (c:=50) (by omega) (by decide)) (by simp;omega) (fun s'=>s'++((bo,Blk.cells 62 cs0)::(ts.flatten++(τ++s5)))) (fun s'=>List.Perm.refl _) (fun a6 c6 s6 hr6=>?_))
    all_goals
     have hpu:=aK6 g2 hr6 (x:=r) hr5 (s':=s6++(ts.flatten++s5)) (List.Perm.refl _)
     rw [show l.take i++[r]=l.take (i+1) by rw [List.take_add_one,hr];rfl] at hpu
     have hfin:=upo _ _ _ ((bo,.cells 62 (cs0.set k (.v (.slice a6 (vs.map (fun u=>[D.v u])++[[D.v (.slice a5 (r.map fun n=>[iD n]).length c5)]]).length c6))))::((s6++(ts.flatten++s5))++τ)) hpu (List.Perm.refl _)
     rw [co9 hkl] at hfin
     refine Sv.cellm (tb:=62) (cs:=cs0) (cs':=cs0.set k (.v (.slice a6 (vs.map (fun u=>[D.v u])++[[D.v (.slice a5 (r.map fun n=>[iD n]).length c5)]]).length c6))) (τ:=s6++(ts.flatten++(τ++s5))) cl4 (by rw [ix1];exact (List.getElem?_eq_some_iff.1 c0).1) rfl (by rw [ix1]) ?_
     repeat' first|refine sk2 ?_|(intro b;conv=>whnf)
     exact⟨_,(aa2 cl3),Sc.perm cl4,hfin⟩
   ·intro g hg
    repeat' first|refine sk2 ?_|(intro b;conv=>whnf)
    exact⟨(i+1,g),(aa2 cl6),Sc.refl _,⟨by simp only;omega,hg⟩,by simp only;omega⟩
  ·obtain rfl:i=l.length:=by omega
   rw [List.take_length,cc2 hl] at hR
   repeat' first|refine sk2 ?_|(intro b;conv=>whnf)
   exact⟨(k+1,s),(aa2 cl6),Sc.refl _,⟨by simp only;omega,hR⟩,by simp only;omega⟩
 ·obtain rfl:k=w.length:=by omega
  rw [List.take_length,Nat.sub_self,List.replicate_zero,List.append_nil] at hR
  repeat' first|refine sk2 ?_|(intro b;conv=>whnf)
  exact Rt.same ⟨_,rfl,hR⟩
end
section
open Go
theorem CF.e0 {nm of up:ByteArray} {kd lo hi:Int} (h1:nm.size<=12) (h2:of.size<=12) (h3:up.size<=12) (h4:0<=kd/\kd<=8) (h5:-1000<=lo/\lo<=1000) (h6:-1000<=hi/\hi<=1000):CF ⟨nm,of,up,kd,lo,hi,[],[]⟩:=
 ⟨h1,h2,h3,by simp,by simp,by simp,by simp,h4,h5,h6⟩
theorem PlainF.cf {fs:List Fld} (h:PlainF fs):fs.length<=2/\∀ f∈fs,CF f:=by
 cases h with
 | none=>exact⟨by simp,by simp⟩
 | size a b ha hb=>exact⟨by simp,fun f hf=>by rw [List.mem_singleton] at hf;subst hf;exact .e0 (by decide) (by decide) (by decide) (by omega) (by omega) (by omega)⟩
 | tag n ws hn hw h0 h1=>
  refine⟨by simp,fun f hf=>?_⟩
  rw [List.mem_singleton] at hf
  subst hf
  refine⟨show nTag.size<=12 by decide,show nE.size<=12 by decide,show nE.size<=12 by decide,?_,fun s hs=>?_,by show ws.length<=3;omega,fun z hz=>?_,show (0:Int)<=3/\(3:Int)<=8 by decide,show (-1000:Int)<=0/\(0:Int)<=1000 by decide,show (-1000:Int)<=0/\(0:Int)<=1000 by decide⟩
  ·show (List.take n _).length<=3
   rw [List.length_take];simp;omega
  ·have:=List.mem_of_mem_take hs
   simp only [List.mem_cons,List.not_mem_nil,or_false] at this
   rcases this with rfl|rfl|rfl<;>decide
  ·have:=h0 z hz;omega
 | born a b c d ha hb hc hd=>
  refine⟨by simp,fun f hf=>?_⟩
  simp only [List.mem_cons,List.not_mem_nil,or_false] at hf
  rcases hf with rfl|rfl
  ·exact .e0 (by decide) (by decide) (by decide) (by omega) (by omega) (by omega)
  ·exact .e0 (by decide) (by decide) (by decide) (by omega) (by omega) (by omega)
 | state a b ha hb=>exact⟨by simp,fun f hf=>by rw [List.mem_singleton] at hf;subst hf;exact .e0 (by decide) (by decide) (by decide) (by omega) (by omega) (by omega)⟩
 | low a b c d ha hb hc hd=>
  refine⟨by simp,fun f hf=>?_⟩
  simp only [List.mem_cons,List.not_mem_nil,or_false] at hf
  rcases hf with rfl|rfl
  ·exact .e0 (by decide) (by decide) (by decide) (by omega) (by omega) (by omega)
  ·exact .e0 (by decide) (by decide) (by decide) (by omega) (by omega) (by omega)
structure CK1 (k:Knd):Prop where
 ck:CK k
 one:k.fields.length<=9\/0<=am7 k.fields aq7
theorem cr0 (n:Nat) (h:n<=2):1<=(knm n).size/\(knm n).size<=12:=by
 rcases n with _ | _ | _|n
 ·decide
 ·decide
 ·decide
 ·omega
theorem RefP.cf {ks ks':List Knd} {nm:ByteArray} {f1:List Fld} (h:RefP ks nm f1 ks') (hn:nm.size<=12) (hk:∀ k∈ks,CK1 k):(f1.length<=3/\∀ f∈f1,CF f)/\ks'.length=ks.length/\∀ k∈ks',CK1 k:=by
 have ofc:∀ {tw0:Nat} {y:Knd} {lo hi:Int},ks[tw0]?=some y->(lo=0\/lo=1)->hi∈[(4:Int),3,8,2]->CF (ofF y lo hi):=fun hy hl hh=>by
  have:=(hk _ (List.mem_of_getElem? hy)).ck.nm
  simp only [List.mem_cons,List.not_mem_nil,or_false] at hh
  exact .e0 (by decide) (by omega) (by decide) (by decide) (by omega) (by omega)
 have smc:∀ {tw0:Nat} {y:Knd} {sm:List Fld},ks[tw0]?=some y->(sm=[]\/∃ g,0<=aq8 y/\y.fields[(aq8 y).toNat]?=some g/\sm=[at4 g.name])->sm.length<=1/\∀ f∈sm,CF f:=fun hy hs=>by
  rcases hs with rfl|⟨g,_,hg,rfl⟩
  ·exact⟨by simp,by simp⟩
  ·have:=((hk _ (List.mem_of_getElem? hy)).ck.fs g (List.mem_of_getElem? hg)).nm
   exact⟨by simp,fun f hf=>by rw [List.mem_singleton] at hf;subst hf;exact .e0 (by decide) (by omega) (by decide) (by decide) (by decide) (by decide)⟩
 cases h with
 | none h=>exact⟨⟨by simp,by simp⟩,rfl,hk⟩
 | of tw0 y lo hi sm hy hl hh hs=>
  have h1:=ofc hy hl hh
  have h2:=smc hy hs
  exact⟨⟨by have:=h2.1;simp only [List.length_cons];omega,fun f hf=>by
   rcases List.mem_cons.1 hf with rfl|hf
   ·exact h1
   ·exact h2.2 f hf⟩,rfl,hk⟩
 | part tw0 y lo hi a b sm hy hl hh hs ht ha hb=>
  have h1:=ofc hy hl hh
  have h2:=smc hy hs
  have h3:=hk _ (List.mem_of_getElem? hy)
  refine⟨⟨by have:=h2.1;simp only [List.length_cons,List.length_append,List.length_nil];omega,fun f hf=>?_⟩,List.length_set ..,fun k hk'=>?_⟩
  ·rcases List.mem_cons.1 hf with rfl|hf
   ·exact h1
   ·rcases List.mem_append.1 hf with hf|hf
    ·exact h2.2 f hf
    ·rw [List.mem_singleton] at hf;subst hf;exact .e0 (by decide) (by decide) (by decide) (by decide) (by omega) (by omega)
  ·rcases List.mem_or_eq_of_mem_set hk' with h|rfl
   ·exact hk k h
   ·refine⟨⟨h3.ck.nm,h3.ck.lo,h3.ck.hi,?_,fun f hf=>?_⟩,.inr ?_⟩
    ·show (y.fields++[totF nm]).length<=10
     rw [List.length_append]
     have:=h3.one
     simp only [List.length_cons,List.length_nil]
     omega
    ·rcases List.mem_append.1 hf with hf|hf
     ·exact h3.ck.fs f hf
     ·rw [List.mem_singleton] at hf;subst hf;exact .e0 (by decide) hn (by decide) (by decide) (by decide) (by decide)
    ·have:=ai2 (fun f:Fld=>seq f.name aq7) (y.fields++[totF nm])
     rw [List.any_append,show List.any [totF nm] (fun f=>seq f.name aq7)=true by simp [totF,ar0],Bool.or_true] at this
     exact of_decide_eq_true this
theorem KMade.cls {ks ks':List Knd} {k:Knd} (h:KMade ks k ks') (hl:ks.length<=2) (hk:∀ k∈ks,CK1 k):CK1 k/\ks'.length=ks.length/\∀ k∈ks',CK1 k:=by
 obtain⟨lo,r,idl,f1,f2,p1,p2,h1,h2,h3,rfl,h5,h6,h7,h8,_⟩:=h.ex
 have hn:=cr0 ks.length hl
 obtain⟨⟨q1,q2⟩,q3,q4⟩:=h5.cf hn.2 hk
 have q5:=h7.cf
 have q6:=h8.cf
 have q7:f2.length<=1/\∀ f∈f2,CF f:=by
  rcases h6 with rfl|⟨y,hy,_,rfl⟩
  ·exact⟨by simp,by simp⟩
  ·have:=(hk _ (List.mem_of_getElem? hy)).ck.nm
   exact⟨by simp,fun f hf=>by rw [List.mem_singleton] at hf;subst hf;exact .e0 (by decide) (by omega) (by decide) (by decide) (by decide) (by decide)⟩
 have hlen:(idF idl::(f1++(f2++(p1++p2)))).length<=9:=by
  simp only [List.length_cons,List.length_append];omega
 simp only [List.mem_cons,List.not_mem_nil,or_false] at h1 h3
 refine⟨⟨⟨hn,by show -1000<=lo/\lo<=1000;omega,by show -1000<=lo+r/\lo+r<=1000;omega,by show List.length (idF idl::(f1++(f2++(p1++p2))))<=10;omega,fun f hf=>?_⟩,.inl hlen⟩,q3,q4⟩
 rcases List.mem_cons.1 hf with rfl|hf
 ·exact .e0 (by decide) (by decide) (by decide) (by decide) (by omega) (by decide)
 ·rcases List.mem_append.1 hf with hf|hf
  ·exact q2 f hf
  ·rcases List.mem_append.1 hf with hf|hf
   ·exact q7.2 f hf
   ·rcases List.mem_append.1 hf with hf|hf
    ·exact q5.2 f hf
    ·exact q6.2 f hf
end
section
open Go Go.RowKit Go.Shelf
inductive KChain:List Knd->Prop
 | nil:KChain []
 | step {ks ks':List Knd} {k:Knd} (h:KChain ks) (m:KMade ks k ks') (l:ks'.length=ks.length):KChain (ks'++[k])
inductive RChain (ks:List Knd):Nat->List Rul->Prop
 | nil:RChain ks 0 []
 | skip {i:Nat} {rs:List Rul} (h:RChain ks i rs):RChain ks (i+1) rs
 | take {i:Nat} {rs:List Rul} {k:Knd} {r:Rul} (h:RChain ks i rs) (hk:ks[i]?=some k) (hr:RuleF k r):RChain ks (i+1) (rs++[r])
theorem KChain.ck {ks:List Knd} (h:KChain ks) (hl:ks.length<=3):∀ k∈ks,CK1 k:=by
 induction h with
 | nil=>simp
 | step h m l ih=>
  rw [List.length_append,List.length_singleton] at hl
  obtain⟨h1,h2,h3⟩:=m.cls (by omega) (ih (by omega))
  intro k hk
  rcases List.mem_append.1 hk with hk|hk
  ·exact h3 k hk
  ·rw [List.mem_singleton] at hk;subst hk;exact h1
abbrev stL:List ByteArray:=[⟨#[110,101,119]⟩,⟨#[111,112,101,110]⟩,⟨#[100,111,110,101]⟩,⟨#[115,104,117,116]⟩]
structure GenX (x:Sch):Prop where
 ver:0<=x.version/\x.version<4
 nk:1<=x.kinds.length/\x.kinds.length<=3
 ks:KChain x.kinds
 ls:∃ (m:Nat) (mv:List (Int × Int)),2<=m/\m<=4/\x.lives=[⟨nLife,stL.take m,mv⟩]/\mv.length<=5/\∀ p∈mv,(0<=p.1/\p.1<m)/\(0<=p.2/\p.2<m)
 nr:x.rules.length<=2
 rs:∃ i,i<=x.kinds.length/\RChain x.kinds i x.rules
abbrev scB (b:Nat) (ver:Int) (kv lv rv:Value):Nat × Blk:=(b,.cells 28 [iD ver,.v kv,.v lv,.v rv])
abbrev zS:List D:=[.v (zv (ZV.int IntKind.i64)),.v (zv ZV.sl),.v (zv ZV.sl),.v (zv ZV.sl)]
theorem cl28 {p:Prop} (h:p:=by (refine ad8 fun a=>?_;simp only [kdB,mkB,scB,List.append_eq,List.nil_append,ad9,ah8,ah7,sD,iD,bD];omega)):p:=h
theorem cl29 {p:Prop} (h:p:=by (refine ad8 fun a=>?_;simp only [kdB,mkB,scB,List.append_eq,List.nil_append,ad9,ah8,ah7,sD,iD,bD];omega)):p:=h
theorem cl30 {p:Prop} (h:p:=by first|exact List.Perm.refl _|((refine ad8 fun a=>?_;simp only [kdB,mkB,scB,List.append_eq,List.nil_append,ad9,ah8,ah7,sD,iD,bD];omega))):p:=h
theorem br2 (l:List Int) (hl:I64s l):ACall Tryz.prog 6 [slI l] [] (fun d σ=>∃ x,d=schD x/\σ=[]/\GenX x):=by
 have hll:=hl.2
 have hx:I64s (l.take 200):=⟨fun z hz=>hl.1 z (List.mem_of_mem_take hz),by have:=List.length_take_le 200 l;omega⟩
 generalize hxs:l.take 200=xs at hx
 have e0:List.take (if (200:Int)<((l.map fun x=>[iD x]).length:Int) then 200 else ((l.map fun x=>[iD x]).length:Int)).toNat (l.map fun x=>[iD x])=xs.map fun x=>[iD x]:=by
  rw [List.length_map,← hxs,List.map_take]
  split
  ·rfl
  ·rw [List.take_of_length_le (by rw [List.length_map];omega),List.take_of_length_le (by rw [List.length_map];omega)]
 refine eC7 Tryz.func6 Tryz.ntmps6 fun BB=>?_
 repeat' first|refine sk115 ?_|(intro b;conv=>whnf)
 generalize b=b2
 rw [e0]
 refine Bx.r (OtE.box rfl rfl (fun bm=>?_))
 have h0:=ac6 xs 0 4
 have h0':=h0.2 (by omega)
 have h1:=ac6 xs (0+1) 3
 have h1':=h1.2 (by omega)
 obtain⟨n1,hn1⟩:∃ n:Nat,atE xs (0+1) 3=n:=⟨(atE xs (0+1) 3).toNat,by omega⟩
 repeat' first|refine sk115 ?_|(intro b;conv=>whnf)|((refine CE.own (aa8 xs hx bm _ _ ⟨by omega,by omega⟩) (List.Perm.refl ([mkB bm xs _]++_)) (fun s'=>s'++_) (fun s'=>List.Perm.refl _) ?_);(rintro _ _ ⟨rfl,rfl⟩))|((refine CE.own (aa8 xs hx bm _ _ ⟨by omega,by omega⟩) (show List.Perm (_::mkB bm xs _::_) ([mkB bm xs _]++(_::_)) from List.Perm.swap _ _ _) (fun s'=>s'++(_::_)) (fun s'=>List.Perm.refl _) ?_);(rintro _ _ ⟨rfl,rfl⟩))
 rw [hn1]
 repeat' first|refine sk76 ?_|(intro b;conv=>whnf)
 generalize b=b4
 refine aa5 mixed aa0 (γ:=Nat × Int × List Knd × Value × aa1) (fun g=>[(6,iD g.1)]) (fun g=>mkB bm xs g.2.1::scB b4 (atE xs 0 4) g.2.2.2.1 (.slice none 0 0) (.slice none 0 0)::(b2,.cells 28 zS)::g.2.2.2.2) (fun g=>g.1<=1+n1/\(2<=g.2.1/\g.2.1<=2+g.1*100)/\g.2.2.1.length=g.1/\KChain g.2.2.1/\RowIs 85 4 (g.2.2.1.map kndC) g.2.2.2.1 g.2.2.2.2) (fun g=>1+n1-g.1) (0,2,[],.slice none 0 0,[]) (aa2 cl3) (Sc.perm (by first|exact List.Perm.refl _|exact List.Perm.swap _ _ _)) ⟨Nat.zero_le _,⟨by simp,by simp⟩,rfl,KChain.nil,RowIs.nil _ _⟩ ?_
 rintro⟨i,p1,ks,v,sk⟩ ⟨hi,⟨hp1,hp1'⟩,hkl,hch,hkr⟩
 simp only at hi hp1 hp1' hkl hch hkr ⊢
 obtain⟨a,c,e⟩:=hkr.slice
 rw [List.length_map] at e
 subst e
 by_cases hin:i<1+n1
 ·have hck:=hch.ck (by omega)
  have HK:=bL3 xs hx bm p1 ⟨by omega,by omega⟩ ks (by omega) (fun k hk=>by have:=(hck k hk).ck.nf;omega) a c sk hkr
  repeat' first|refine sk76 ?_|(intro b;conv=>whnf)
  refine dr7 ?_
  refine bB7 mixed aa0 rfl [0,2,3] 7 (.two 1 (.one 4 (.one 5 (.one 6 (.one 7 (.one 8 (.one 9 .done)))))) 4 (.two 1 (.one 5 (.one 6 (.one 7 (.one 8 (.one 9 .done))))) 5 (.two 1 (.one 6 (.one 7 (.one 8 (.one 9 .done)))) 6 (.one 1 (.one 7 (.one 8 (.one 9 .done))))))) (γ:=Int × List Knd × Knd × Value × aa1) (fun _=>[]) (fun g=>mkB bm xs g.1::scB b4 (atE xs 0 4) g.2.2.2.1 (.slice none 0 0) (.slice none 0 0)::(b2,.cells 28 zS)::g.2.2.2.2) (fun g=>(p1<=g.1/\g.1<=p1+100)/\KMade ks g.2.2.1 g.2.1/\RowIs 85 4 ((g.2.1++[g.2.2.1]).map kndC) g.2.2.2.1 g.2.2.2.2) (by decide +kernel) ?_ ?_
  ·repeat' first|refine sk76 ?_|(intro b;conv=>whnf)|(refine And.intro ?_ ?_<;>(conv=>whnf))|((refine CE.own (t:=[scB b4 (atE xs 0 4) (.slice a ks.length c) (.slice none 0 0) (.slice none 0 0),(b2,.cells 28 zS)]) HK cl28 (fun s'=>scB b4 (atE xs 0 4) (.slice a ks.length c) (.slice none 0 0) (.slice none 0 0)::(b2,.cells 28 zS)::s') (fun s'=>cl29) ?_);(rintro _ _ ⟨p2,k,ks2,s2,hp2,rfl,rfl,hkr2,hm⟩);(have hml:=(hm.cls (by omega) hck).2.1))|(refine Ap.go rfl rfl rfl rfl hkr2 (τ:=scB b4 (atE xs 0 4) (.slice a ks.length c) (.slice none 0 0) (.slice none 0 0)::(b2,.cells 28 zS)::[mkB bm xs p2]) cl28 rfl (zs:=(ks2++[k]).map kndC) (by rw [List.map_append];rfl) (by rw [List.length_map,List.length_append,hml];simp only [List.length_singleton];omega) (by rw [List.length_map,List.length_append,hml];simp only [List.length_singleton];omega) (fun s'=>scB b4 (atE xs 0 4) (.slice a ks.length c) (.slice none 0 0) (.slice none 0 0)::(b2,.cells 28 zS)::mkB bm xs p2::s') (fun s'=>cl29) (fun a3 c3 s3 hr3=>?_))
   all_goals exact⟨(p2,ks2,k,_,s3),(aa2 cl3),Sc.perm cl28,hp2,hm,hr3⟩
  ·rintro⟨p2,ks2,k,v2,s2⟩ ⟨⟨hp2,hp2'⟩,hm,hkr2⟩
   simp only at hp2 hp2' hm hkr2 ⊢
   have hml:=(hm.cls (by omega) hck).2.1
   repeat' first|refine sk76 ?_|(intro b;conv=>whnf)
   exact⟨(i+1,p2,ks2++[k],v2,s2),(aa2 cl6),Sc.perm cl30,⟨by simp only;omega,⟨by simp only;omega,by simp only;omega⟩,by simp only [List.length_append,List.length_singleton];omega,hch.step hm hml,hkr2⟩,by simp only;omega⟩
 ·obtain rfl:i=1+n1:=by omega
  have h2:=ac6 xs p1 3
  have h2':=h2.2 (by omega)
  obtain⟨n2,hn2⟩:∃ n:Nat,atE xs p1 3=n:=⟨(atE xs p1 3).toNat,by omega⟩
  have hst:List.take (2+(n2:Int)).toNat [[D.v (Value.string ⟨#[110,101,119]⟩)],[D.v (Value.string ⟨#[111,112,101,110]⟩)],[D.v (Value.string ⟨#[100,111,110,101]⟩)],[D.v (Value.string ⟨#[115,104,117,116]⟩)]]=(stL.take (2+n2)).map fun s=>[sD s]:=by
   rw [show (2+(n2:Int)).toNat=2+n2 by omega,List.map_take];rfl
  have hsl:(stL.take (2+n2)).length=2+n2:=by rw [List.length_take];simp;omega
  repeat' first|refine sk76 ?_|(intro b;conv=>whnf)
  ((refine CE.own (aa8 xs hx bm _ _ ⟨by omega,by omega⟩) (List.Perm.refl ([mkB bm xs _]++_)) (fun s'=>s'++_) (fun s'=>List.Perm.refl _) ?_);(rintro _ _ ⟨rfl,rfl⟩))
  rw [hn2]
  repeat' first|refine sk76 ?_|(intro b;conv=>whnf)
  rw [hst]
  repeat' first|refine sk76 ?_|(intro b;conv=>whnf)
  generalize b=b8
  refine aa5 mixed aa0 (γ:=Nat × List (Int × Int) × Value × aa1) (fun g=>[(9,iD g.1)]) (fun g=>(b8,.cells 89 [sD nLife,slS (stL.take (2+n2)),.v g.2.2.1])::mkB bm xs (p1+1)::scB b4 (atE xs 0 4) (.slice a ks.length c) (.slice none 0 0) (.slice none 0 0)::(b2,.cells 28 zS)::(g.2.2.2++sk)) (fun g=>g.1<=1+n2/\g.2.1.length=g.1/\(∀ q∈g.2.1,(0<=q.1/\q.1<((2+n2:Nat):Int))/\(0<=q.2/\q.2<((2+n2:Nat):Int)))/\RowIs 90 2 (g.2.1.map movC) g.2.2.1 g.2.2.2) (fun g=>1+n2-g.1) (0,[],.slice none 0 0,[]) (aa2 cl3) (Sc.perm (by first|exact List.Perm.refl _|exact List.Perm.swap _ _ _)) ⟨Nat.zero_le _,rfl,by simp,RowIs.nil _ _⟩ ?_
  rintro⟨i,mv,v,s⟩ ⟨hi2,hml,hmq,hmr⟩
  simp only at hi2 hml hmq hmr ⊢
  have hle:((stL.take (2+n2)).map fun s=>[sD s]).length=2+n2:=by rw [List.length_map];exact hsl
  by_cases hin2:i<1+n2
  ·repeat' first|refine sk76 ?_|(intro b;conv=>whnf)
   refine Ap.go rfl rfl rfl rfl hmr (τ:=(b8,.cells 89 [sD nLife,slS (stL.take (2+n2)),.v v])::mkB bm xs (p1+1)::scB b4 (atE xs 0 4) (.slice a ks.length c) (.slice none 0 0) (.slice none 0 0)::(b2,.cells 28 zS)::sk) cl28 rfl (zs:=(mv++[((i:Int),(i:Int)+1)]).map movC) (by rw [List.map_append];rfl) (by simp;omega) (by simp;omega) (fun s'=>(b8,.cells 89 [sD nLife,slS (stL.take (2+n2)),.v v])::mkB bm xs (p1+1)::scB b4 (atE xs 0 4) (.slice a ks.length c) (.slice none 0 0) (.slice none 0 0)::(b2,.cells 28 zS)::(s'++sk)) (fun s'=>cl29) (fun a5 c5 s5 hr5=>?_)
   repeat' first|refine sk76 ?_|(intro b;conv=>whnf)
   refine⟨(i+1,mv++[((i:Int),(i:Int)+1)],_,s5),(aa2 cl6),Sc.refl _,⟨by simp only;omega,by simp only [List.length_append,List.length_singleton];omega,fun q hq=>?_,hr5⟩,by simp only;omega⟩
   rcases List.mem_append.1 hq with h|h
   ·exact hmq q h
   ·rw [List.mem_singleton] at h;subst h;simp only;omega
  ·obtain rfl:i=1+n2:=by omega
   have h3:=ac6 xs (p1+1) 2
   repeat' first|refine sk111 ?_|(intro b;conv=>whnf)
   refine Bc.l ?_
   repeat' first|refine sk111 ?_|(intro b;conv=>whnf)
   ((refine CE.own (t:=(b8,.cells 89 [sD nLife,slS (stL.take (2+n2)),.v v])::scB b4 (atE xs 0 4) (.slice a ks.length c) (.slice none 0 0) (.slice none 0 0)::(b2,.cells 28 zS)::(s++sk)) (aa8 xs hx bm (p1+1) _ ⟨by omega,by omega⟩) cl28 (fun s'=>(b8,.cells 89 [sD nLife,slS (stL.take (2+n2)),.v v])::(s'++(scB b4 (atE xs 0 4) (.slice a ks.length c) (.slice none 0 0) (.slice none 0 0)::(b2,.cells 28 zS)::(s++sk)))) (fun s'=>cl29) ?_);(rintro _ _ ⟨rfl,rfl⟩))
   repeat' first|refine sk111 ?_|(intro b;conv=>whnf)
   refine Bc.j ?_
   refine at6 mixed aa0 (γ:=List (Int × Int) × Value × aa1) (fun _=>[]) (fun g=>(b8,.cells 89 [sD nLife,slS (stL.take (2+n2)),.v g.2.1])::mkB bm xs (p1+1+1)::scB b4 (atE xs 0 4) (.slice a ks.length c) (.slice none 0 0) (.slice none 0 0)::(b2,.cells 28 zS)::(g.2.2++sk)) (fun g=>g.1.length<=4/\(∀ q∈g.1,(0<=q.1/\q.1<((2+n2:Nat):Int))/\(0<=q.2/\q.2<((2+n2:Nat):Int)))/\RowIs 90 2 (g.1.map movC) g.2.1 g.2.2) ?_ ?_
   ·(((with_reducible refine W.mk ?_);(conv=>whnf)))
    refine Bc.l ?_
    by_cases hz3:atE xs (p1+1) 2=0
    ·repeat' first|refine sk111 ?_|(intro b;conv=>whnf)
     refine Ap.go rfl rfl rfl rfl hmr (τ:=(b8,.cells 89 [sD nLife,slS (stL.take (2+n2)),.v v])::mkB bm xs (p1+1+1)::scB b4 (atE xs 0 4) (.slice a ks.length c) (.slice none 0 0) (.slice none 0 0)::(b2,.cells 28 zS)::sk) cl28 rfl (zs:=(mv++[((1:Int),(0:Int))]).map movC) (by rw [List.map_append];rfl) (by simp;omega) (by simp;omega) (fun s'=>(b8,.cells 89 [sD nLife,slS (stL.take (2+n2)),.v v])::mkB bm xs (p1+1+1)::scB b4 (atE xs 0 4) (.slice a ks.length c) (.slice none 0 0) (.slice none 0 0)::(b2,.cells 28 zS)::(s'++sk)) (fun s'=>cl29) (fun a5 c5 s5 hr5=>?_)
     repeat' first|refine sk111 ?_|(intro b;conv=>whnf)
     refine⟨(mv++[((1:Int),(0:Int))],_,s5),(aa2 cl3),Sc.refl _,⟨by simp only [List.length_append,List.length_singleton];omega,fun q hq=>?_,hr5⟩⟩
     rcases List.mem_append.1 hq with h|h
     ·exact hmq q h
     ·rw [List.mem_singleton] at h;subst h;simp only;omega
    ·repeat' first|refine sk111 ?_|(intro b;conv=>whnf)
     exact⟨(mv,v,s),(aa2 cl3),Sc.perm cl30,by simp only;omega,hmq,hmr⟩
   ·clear hmq hmr hml
    rintro⟨mv,v,s⟩ ⟨hml,hmq,hmr⟩
    simp only at hml hmq hmr ⊢
    obtain⟨a8,c8,e8⟩:=hmr.slice
    rw [List.length_map] at e8
    subst e8
    have h4:=ac6 xs (p1+1+1) 3
    repeat' first|refine sk111 ?_|(intro b;conv=>whnf)
    ((refine CE.own (t:=(b8,.cells 89 [sD nLife,slS (stL.take (2+n2)),.v (.slice a8 mv.length c8)])::scB b4 (atE xs 0 4) (.slice a ks.length c) (.slice none 0 0) (.slice none 0 0)::(b2,.cells 28 zS)::(s++sk)) (aa8 xs hx bm (p1+1+1) _ ⟨by omega,by omega⟩) cl28 (fun s'=>(b8,.cells 89 [sD nLife,slS (stL.take (2+n2)),.v (.slice a8 mv.length c8)])::(s'++(scB b4 (atE xs 0 4) (.slice a ks.length c) (.slice none 0 0) (.slice none 0 0)::(b2,.cells 28 zS)::(s++sk)))) (fun s'=>cl29) ?_);(rintro _ _ ⟨rfl,rfl⟩))
    repeat' first|refine sk111 ?_|(intro b;conv=>whnf)
    refine Bc.j ?_
    refine at6 mixed aa0 (γ:=List (Int × Int)) (fun _=>[]) (fun g=>(b8,.cells 89 (lifC ⟨nLife,stL.take (2+n2),g⟩))::mkB bm xs (p1+1+1+1)::scB b4 (atE xs 0 4) (.slice a ks.length c) (.slice none 0 0) (.slice none 0 0)::(b2,.cells 28 zS)::sk) (fun g=>g.length<=5/\(∀ q∈g,(0<=q.1/\q.1<((2+n2:Nat):Int))/\(0<=q.2/\q.2<((2+n2:Nat):Int)))) ?_ ?_
    ·(((with_reducible refine W.mk ?_);(conv=>whnf)))
     refine Bc.l ?_
     have hfz:∀ (v:Value) (m:List (Int × Int)) (s:aa1),RowIs 90 2 (m.map movC) v s->Sc ((b8,.cells 89 [sD nLife,slS (stL.take (2+n2)),.v v])::mkB bm xs (p1+1+1+1)::scB b4 (atE xs 0 4) (.slice a ks.length c) (.slice none 0 0) (.slice none 0 0)::(b2,.cells 28 zS)::(s++sk)) ((b8,.cells 89 (lifC ⟨nLife,stL.take (2+n2),m⟩))::mkB bm xs (p1+1+1+1)::scB b4 (atE xs 0 4) (.slice a ks.length c) (.slice none 0 0) (.slice none 0 0)::(b2,.cells 28 zS)::sk):=fun v m s hr=>
      (Sc.perm cl28).trans (Sc.frz (cs:=[sD nLife,slS (stL.take (2+n2)),.v v]) (j:=2) (s:=s) (τ:=mkB bm xs (p1+1+1+1)::scB b4 (atE xs 0 4) (.slice a ks.length c) (.slice none 0 0) (.slice none 0 0)::(b2,.cells 28 zS)::sk) rfl hr (LeR.refl _))
     by_cases hz4:atE xs (p1+1+1) 3=0
     ·repeat' first|refine sk111 ?_|(intro b;conv=>whnf)
      rw [hle]
      repeat' first|refine sk111 ?_|(intro b;conv=>whnf)
      refine Ap.go rfl rfl rfl rfl hmr (τ:=(b8,.cells 89 [sD nLife,slS (stL.take (2+n2)),.v (.slice a8 mv.length c8)])::mkB bm xs (p1+1+1+1)::scB b4 (atE xs 0 4) (.slice a ks.length c) (.slice none 0 0) (.slice none 0 0)::(b2,.cells 28 zS)::sk) cl28 rfl (zs:=(mv++[((0:Int),((2+n2:Nat):Int)-1)]).map movC) (by rw [List.map_append];rfl) (by simp;omega) (by simp;omega) (fun s'=>(b8,.cells 89 [sD nLife,slS (stL.take (2+n2)),.v (.slice a8 mv.length c8)])::mkB bm xs (p1+1+1+1)::scB b4 (atE xs 0 4) (.slice a ks.length c) (.slice none 0 0) (.slice none 0 0)::(b2,.cells 28 zS)::(s'++sk)) (fun s'=>cl29) (fun a10 c10 s10 hr10=>?_)
      repeat' first|refine sk111 ?_|(intro b;conv=>whnf)
      refine⟨mv++[((0:Int),((2+n2:Nat):Int)-1)],(aa2 cl3),hfz _ _ s10 hr10,by simp only [List.length_append,List.length_singleton];omega,fun q hq=>?_⟩
      rcases List.mem_append.1 hq with h|h
      ·exact hmq q h
      ·rw [List.mem_singleton] at h;subst h;simp only;omega
     ·repeat' first|refine sk111 ?_|(intro b;conv=>whnf)
      exact⟨mv,(aa2 cl3),(Sc.perm cl30).trans (hfz _ mv s hmr),by omega,hmq⟩
    ·clear hmq hmr hml
     rintro mv ⟨hml,hmq⟩
     have hck:=hch.ck (by omega)
     repeat' first|refine sk76 ?_|(intro b;conv=>whnf)
     refine Ap.go rfl rfl rfl rfl (RowIs.nil 89 3) (List.Perm.refl ([]++_)) rfl (zs:=[lifC ⟨nLife,stL.take (2+n2),mv⟩]) rfl (by simp) (by simp) (fun s'=>s'++_) (fun s'=>List.Perm.refl _) (fun a11 c11 s11 hr11=>?_)
     repeat' first|refine sk76 ?_|(intro b;conv=>whnf)
     refine Sv.cellm (tb:=28) (cs:=[iD (atE xs 0 4),.v (.slice a ks.length c),.v (.slice none 0 0),.v (.slice none 0 0)]) (cs':=[iD (atE xs 0 4),.v (.slice a ks.length c),.v (.slice a11 1 c11),.v (.slice none 0 0)]) (τ:=(b8,.cells 89 (lifC ⟨nLife,stL.take (2+n2),mv⟩))::mkB bm xs (p1+1+1+1)::(b2,.cells 28 zS)::(s11++sk)) cl28 (by simp) rfl rfl ?_
     repeat' first|refine sk76 ?_|(intro b;conv=>whnf)
     refine aa5 mixed aa0 (γ:=Nat × Int × List Rul × Value × aa1) (fun g=>[(10,iD g.1)]) (fun g=>mkB bm xs g.2.1::scB b4 (atE xs 0 4) (.slice a ks.length c) (.slice a11 1 c11) g.2.2.2.1::(b2,.cells 28 zS)::(g.2.2.2.2++(s11++sk))) (fun g=>g.1<=ks.length/\(p1+3<=g.2.1/\g.2.1<=p1+3+g.1*20)/\g.2.2.1.length<=2/\RChain ks g.1 g.2.2.1/\RowIs 92 5 (g.2.2.1.map rulC) g.2.2.2.1 g.2.2.2.2) (fun g=>ks.length-g.1) (0,p1+1+1+1,[],.slice none 0 0,[]) (aa2 cl3) (Sc.drop (ρ:=[(b8,.cells 89 (lifC ⟨nLife,stL.take (2+n2),mv⟩))]) cl28) ⟨Nat.zero_le _,⟨by simp only;omega,by simp only;omega⟩,by simp,RChain.nil,RowIs.nil _ _⟩ ?_
     rintro⟨i,p2,rs,rv,s⟩ ⟨hi5,⟨hp2,hp2'⟩,hrl,hrc,hrr⟩
     simp only at hi5 hp2 hp2' hrl hrc hrr ⊢
     obtain⟨a12,c12,e12⟩:=hrr.slice
     rw [List.length_map] at e12
     subst e12
     by_cases hin5:i<ks.length
     ·by_cases hr2:rs.length<2
      ·obtain⟨k,hk⟩:∃ k,ks[i]?=some k:=⟨_,List.getElem?_eq_getElem hin5⟩
       have hk1:=(hck k (List.mem_of_getElem? hk)).ck
       obtain⟨b9,cap9,cs9,e9,e9s,hcs9⟩:=RowIs.get hkr (show (ks.map kndC)[i]?=some (kndC k) by rw [List.getElem?_map,hk];rfl)
       rw [List.length_map] at e9
       cases e9
       subst e9s
       have HR:=bL2 xs hx bm p2 ⟨by omega,by omega⟩ k (by have:=hk1.nf;omega) hk1.nm (fun f hf=>by have h1:=(hk1.fs f hf).lo;have h2:=(hk1.fs f hf).hi;omega)
       repeat' first|refine sk76 ?_|(intro b;conv=>whnf)
       refine Ld.rowm (tb:=85) (cs:=cs9) (x:=kndC k) (by simp) rfl (by decide) (fun j hj=>by rw [show 0+((i:Nat):Int).toNat*4+j=i*4+j by simp];exact hcs9 j hj) ?_
       repeat' first|refine sk76 ?_|(intro b;conv=>whnf)
       refine CE.own (t:=scB b4 (atE xs 0 4) (.slice (some ⟨b9,0,none⟩) ks.length c) (.slice a11 1 c11) (.slice a12 rs.length c12)::(b2,.cells 28 zS)::(s++(s11++[(b9,.cells 85 cs9)]))) HR cl30 (fun s'=>s'++(scB b4 (atE xs 0 4) (.slice (some ⟨b9,0,none⟩) ks.length c) (.slice a11 1 c11) (.slice a12 rs.length c12)::(b2,.cells 28 zS)::(s++(s11++[(b9,.cells 85 cs9)])))) (fun s'=>List.Perm.refl _) ?_
       rintro _ _ ⟨p3,r,ok,⟨hp3,hp3'⟩,rfl,rfl,hok⟩
       cases ok with
       | false=>
        repeat' first|refine sk76 ?_|(intro b;conv=>whnf)
        exact⟨(i+1,p3,rs,.slice a12 rs.length c12,s),(aa2 cl6),Sc.sl (List.sublist_cons_self _ _),⟨by simp only;omega,⟨by simp only;omega,by simp only;omega⟩,hrl,hrc.skip,hrr⟩,by simp only;omega⟩
       | true=>
        repeat' first|refine sk76 ?_|(intro b;conv=>whnf)
        generalize b=b11
        refine Ap.go rfl rfl rfl rfl hrr (τ:=(b11,.cells 92 [sD r.name,sD r.kind,sD r.a,sD r.b,iD r.n])::mkB bm xs p3::scB b4 (atE xs 0 4) (.slice (some ⟨b9,0,none⟩) ks.length c) (.slice a11 1 c11) (.slice a12 rs.length c12)::(b2,.cells 28 zS)::(s11++[(b9,.cells 85 cs9)])) cl28 rfl (zs:=(rs++[r]).map rulC) (by rw [List.map_append];rfl) (by simp;omega) (by simp;omega) (fun s'=>(b11,.cells 92 [sD r.name,sD r.kind,sD r.a,sD r.b,iD r.n])::mkB bm xs p3::scB b4 (atE xs 0 4) (.slice (some ⟨b9,0,none⟩) ks.length c) (.slice a11 1 c11) (.slice a12 rs.length c12)::(b2,.cells 28 zS)::(s'++(s11++[(b9,.cells 85 cs9)]))) (fun s'=>cl29) (fun a13 c13 s13 hr13=>?_)
        repeat' first|refine sk76 ?_|(intro b;conv=>whnf)
        exact⟨(i+1,p3,rs++[r],_,s13),(aa2 cl6),Sc.sl (List.sublist_cons_self _ _),⟨by simp only;omega,⟨by simp only;omega,by simp only;omega⟩,by simp only [List.length_append,List.length_singleton];omega,hrc.take hk (hok rfl),hr13⟩,by simp only;omega⟩
      ·repeat' first|refine sk76 ?_|(intro b;conv=>whnf)
       refine Rs.c aa0 (m:=2) rfl rfl rfl rfl rfl rfl ?_
       repeat' first|refine sk76 ?_|(intro b;conv=>whnf)
       exact Rt.by (σ':=[]) (d':=schD ⟨atE xs 0 4,ks,[⟨nLife,stL.take (2+n2),mv⟩],rs⟩) (Vs.vd ⟨mkB bm xs p2::scB b4 (atE xs 0 4) (.slice a ks.length c) (.slice a11 1 c11) (.slice a12 rs.length c12)::scB b2 (atE xs 0 4) (.slice a ks.length c) (.slice a11 1 c11) (.slice a12 rs.length c12)::(s++(s11++sk)),by rw [List.append_nil]⟩ (Vd.agg (.cons (Vd.same (fun z hz=>by cases hz) _) (.cons (Vd.row (ρ:=mkB bm xs p2::scB b4 (atE xs 0 4) (.slice a ks.length c) (.slice a11 1 c11) (.slice a12 rs.length c12)::scB b2 (atE xs 0 4) (.slice a ks.length c) (.slice a11 1 c11) (.slice a12 rs.length c12)::(s++s11)) hkr cl28 (fun z hz=>by cases hz)) (.cons (Vd.row (ρ:=mkB bm xs p2::scB b4 (atE xs 0 4) (.slice a ks.length c) (.slice a11 1 c11) (.slice a12 rs.length c12)::scB b2 (atE xs 0 4) (.slice a ks.length c) (.slice a11 1 c11) (.slice a12 rs.length c12)::(s++sk)) hr11 cl28 (fun z hz=>by cases hz)) (.cons (Vd.row (ρ:=mkB bm xs p2::scB b4 (atE xs 0 4) (.slice a ks.length c) (.slice a11 1 c11) (.slice a12 rs.length c12)::scB b2 (atE xs 0 4) (.slice a ks.length c) (.slice a11 1 c11) (.slice a12 rs.length c12)::(s11++sk)) hrr cl28 (fun z hz=>by cases hz)) .nil)))))) ⟨_,rfl,rfl,⟨⟨h0.1,h0'⟩,⟨by show 1<=ks.length;omega,by show ks.length<=3;omega⟩,hch,⟨2+n2,mv,by omega,by omega,rfl,hml,hmq⟩,hrl,⟨_,hi5,hrc⟩⟩⟩
     ·obtain rfl:i=ks.length:=by omega
      repeat' first|refine sk76 ?_|(intro b;conv=>whnf)
      refine Rs.c aa0 (m:=2) rfl rfl rfl rfl rfl rfl ?_
      repeat' first|refine sk76 ?_|(intro b;conv=>whnf)
      exact Rt.by (σ':=[]) (d':=schD ⟨atE xs 0 4,ks,[⟨nLife,stL.take (2+n2),mv⟩],rs⟩) (Vs.vd ⟨mkB bm xs p2::scB b4 (atE xs 0 4) (.slice a ks.length c) (.slice a11 1 c11) (.slice a12 rs.length c12)::scB b2 (atE xs 0 4) (.slice a ks.length c) (.slice a11 1 c11) (.slice a12 rs.length c12)::(s++(s11++sk)),by rw [List.append_nil]⟩ (Vd.agg (.cons (Vd.same (fun z hz=>by cases hz) _) (.cons (Vd.row (ρ:=mkB bm xs p2::scB b4 (atE xs 0 4) (.slice a ks.length c) (.slice a11 1 c11) (.slice a12 rs.length c12)::scB b2 (atE xs 0 4) (.slice a ks.length c) (.slice a11 1 c11) (.slice a12 rs.length c12)::(s++s11)) hkr cl28 (fun z hz=>by cases hz)) (.cons (Vd.row (ρ:=mkB bm xs p2::scB b4 (atE xs 0 4) (.slice a ks.length c) (.slice a11 1 c11) (.slice a12 rs.length c12)::scB b2 (atE xs 0 4) (.slice a ks.length c) (.slice a11 1 c11) (.slice a12 rs.length c12)::(s++sk)) hr11 cl28 (fun z hz=>by cases hz)) (.cons (Vd.row (ρ:=mkB bm xs p2::scB b4 (atE xs 0 4) (.slice a ks.length c) (.slice a11 1 c11) (.slice a12 rs.length c12)::scB b2 (atE xs 0 4) (.slice a ks.length c) (.slice a11 1 c11) (.slice a12 rs.length c12)::(s11++sk)) hrr cl28 (fun z hz=>by cases hz)) .nil)))))) ⟨_,rfl,rfl,⟨⟨h0.1,h0'⟩,⟨by show 1<=ks.length;omega,by show ks.length<=3;omega⟩,hch,⟨2+n2,mv,by omega,by omega,rfl,hml,hmq⟩,hrl,⟨_,hi5,hrc⟩⟩⟩
end
section
open Go
theorem RuleF.cr {k:Knd} {r:Rul} (h:RuleF k r) (hk:CK k):CR r:=by
 have hx:(k.name.extract 0 1).size<=1:=by rw [ByteArray.size_extract];omega
 have ap:∀ a:ByteArray,a.size<=5->(a++k.name.extract 0 1).size<=12:=fun a ha=>by rw [ByteArray.size_append];omega
 cases h with
 | low n h hn=>exact⟨ap _ (by decide),hk.nm.2,by show nLow.size<=12;decide,by show nHigh.size<=12;decide,by show -2000<=n-2/\n-2<=2000;omega⟩
 | most f n h hf hn=>
  have:=(hk.fs f (List.mem_of_getElem? hf)).lo
  exact⟨ap _ (by decide),hk.nm.2,by show nSize.size<=12;decide,by show nE.size<=12;decide,by show -2000<=f.lo+n/\f.lo+n<=2000;omega⟩
 | least f n h hf hn=>
  have:=(hk.fs f (List.mem_of_getElem? hf)).hi
  exact⟨ap _ (by decide),hk.nm.2,by show nE.size<=12;decide,by show nSize.size<=12;decide,by show -2000<=n-f.hi/\n-f.hi<=2000;omega⟩
theorem RChain.cr {ks:List Knd} {i:Nat} {rs:List Rul} (h:RChain ks i rs) (hk:∀ k∈ks,CK k):∀ r∈rs,CR r:=by
 induction h with
 | nil=>simp
 | skip h ih=>exact ih
 | take h hk' hr ih=>
  intro r hm
  rcases List.mem_append.1 hm with hm|hm
  ·exact ih r hm
  ·rw [List.mem_singleton] at hm;subst hm;exact hr.cr (hk _ (List.mem_of_getElem? hk'))
theorem GenX.cls {x:Sch} (h:GenX x):Cls x:=by
 have hk:∀ k∈x.kinds,CK k:=fun k hk=>(h.ks.ck h.nk.2 k hk).ck
 obtain⟨m,mv,hm,hm',hl,hml,hmq⟩:=h.ls
 obtain⟨i,_,hr⟩:=h.rs
 refine⟨by have:=h.ver;omega,h.nk.2,hk,by rw [hl];simp,fun l hl'=>?_,by have:=h.nr;omega,hr.cr hk⟩
 rw [hl,List.mem_singleton] at hl'
 subst hl'
 refine⟨by show nLife.size<=12;decide,by show (stL.take m).length<=4;rw [List.length_take];simp;omega,fun s hs=>?_,hml,fun q hq=>by have:=hmq q hq;omega⟩
 have:=List.mem_of_mem_take hs
 simp only [stL,List.mem_cons,List.not_mem_nil,or_false] at this
 rcases this with rfl|rfl|rfl|rfl<;>decide
end
end Go.Proofs.YtlcfiilejnnlnaaGreatDoor
