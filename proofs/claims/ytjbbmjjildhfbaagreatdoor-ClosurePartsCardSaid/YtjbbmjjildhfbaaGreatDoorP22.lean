/- A part of the proof: Br Eq So R09h Wv Pl Wg Ws Ww Su Sv Un Wo. -/
import Derived.Test.YtjbbmjjildhfbaaGreatDoorP21
import Derived.Laws.StructEq
import Derived.ChangeKeysEq
set_option maxRecDepth 100000
set_option maxHeartbeats 4000000
set_option linter.unusedVariables false
set_option linter.unusedSimpArgs false
namespace Go.Proofs.YtjbbmjjildhfbaaGreatDoor
section
open Go
theorem ad2 {w:World} {O:Nat→Prop} {d:D} {ds:List D} {us:List Value} (h:RdL w O (d :: ds) us):∃ u us',us=u :: us'∧Rd w O d u∧RdL w O ds us':=by
 cases us with
 | nil=>have:=h.len;simp at this
 | cons u us'=>exact ⟨u,us',rfl,h.at_ 0 _ _ rfl rfl,⟨by have:=h.len;simpa using this,fun j d u h1 h2=>h.at_ (j+1) d u (by simpa using h1) (by simpa using h2)⟩⟩
theorem av3 {w:World} {O:Nat→Prop} {us:List Value} (h:RdL w O [] us):us=[]:=by
 have:=h.len;exact List.eq_nil_of_length_eq_zero (by simpa using this)
theorem aM3 {α:Type} {k:Nat} {g:α→List D} {R:α→List Value→Prop} {w:World} {O:Nat→Prop} {xs:List α} {v:Value} (h:Rd w O (.sl k (xs.map g)) v)
  (hR:∀ x∈xs,∀ us,RdL w O (g x) us→R x us):∃ a cap,v = .slice a xs.length cap∧Row k R w (fun _=>True) xs a cap:=by
 obtain ⟨a,cap,vs,rfl,hle,hk,hc,hr⟩:=h.sl_inv
 rw [List.length_map] at hle ⊢
 refine ⟨a,cap,rfl,⟨hle,fun i x hx=>?_⟩⟩
 have hgx:(xs.map g)[i]?=some (g x):=by rw [List.getElem?_map,hx];rfl
 obtain ⟨b,off,ha,_,_,hcell⟩:=hc i _ hgx
 have hl:(g x).length=k:=hk _ (List.mem_of_getElem? hgx)
 refine ⟨b,off,ha,trivial,(List.range k).map (vs i),by simp,hR x (List.mem_of_getElem? hx) _ ⟨by simp [hl],fun j d u h1 h2=>?_⟩,fun j u hu=>?_⟩
 ·have hj:j<k:=by rw [← hl];exact (List.getElem?_eq_some_iff.1 h1).1
  simp [hj] at h2
  subst h2
  exact hr i _ hgx j d h1
 ·have hj:j<k:=by have:=(List.getElem?_eq_some_iff.1 hu).1;simpa using this
  simp [hj] at hu
  subst hu
  exact hcell j hj
theorem aA8 {n:Int} (h:-9223372036854775807≤n∧n≤9223372036854775807):I64 n:=⟨by omega,by omega⟩
variable {w:World} {O:Nat→Prop}
theorem str_of {xs:List ByteArray} {v:Value} (h:Rd w O (slS xs) v):∃ a cap,v = .slice a xs.length cap∧aw9 w (fun _=>True) xs a cap:=
 aM3 h fun x _ us hu=>by
  obtain ⟨u,us',rfl,h1,h2⟩:=ad2 hu
  rw [av3 h2,h1.val rfl];rfl
theorem int_of {xs:List Int} {v:Value} (hs:∀ n∈xs,-9223372036854775807≤n∧n≤9223372036854775807) (h:Rd w O (slI xs) v):∃ a cap,v = .slice a xs.length cap∧RInts w (fun _=>True) xs a cap:=
 aM3 h fun x hx us hu=>by
  obtain ⟨u,us',rfl,h1,h2⟩:=ad2 hu
  rw [av3 h2,h1.val rfl];exact ⟨rfl,aA8 (hs x hx)⟩
theorem fld_of {f:Fld} {us:List Value} (hs:SaneF f) (hk:-9223372036854775807≤f.kind∧f.kind≤9223372036854775807) (h:RdL w O (fldC f) us):RFld w (fun _=>True) f us:=by
 obtain ⟨u1,t1,rfl,h1,h⟩:=ad2 h
 obtain ⟨u2,t2,rfl,h2,h⟩:=ad2 h
 obtain ⟨u3,t3,rfl,h3,h⟩:=ad2 h
 obtain ⟨u4,t4,rfl,h4,h⟩:=ad2 h
 obtain ⟨u5,t5,rfl,h5,h⟩:=ad2 h
 obtain ⟨u6,t6,rfl,h6,h⟩:=ad2 h
 obtain ⟨u7,t7,rfl,h7,h⟩:=ad2 h
 obtain ⟨u8,t8,rfl,h8,hz⟩:=ad2 h
 obtain rfl:=av3 hz
 obtain ⟨wa,wc,rfl,hw⟩:=str_of h7
 obtain ⟨ga,gc,rfl,hg⟩:=int_of hs.ws h8
 rw [h1.val rfl,h2.val rfl,h3.val rfl,h4.val rfl,h5.val rfl,h6.val rfl]
 exact ⟨wa,wc,ga,gc,rfl,aA8 hk,aA8 hs.lo,aA8 hs.hi,hw,hg⟩
theorem knd_of {k:Knd} {us:List Value} (hs:∀ f∈k.fields,SaneF f∧(-9223372036854775807≤f.kind∧f.kind≤9223372036854775807)) (hk:(-9223372036854775807≤k.lo∧k.lo≤9223372036854775807)∧(-9223372036854775807≤k.hi∧k.hi≤9223372036854775807)) (h:RdL w O (kndC k) us):RKnd w (fun _=>True) k us:=by
 obtain ⟨u1,t1,rfl,h1,h⟩:=ad2 h
 obtain ⟨u2,t2,rfl,h2,h⟩:=ad2 h
 obtain ⟨u3,t3,rfl,h3,h⟩:=ad2 h
 obtain ⟨u4,t4,rfl,h4,hz⟩:=ad2 h
 obtain rfl:=av3 hz
 obtain ⟨fa,fc,rfl,hf⟩:=aM3 (R:=RFld w (fun _=>True)) h4 fun f hf us hu=>fld_of (hs f hf).1 (hs f hf).2 hu
 rw [h1.val rfl,h2.val rfl,h3.val rfl]
 exact ⟨fa,fc,rfl,aA8 hk.1,aA8 hk.2,hf⟩
theorem lif_of {x:Lif} {us:List Value} (hm:∀ m∈x.moves,(-9223372036854775807≤m.1∧m.1≤9223372036854775807)∧(-9223372036854775807≤m.2∧m.2≤9223372036854775807)) (h:RdL w O (lifC x) us):RLif w (fun _=>True) x us:=by
 obtain ⟨u1,t1,rfl,h1,h⟩:=ad2 h
 obtain ⟨u2,t2,rfl,h2,h⟩:=ad2 h
 obtain ⟨u3,t3,rfl,h3,hz⟩:=ad2 h
 obtain rfl:=av3 hz
 obtain ⟨sa,sc,rfl,hs⟩:=str_of h2
 obtain ⟨ma,mc,rfl,hmv⟩:=aM3 (R:=RTwo) h3 fun m hmm us hu=>by
  obtain ⟨a,t,rfl,g1,hu⟩:=ad2 hu
  obtain ⟨b,t,rfl,g2,hu⟩:=ad2 hu
  rw [av3 hu,g1.val rfl,g2.val rfl]
  exact ⟨rfl,aA8 (hm m hmm).1,aA8 (hm m hmm).2⟩
 rw [h1.val rfl]
 exact ⟨sa,sc,ma,mc,rfl,hs,hmv⟩
theorem rul_of {r:Rul} {us:List Value} (hn:-9223372036854775807≤r.n∧r.n≤9223372036854775807) (h:RdL w O (rulC r) us):RRul r us:=by
 obtain ⟨u1,t1,rfl,h1,h⟩:=ad2 h
 obtain ⟨u2,t2,rfl,h2,h⟩:=ad2 h
 obtain ⟨u3,t3,rfl,h3,h⟩:=ad2 h
 obtain ⟨u4,t4,rfl,h4,h⟩:=ad2 h
 obtain ⟨u5,t5,rfl,h5,h⟩:=ad2 h
 obtain rfl:=av3 h
 rw [h1.val rfl,h2.val rfl,h3.val rfl,h4.val rfl,h5.val rfl]
 exact ⟨rfl,aA8 hn⟩
theorem bc0 (x:Sch) (g:Good x):APure Tryz.prog 81 [schD x] (iD (af9 x)):=by
 refine ⟨enters_of Tryz.func81 (by kernel_rfl) rfl,fun w O vs hv hg=>?_⟩
 obtain ⟨v,t,rfl,h1,h⟩:=ad2 hv
 rw [av3 h]
 obtain ⟨us,rfl,hu⟩:=h1.agg_inv
 obtain ⟨u1,t1,rfl,k1,hu⟩:=ad2 hu
 obtain ⟨u2,t2,rfl,k2,hu⟩:=ad2 hu
 obtain ⟨u3,t3,rfl,k3,hu⟩:=ad2 hu
 obtain ⟨u4,t4,rfl,k4,hu⟩:=ad2 hu
 rw [av3 hu,k1.val rfl]
 obtain ⟨ka,kc,rfl,hk⟩:=aM3 (R:=RKnd w (fun _=>True)) k2 fun k hk us hu=>knd_of (g.fsane k hk) (g.ksane k hk) hu
 obtain ⟨la,lc,rfl,hl⟩:=aM3 (R:=RLif w (fun _=>True)) k3 fun k hk us hu=>lif_of (g.msane k hk) hu
 obtain ⟨ra,rc,rfl,hr⟩:=aM3 (R:=RRul) k4 fun k hk us hu=>rul_of (g.rsane k hk) hu
 exact (valid_any x w (aA8 g.ver) hk hl hr g.sm g.src ⟨hg.pow,hg.words⟩).mono fun e w' ⟨e1,e2⟩=>⟨_,e1,.v _,e2⟩
end
section
open Go Go.RowKit Go.Shelf
theorem at_flds:∃ f0 f1:Field,Tryz.prog.underlying 33=some (.struct #[f0,f1])∧f0.name ≠ "_" ∧ f1.name ≠ "_" ∧ f0.type=3∧f1.type=3∧f0.offset=0∧f1.offset=1:=
 ⟨_,_,Tryz.underlying33,by decide,by decide,rfl,rfl,rfl,rfl⟩
theorem int_pl:Tryz.prog.plainKey 3=true:=by kernel_rfl
theorem at_held:Tryz.prog.stoodInHeld 33=false:=by kernel_rfl
theorem at_guard:Tryz.prog.eqGuardType Tryz.prog.depth 33=false:=by kernel_rfl
theorem run_at_eq (w:World) (a1 a2 c1 c2:Int):(Op.equalIn 10000 33 (.agg #[.int .i64 a1,.int .i64 a2]) (.agg #[.int .i64 c1,.int .i64 c2])).run Tryz.prog w = .ok ((a1 == c1) && (a2 == c2)) w:=by
 obtain ⟨f0,f1,hu,n0,n1,t0,t1,o0,o1⟩:=at_flds
 have hf:Tryz.prog.fieldsOf 33 = #[f0,f1]:=by simp [Program.fieldsOf,hu]
 have p0:∀ x y:Int,(Go.part 3 #[.int .i64 x,.int .i64 y] 0).run Tryz.prog w = .ok (.int .i64 x) w:=fun x y=>run_part_plain w int_pl rfl
 have p1:∀ x y:Int,(Go.part 3 #[.int .i64 x,.int .i64 y] 1).run Tryz.prog w = .ok (.int .i64 y) w:=fun x y=>run_part_plain w int_pl rfl
 have q:∀ x y:Int,(Op.equalIn 9999 3 (.int .i64 x) (.int .i64 y)).run Tryz.prog w = .ok (x == y) w:=fun x y=>run_equalIn_int w 9998 _ _ _ _ _ Tryz.underlying3
 rw [show (10000:Nat)=9999+1 from rfl,run_equalIn_agg w 9999 _ _ _ (by rw [hf];exact hu) at_held,hf]
 simp only [Op.eqFields,if_pos n0,if_pos n1,t0,t1,o0,o1,Sem.run_bind,Result.andThen,p0,p1,q,Sem.run_ite,Sem.run_pure]
 cases (a1 == c1) <;> cases (a2 == c2) <;> rfl
theorem bc5 {w:World} {O:Nat→Prop} {u:Value} {a b:Int} (h:Rd w O (.agg [.v (.int .i64 a),.v (.int .i64 b)]) u):u = .agg #[.int .i64 a,.int .i64 b]:=by
 obtain ⟨vs,rfl,hv⟩:=h.agg_inv
 have hl:=hv.len
 match vs,hl,hv with
 | [x,y],_,hv=>
  rw [(hv.at_ 0 _ _ rfl rfl).val rfl,(hv.at_ 1 _ _ rfl rfl).val rfl]
section
variable {ρ:Operand→D} {σ:aa1}
theorem yd_ateq {o:Oper} {t':TypeId} {x y:Operand} {a1 a2 c1 c2:Int} (ho:o.op = .binOp .eql 33 x y t') (hx:ρ x = .agg [.v (.int .i64 a1),.v (.int .i64 a2)]) (hy:ρ y = .agg [.v (.int .i64 c1),.v (.int .i64 c2)]):Yd Tryz.prog o ρ σ (.v (.bool ((a1 == c1) && (a2 == c2)))):=by
 intro w X η hη hst
 obtain ⟨dst,op,ty,pos,aft,g⟩:=o
 simp only at ho
 subst ho
 have h1:=hη x (by simp [Op.operands])
 have h2:=hη y (by simp [Op.operands])
 rw [hx] at h1
 rw [hy] at h2
 refine af8 (s:=do eqGuard .eql 33 x y (η x) (η y);binOp .eql 33 (η x) (η y)) (u:=.bool ((a1 == c1) && (a2 == c2))) ?_ (Ex.refl w) (.v _)
 rw [bc5 h1,bc5 h2]
 simp only [Sem.run_bind,run_eqGuard_agg w .eql _ _ _ _ _ at_guard,Result.andThen,run_eql_struct,run_at_eq]
end
end
section
open Go Go.RowKit Go.Shelf
abbrev oKp:Knd:=⟨aN3,0,9,[⟨nId,nE,nE,0,0,0,[],[]⟩]⟩
abbrev oKo:Knd:=⟨aH7,0,9,[⟨nId,nE,nE,0,0,0,[],[]⟩,⟨nOf,aN3,nE,1,1,9,[],[]⟩]⟩
abbrev oX:Sch:=⟨0,[oKp,oKo],[],[]⟩
abbrev oW:Wd:=[[[0],[1]],[[0,0],[1,0],[2,1]]]
theorem aS8:APure Tryz.prog 47 [] (.tup [schD oX,slW oW]):=by
 refine APure.of_call (aa4 mixed aa0 Tryz.func47 (by kernel_rfl) rfl Tryz.ntmps47 rfl ?_);intro BB
 repeat' (first|refine sk2 ?_|(intro b;conv=>whnf))
 refine Rs.ct aa0 (m:=2) rfl rfl rfl rfl rfl rfl rfl ?_
 repeat' (first|refine sk2 ?_|(intro b;conv=>whnf))
 refine Rt.le ?_
 repeat' (first|exact Le.refl _|exact ah5 _|exact LeL.nil|exact LeR.nil|refine LeL.cons ?_ ?_|refine LeR.cons ?_ ?_|refine le_agg ?_|refine le_tup ?_|refine le_sl ?_)
theorem oX_cls:Cls oX:=by
 refine ⟨by decide,by decide,fun k hk=>?_,by decide,(fun l hl=>nomatch hl),by decide,(fun r hr=>nomatch hr)⟩
 simp only [List.mem_cons,List.not_mem_nil,or_false] at hk
 have f1:CF ⟨nId,nE,nE,0,0,0,[],[]⟩:=.e0 (by decide) (by decide) (by decide) (by decide) (by decide) (by decide)
 have f2:CF ⟨nOf,aN3,nE,1,1,9,[],[]⟩:=.e0 (by decide) (by decide) (by decide) (by decide) (by decide) (by decide)
 rcases hk with rfl|rfl
 ·exact ⟨by decide,by decide,by decide,by decide,fun f hf=>by rw [List.mem_singleton] at hf;subst hf;exact f1⟩
 ·exact ⟨by decide,by decide,by decide,by decide,fun f hf=>by
   simp only [List.mem_cons,List.not_mem_nil,or_false] at hf
   rcases hf with rfl|rfl
   ·exact f1
   ·exact f2⟩
theorem oW_ws:Ws oW:=⟨by decide,by decide,by decide⟩
theorem oS_ss:Ss (ai4 oW):=Ss.of_len (bf7 oW) oW_ws
theorem o_t1:am2 oX oW (ai4 oW) 1 2=([(0,1),(1,2)],0):=by decide +kernel
theorem o_t2:am2 oX oW (ai4 oW) 0 0=([(0,0),(1,0),(1,1)],0):=by decide +kernel
theorem o_t3:am2 oX oW (ai4 oW) 1 0=([(1,0)],0):=by decide +kernel
theorem o_v:ai0 oX oW (ai4 oW)=true:=by decide +kernel
theorem o_s:al8 (ai4 oW)=5:=by decide +kernel
theorem sk92 {A B:Prop} (k:B) (h:Hd7 B→A:=by intro hk7q;(first|refine sb0 ?_|refine sb1 ?_|((with_reducible refine' Cp.by ?hc ?_);(case hc=>first|exact aS8|exact aF1 oW oW_ws|exact HT1|exact HT2|exact HT3|exact HV1|exact HS1))|((with_reducible refine' CE.pure ?hc ?_);(case hc=>first|exact aS8|exact aF1 oW oW_ws|exact HT1|exact HT2|exact HT3|exact HV1|exact HS1)));exact hk7q.run):A:=h ⟨k⟩
theorem ai2:APure Tryz.prog 18 [] (bD true):=by
 have HV:=bc0 oX oX_cls.good
 have HT1:APure Tryz.prog 14 [schD oX,slW oW,slS2 (ai4 oW),atD 1 2] (.tup [slAt [(0,1),(1,2)],iD 0]):=by have:=aC1 oX oW (ai4 oW) oW_ws oS_ss 1 2 HV;rw [o_t1] at this;exact this
 have HT2:APure Tryz.prog 14 [schD oX,slW oW,slS2 (ai4 oW),atD 0 0] (.tup [slAt [(0,0),(1,0),(1,1)],iD 0]):=by have:=aC1 oX oW (ai4 oW) oW_ws oS_ss 0 0 HV;rw [o_t2] at this;exact this
 have HT3:APure Tryz.prog 14 [schD oX,slW oW,slS2 (ai4 oW),atD 1 0] (.tup [slAt [(1,0)],iD 0]):=by have:=aC1 oX oW (ai4 oW) oW_ws oS_ss 1 0 HV;rw [o_t3] at this;exact this
 have HV1:APure Tryz.prog 21 [schD oX,slW oW,slS2 (ai4 oW)] (bD true):=by have:=cl_valid oX oW (ai4 oW) oW_ws oS_ss HV;rw [o_v] at this;exact this
 have HS1:APure Tryz.prog 17 [slS2 (ai4 oW)] (iD 5):=by have:=cl_size (ai4 oW) oS_ss;rw [o_s] at this;exact this
 refine APure.of_call (aa4 mixed aa0 Tryz.func18 (by kernel_rfl) rfl Tryz.ntmps18 rfl ?_);intro BB
 repeat' (first|refine sk92 ?_|(intro b;conv=>whnf)|((with_reducible refine Br.t ?h ?_);(case h=>rfl))|((with_reducible refine Br.f ?h ?_);(case h=>rfl))|((with_reducible refine' Ot.yd ?hyd ?_);(case hyd=>exact yd_ateq rfl rfl rfl)))
 refine Rt.pure (congrArg bD ?_)
 rfl
end
section
open Go
theorem sk93 {A B:Prop} (k:B) (h:Hd7 B→A:=by intro hk7q;(first|refine sb0 ?_|refine sb1 ?_|((with_reducible refine' Cp.by ?hc ?_);(case hc=>first|exact af2 _ _ _|exact HK|exact HL|exact aS0 _))|((with_reducible refine' CE.pure ?hc ?_);(case hc=>first|exact af2 _ _ _|exact HK|exact HL|exact aS0 _)));exact hk7q.run):A:=h ⟨k⟩
end
section
open Go Go.RowKit Go.Shelf
theorem sk94 {A B:Prop} (k:B) (h:Hd7 B→A:=by intro hk7q;(first|refine sb0 ?_|refine sb1 ?_|((with_reducible refine' Cp.by ?hc ?_);(case hc=>first|exact ai2|exact aF1 w hwo.ws|exact ap9 w hwo.ws|exact HSame))|((with_reducible refine' CE.pure ?hc ?_);(case hc=>first|exact ai2|exact aF1 w hwo.ws|exact ap9 w hwo.ws|exact HSame)));exact hk7q.run):A:=h ⟨k⟩
theorem sk95 {A B:Prop} (k:B) (h:Hd7 B→A:=by intro hk7q;(first|refine sb0 ?_|refine sb1 ?_|((with_reducible refine' Cp.by ?hc ?_);(case hc=>first|exact HC1|exact HR1|exact HC2|exact HR2))|((with_reducible refine' CE.pure ?hc ?_);(case hc=>first|exact HC1|exact HR1|exact HC2|exact HR2)));exact hk7q.run):A:=h ⟨k⟩
theorem sk96 {A B:Prop} (k:B) (h:Hd7 B→A:=by intro hk7q;(first|refine sb0 ?_|refine sb1 ?_|((with_reducible refine' Cp.by ?hc ?_);(case hc=>exact ai2))|((with_reducible refine' CE.pure ?hc ?_);(case hc=>exact ai2)));exact hk7q.run):A:=h ⟨k⟩
end
section
open Go
variable {x:Sch} {w:Wd}
def Sub (a b:Sb):Prop:=∀ k i,keptB a k i=true→keptB b k i=true
theorem Sub.refl (a:Sb):Sub a a:=fun _ _ h=>h
theorem Sub.trans {a b c:Sb} (h:Sub a b) (k:Sub b c):Sub a c:=fun i j e=>k i j (h i j e)
theorem aB4 (s:Sb):(ah0 x w s).map List.length=s.map List.length:=aL6 s _
theorem bf8:∀ (l:List (Nat × Nat)) (t:Sb × Bool),t.2=true→(l.foldl (ad8 x w) t).2=true
 | [],_,h=>h
 | p :: l,t,h=>bf8 l _ (by
  unfold ad8
  split
  ·rfl
  ·exact h)
theorem aT6 {s:Sb}:∀ (l:List (Nat × Nat)),(l.foldl (ad8 x w) (s,false)).2=false→∀ p∈l,(keptB s p.1 p.2 && aw3 x w s p.1 p.2)=false
 | [],_,p,hp=>by cases hp
 | q :: l,h,p,hp=>by
  rw [List.foldl_cons] at h
  have hq:(keptB s q.1 q.2 && aw3 x w s q.1 q.2)=false:=by
   cases hc:(keptB s q.1 q.2 && aw3 x w s q.1 q.2) with
   | false=>rfl
   | true=>
    have:(ad8 x w (s,false) q).2=true:=by unfold ad8;simp only [hc,if_true]
    rw [bf8 l _ this] at h
    cases h
  rcases List.mem_cons.1 hp with rfl|hp
  ·exact hq
  ·have:ad8 x w (s,false) q=(s,false):=by unfold ad8;simp only [hq];rfl
   rw [this] at h
   exact aT6 l h p hp
theorem aR4:∀ (n:Nat) (s:Sb),al8 s≤n→(al4 x w (ah0 x w s)).2=false
 | n,s,hn=>by
  rw [aL5 s]
  cases h:(al4 x w s).2 with
  | false=>simp only [Bool.false_eq_true,if_false];exact h
  | true=>
   simp only [if_true]
   have:=aJ5 h
   cases n with
   | zero=>omega
   | succ n=>exact aR4 n _ (by omega)
theorem bh3 {a b:Sb} (h:a.map List.length=b.map List.length):ab8 x w a=ab8 x w b:=by
 unfold ab8 ap2
 rw [h]
theorem aG9 {s:Sb} (h:ab8 x w s=0):ai0 x w (ah0 x w s)=true:=by
 unfold ai0
 rw [bh3 (aB4 s),h]
 simp only [decide_true,Bool.true_and,List.all_eq_true]
 intro p hp
 rw [aT6 (s:=ah0 x w s) (aw7 (ah0 x w s)) (aR4 _ s (Nat.le_refl _)) p hp]
 rfl
end
section
open Go Go.RowKit Go.Shelf
theorem Vd.frz {α:Type} {R:ORep α} {den:α→D} (hf:Frz R den) {a:α} {v:Value} {s σ τ ρ:aa1} (h:R a v s) (hp:σ.Perm (s ++ ρ)) (hsub:∀ b,b∈ab2 τ→b∈ab2 ρ):Vd σ τ (.v v) (den a):=
 fun w X u hs hr=>ah1 ((Vs.frz hf h hp).run w X u hs hr).2 hsub
theorem aU3 (x:Sch) (w:Wd) (s:Sb) (hw:Ws w) (hs:Ss s) (HV:APure Tryz.prog 81 [schD x] (iD (af9 x))):APure Tryz.prog 19 [schD x,slW w,slS2 s] (.tup [slS2 (aI1 x w s).1,iD (aI1 x w s).2]):=
 APure.of_call ((cl_greatest x w s hw hs HV).vs2 fun d σ ⟨v,s1,s2,e,e2,h⟩=>by
  subst e e2
  exact ⟨_,[],Vs.vd ⟨s1 ++ s2,by simp⟩ (Vd.tup (.cons (Vd.frz frz_s h (List.Perm.refl _) (fun b hb=>by cases hb)) (.cons (Vd.same (fun b hb=>by cases hb) _) .nil))),rfl⟩)
theorem Ss.lens {a b:Sb} (h:a.map List.length=b.map List.length) (hb:Ss b):Ss a:=by
 have hl:a.length=b.length:=by have:=congrArg List.length h;simpa using this
 refine ⟨by rw [hl];exact hb.nk,fun l hl2=>?_⟩
 have:l.length∈a.map List.length:=List.mem_map.2 ⟨l,hl2,rfl⟩
 rw [h] at this
 obtain ⟨m,hm,e⟩:=List.mem_map.1 this
 rw [← e];exact hb.nr m hm
theorem sk97 {A B:Prop} (k:B) (h:Hd7 B→A:=by intro hk7q;(first|refine sb0 ?_|refine sb1 ?_|((with_reducible refine' Cp.by ?hc ?_);(case hc=>first|exact HC1|exact HR1|exact HC2|exact HV1|exact HW1|exact HS1))|((with_reducible refine' CE.pure ?hc ?_);(case hc=>first|exact HC1|exact HR1|exact HC2|exact HV1|exact HW1|exact HS1)));exact hk7q.run):A:=h ⟨k⟩
theorem sk98 {A B:Prop} (k:B) (h:Hd7 B→A:=by intro hk7q;(first|refine sb0 ?_|refine sb1 ?_|((with_reducible refine' Cp.by ?hc ?_);(case hc=>first|exact HC1|exact HR1|exact HS1))|((with_reducible refine' CE.pure ?hc ?_);(case hc=>first|exact HC1|exact HR1|exact HS1)));exact hk7q.run):A:=h ⟨k⟩
end
section
open Go
def RowsV {α:Type} (e:TypeId) (R:ORep α) (xs:List α) (v:Value) (vs:List Value) (s:aa1):Prop:=∃ (s0:aa1) (ts:List aa1),RowIs e 1 (vs.map fun u=>[D.v u]) v s0∧All3 R xs vs ts∧s.Perm (s0 ++ ts.flatten)
section
variable {α:Type} {R:ORep α} {e:TypeId} {xs:List α} {v:Value} {vs:List Value} {s s':aa1}
theorem RowsV.of (h:RowsOf e R xs v s):∃ vs,RowsV e R xs v vs s:=by
 obtain ⟨vs,s0,ts,h1,h2,h3⟩:=h.ex
 exact ⟨vs,s0,ts,h1,h2,h3⟩
theorem RowsV.to (h:RowsV e R xs v vs s):RowsOf e R xs v s:=by
 obtain ⟨s0,ts,h1,h2,h3⟩:=h
 exact ⟨vs,s0,ts,h1,h2,h3⟩
theorem RowsV.perm (h:RowsV e R xs v vs s) (hp:s'.Perm s):RowsV e R xs v vs s':=by
 obtain ⟨s0,ts,h1,h2,h3⟩:=h
 exact ⟨s0,ts,h1,h2,hp.trans h3⟩
theorem RowsV.at (h:RowsV e R xs v vs s) {i:Nat} {x:α} (hx:xs[i]?=some x) :
  ∃ b cap cs u t τ,v = .slice (some ⟨b,0,none⟩) xs.length cap∧s.Perm ((b,.cells e cs) :: (t ++ τ))∧cs[i]?=some (.v u)∧vs[i]?=some u∧R x u t ∧
   ∀ x' t' s',R x' u t'→s'.Perm ((b,.cells e cs) :: (t' ++ τ))→RowsV e R (xs.set i x') v vs s':=by
 obtain ⟨s0,ts,h1,h2,h3⟩:=h
 obtain ⟨u,t,τ,g1,g2,g3,g4⟩:=h2.at hx
 have hil:=(List.getElem?_eq_some_iff.1 g1).1
 have h1':=h1
 obtain ⟨b,cap,junk,rfl,rfl,q3,q4,q5,q6⟩:=h1.block (fun h=>by
  have:=congrArg List.length h;simp at this;subst this;simp at hil)
 rw [flat1] at h3
 refine ⟨b,cap,vs.map D.v ++ junk,u,t,τ,by rw [List.length_map,h2.len.1],?_,?_,g1,g2,fun x' t' s' h' hp=>?_⟩
 ·exact h3.trans (List.Perm.cons _ g3)
 ·rw [List.getElem?_append_left (by simpa using hil),List.getElem?_map,g1];rfl
 ·obtain ⟨ts',k1,k2⟩:=g4 x' u t' h'
  rw [aV9 g1] at k1
  refine ⟨_,ts',h1',k1,?_⟩
  rw [flat1]
  exact hp.trans (List.Perm.cons _ k2.symm)
end
abbrev RWv (o:Wd) (v:Value) (vs:List Value) (σ:aa1):Prop:=RowsV 75 RW1 o v vs σ
theorem w_head {o:Wd} {v:Value} {vs:List Value} {σ:aa1} (h:RWv o v vs σ) {k:Nat} {l:List (List Int)} (hl:o[k]?=some l) :
  ∃ b0 cap0 cs0 a1 c1,v = .slice (some ⟨b0,0,none⟩) o.length cap0∧(b0,Blk.cells 75 cs0)∈σ∧cs0[k]?=some (.v (.slice a1 l.length c1))∧vs[k]?=some (.slice a1 l.length c1):=by
 obtain ⟨b0,cap0,cs0,u,t,τ,h1,h2,h3,h4,h5,_⟩:=h.at hl
 obtain ⟨a1,c1,rfl⟩:=RowsOf.slice h5
 exact ⟨b0,cap0,cs0,a1,c1,h1,h2.mem_iff.2 (by simp),h3,h4⟩
theorem w_open {o:Wd} {v:Value} {vs:List Value} {σ:aa1} (h:RWv o v vs σ) {k i f:Nat} {l:List (List Int)} {r:List Int} {c:Int} (hl:o[k]?=some l) (hr:l[i]?=some r) (hc:r[f]?=some c) :
  ∃ b0 cap0 cs0 b1 cap1 cs1 b2 cap2 cs2 ρ,v = .slice (some ⟨b0,0,none⟩) o.length cap0∧σ.Perm ((b0,.cells 75 cs0) :: (b1,.cells 22 cs1) :: (b2,.cells 3 cs2) :: ρ)∧cs0[k]?=some (.v (.slice (some ⟨b1,0,none⟩) l.length cap1)) ∧
   vs[k]?=some (.slice (some ⟨b1,0,none⟩) l.length cap1)∧cs1[i]?=some (.v (.slice (some ⟨b2,0,none⟩) r.length cap2))∧cs2[f]?=some (iD c) ∧
   ∀ c',RWv (o.set k (l.set i (r.set f c'))) v vs ((b0,.cells 75 cs0) :: (b1,.cells 22 cs1) :: (b2,.cells 3 (cs2.set f (iD c'))) :: ρ):=by
 obtain ⟨b0,cap0,cs0,u,t,τ,h1,h2,h3,h4,h5,h6⟩:=h.at hl
 obtain ⟨b1,cap1,cs1,b2,cap2,cs2,ρ,g1,g2,g3,g4,g5⟩:=au3 h5 hr hc
 subst g1
 refine ⟨b0,cap0,cs0,b1,cap1,cs1,b2,cap2,cs2,ρ ++ τ,h1,h2.trans (List.Perm.cons _ ((g2.append_right τ).trans (List.Perm.refl _))),h3,h4,g3,g4,fun c'=>h6 _ _ _ (g5 c') (List.Perm.refl _)⟩
/-! ### Sums -/
def ag2 (rows:List (List Int)) (up share i:Nat):Int:=rows.foldl (fun (acc:Int) (r:List Int)=>if r.getD up 0=(i:Int) then IntKind.i64.wrap (acc+r.getD share 0) else acc) (0:Int)
def upOf (x:Sch) (o sh:Nat):Nat:=match x.kinds[o]? with
 | some k=>match k.fields[sh]? with
  | some g=>(ab6 k g.up).toNat
  | none=>0
 | none=>0
def ah4 (o:Wd) (k f:Nat) (g:Nat→Int) (m:Nat):Wd:=o.set k ((o.getD k []).mapIdx fun i l=>if i<m then l.set f (g i) else l)
def ag9 (x:Sch) (o:Wd) (k f:Nat):Wd:=
 if (ac6 x k f).1<0 then o
 else ah4 o k f (ag2 (o.getD (ac6 x k f).1.toNat []) (upOf x (ac6 x k f).1.toNat (ac6 x k f).2.toNat) (ac6 x k f).2.toNat) (o.getD k []).length
def sumsF (x:Sch) (k:Nat) (o:Wd) (q:Nat):Wd:=(List.range q).foldl (fun o f=>ag9 x o k f) o
def flen (x:Sch) (k:Nat):Nat:=match x.kinds[k]? with|some kd=>kd.fields.length|none=>0
def sumsK (x:Sch) (o:Wd) (q:Nat):Wd:=(List.range q).foldl (fun o k=>sumsF x k o (flen x k)) o
def sumsE (x:Sch) (o:Wd):Wd:=sumsK x o x.kinds.length
theorem au1 (x:Sch) (k:Nat) (o:Wd) (q:Nat):sumsF x k o (q+1)=ag9 x (sumsF x k o q) k q:=by simp [sumsF,List.range_succ]
theorem au0 (x:Sch) (o:Wd) (q:Nat):sumsK x o (q+1)=sumsF x q (sumsK x o q) (flen x q):=by simp [sumsK,List.range_succ]
def shp (o:Wd):List (List Nat):=o.map fun l=>l.map List.length
theorem ax3 {o o':Wd} (h:shp o=shp o') {k:Nat} {l:List (List Int)} (hl:o[k]?=some l):∃ l',o'[k]?=some l'∧l'.map List.length=l.map List.length:=by
 have:=congrArg (fun z=>z[k]?) h
 simp only [shp,List.getElem?_map,hl,Option.map_some] at this
 cases h':o'[k]? with
 | none=>rw [h'] at this;cases this
 | some l'=>rw [h'] at this;simp only [Option.map_some,Option.some.injEq] at this;exact ⟨l',rfl,this.symm⟩
theorem bb9 (o:Wd) (k f:Nat) (g:Nat→Int) (m:Nat):shp (ah4 o k f g m)=shp o:=by
 unfold shp ah4
 rw [List.map_set]
 refine List.ext_getElem? fun n=>?_
 by_cases e:n=k
 ·subst e
  by_cases hn:n<o.length
  ·rw [List.getElem?_set_self (by simpa using hn),List.getElem?_map,List.getElem?_eq_getElem hn,aa3 (List.getElem?_eq_getElem hn)]
   simp only [Option.map_some,Option.some.injEq]
   refine List.ext_getElem? fun i=>?_
   simp only [List.getElem?_map,List.getElem?_mapIdx]
   cases o[n][i]? with
   | none=>rfl
   | some r=>simp only [Option.map_some,Option.some.injEq];split <;> simp
  ·rw [List.getElem?_eq_none (by simp;omega),List.getElem?_eq_none (by simp;omega)]
 ·rw [List.getElem?_set_ne (Ne.symm e)]
theorem aV8 (x:Sch) (o:Wd) (k f:Nat):shp (ag9 x o k f)=shp o:=by
 unfold ag9
 split
 ·rfl
 ·exact bb9 _ _ _ _ _
theorem shp_F (x:Sch) (k:Nat) (o:Wd):∀ q,shp (sumsF x k o q)=shp o
 | 0=>rfl
 | q+1=>by rw [au1,aV8,shp_F x k o q]
theorem shp_K (x:Sch) (o:Wd):∀ q,shp (sumsK x o q)=shp o
 | 0=>rfl
 | q+1=>by rw [au0,shp_F,shp_K x o q]
theorem aR5 {x:Sch} {i j:Nat} (h:0≤(ac6 x i j).1):∃ (o sh u:Nat) (ko:Knd) (g gu:Fld),ac6 x i j=((o:Int),(sh:Int))∧i<o∧x.kinds[o]?=some ko∧ko.fields[sh]?=some g∧g.kind=7∧ab6 ko g.up=u∧ko.fields[u]?=some gu∧gu.kind=1∧upIx x o u=i∧upOf x o sh=u:=by
 unfold ac6 at h ⊢
 split at h
 ·simp at h
 ·rename_i f hf
  simp only [al7] at h ⊢
  by_cases hn:aj4 x i f=true
  ·rw [if_pos hn] at h;simp [aX6] at h
  ·rw [if_neg hn] at h ⊢
   have hn':aj4 x i f=false:=by simpa using hn
   simp only [aj4,Bool.or_eq_false_iff,Bool.not_eq_false',decide_eq_true_eq,decide_eq_false_iff_not] at hn'
   obtain ⟨o,ko,e1,e2,_⟩:=bf0 x f.of (by omega)
   match hs:ap7 x i f,h with
   | [z],h=>
    have hz:z∈ap7 x i f:=by rw [hs];simp
    rw [ap7,e1] at hz
    have hka:ad9 x o=some ko:=by simp [ad9,e2]
    rw [hka] at hz
    obtain ⟨sh,hsh,rfl⟩:=List.mem_map.1 hz
    obtain ⟨_,hq⟩:=List.mem_filter.1 hsh
    cases hg:ko.fields[sh]? with
    | none=>rw [hg] at hq;cases hq
    | some g=>
     rw [hg] at hq
     simp only [Bool.and_eq_true,decide_eq_true_eq] at hq
     obtain ⟨⟨h7,_⟩,hu⟩:=hq
     have hfa:fieldAt x o sh=some g:=by simp [fieldAt,hka,hg]
     have hup:=aF6 hfa hka
     rw [hu,if_pos (.inl h7)] at hup
     cases hgu:fieldAt x o (ab6 ko g.up) with
     | none=>rw [hgu] at hup;simp [aD4,au6] at hup <;> omega
     | some gu=>
      rw [hgu,aD4] at hup
      by_cases hc:ab6 ko g.up<(sh:Int)∧gu.kind=1
      ·rw [if_pos hc,au6] at hup
       obtain ⟨_,h0,k',hk',hu'⟩:=ae3 hgu
       simp only [Int.toNat_natCast] at hk'
       rw [e2] at hk';cases hk'
       obtain ⟨u,eu⟩:∃ u:Nat,ab6 ko g.up=u:=⟨(ab6 ko g.up).toNat,by omega⟩
       rw [eu,Int.toNat_natCast] at hu'
       refine ⟨o,sh,u,ko,g,gu,by rw [e1];rfl,by omega,e2,hg,h7,eu,hu',hc.2,?_,by unfold upOf;rw [e2];simp only;rw [hg];simp only;rw [eu];rfl⟩
       have hfu:fieldAt x o u=some gu:=by simp [fieldAt,hka,hu']
       rw [aF6 hfu hka,if_neg (by omega),if_pos hc.2]
       exact hup.symm
      ·rw [if_neg hc] at hup;simp [au6] at hup <;> omega
   | [],h=>simp [aX6] at h
   | _ :: _ :: _,h=>simp [aX6] at h
end
section
open Go Go.RowKit Go.Shelf
theorem yd_addw {P:Program} {ρ:Operand→D} {σ:aa1} {o:Oper} {t t':TypeId} {x y:Operand} {a b:Int} (ho:o.op = .binOp .add t x y t') (hx:ρ x = .v (.int .i64 a)) (hy:ρ y = .v (.int .i64 b)):Yd P o ρ σ (.v (.int .i64 (IntKind.i64.wrap (a+b)))):=by
 intro w X η hη hst
 obtain ⟨dst,op,ty,pos,aft,g⟩:=o
 simp only at ho
 subst ho
 have h1:=(hη x (by simp [Op.operands])).val hx
 have h2:=(hη y (by simp [Op.operands])).val hy
 refine af8 (s:=do eqGuard .add t x y (η x) (η y);binOp .add t (η x) (η y)) (u:=.int .i64 (IntKind.i64.wrap (a+b))) ?_ (Ex.refl w) (.v _)
 rw [h1,h2]
 simp [eqGuard,binOp,Op.intArith]
theorem ba6 (n:Int):I64n (IntKind.i64.wrap n):=by
 rw [IntKind.wrap_i64]
 unfold I64n
 omega
theorem Ss.size {s:Sb} (h:Ss s):al8 s≤1000000:=by
 have key:∀ l:List (List Bool),(∀ m∈l,m.length≤1000)→(l.map fun m=>m.countP id).sum≤l.length*1000:=by
  intro l
  induction l with
  | nil=>simp
  | cons m l ih=>
   intro h
   have h1:=h m (by simp)
   have h2:=ih fun z hz=>h z (by simp [hz])
   have h3:=List.countP_le_length (p:=id) (l:=m)
   simp only [List.map_cons,List.sum_cons,List.length_cons,Nat.succ_mul]
   omega
 have:=key s h.nr
 have:=h.nk
 unfold al8
 omega
theorem sb99 {A B:Prop} (k:B) (h:Hd7 B→A:=by intro hk7q;(first|(with_reducible refine Bc.l ?_)|fail|((with_reducible refine Dr.l ?h ?_);(case h=>decide +kernel))|(with_reducible refine Dr.r ?_)|((with_reducible refine Dm.l ?h ?_);(case h=>decide +kernel))|((with_reducible refine Cb.go ?h ?_);(case h=>decide +kernel)));exact hk7q.run):A:=h ⟨k⟩
theorem sk100 {A B:Prop} (k:B) (h:Hd7 B→A:=by intro hk7q;(first|refine sb0 ?_|refine sb99 ?_|((with_reducible refine' Cp.by ?hc ?_);(case hc=>exact ai2))|((with_reducible refine' CE.pure ?hc ?_);(case hc=>exact ai2)));exact hk7q.run):A:=h ⟨k⟩
theorem sk101 {A B:Prop} (k:B) (h:Hd7 B→A:=by intro hk7q;(first|refine sb0 ?_|refine sb99 ?_|((with_reducible refine' Cp.by ?hc ?_);(case hc=>exact aa5 _ _ (ba6 _)))|((with_reducible refine' CE.pure ?hc ?_);(case hc=>exact aa5 _ _ (ba6 _))));exact hk7q.run):A:=h ⟨k⟩
theorem sk102 {A B:Prop} (k:B) (h:Hd7 B→A:=by intro hk7q;(first|refine sb0 ?_|refine sb99 ?_|((with_reducible refine' Cp.by ?hc ?_);(case hc=>first|exact HC1|exact HC2|exact HC3|exact HC4|exact HC5|exact HC6|exact HC7))|((with_reducible refine' CE.pure ?hc ?_);(case hc=>first|exact HC1|exact HC2|exact HC3|exact HC4|exact HC5|exact HC6|exact HC7)));exact hk7q.run):A:=h ⟨k⟩
theorem sk103 {A B:Prop} (k:B) (h:Hd7 B→A:=by intro hk7q;(first|refine sb0 ?_|refine sb1 ?_|((with_reducible refine' Cp.by ?hc ?_);(case hc=>first|exact HC1|exact HC2|exact HC3|exact HC4|exact HC5|exact HC6|exact HC7))|((with_reducible refine' CE.pure ?hc ?_);(case hc=>first|exact HC1|exact HC2|exact HC3|exact HC4|exact HC5|exact HC6|exact HC7)));exact hk7q.run):A:=h ⟨k⟩
end
section
open Go
structure Wsh (x:Sch) (o:Wd):Prop where
 len:o.length=x.kinds.length
 nr:∀ l∈o,l.length≤1000
 row:∀ (k:Nat) l,o[k]?=some l→∀ r∈l,r.length=flen x k
theorem Wsh.shp {x:Sch} {o o':Wd} (h:Wsh x o) (e:shp o'=shp o):Wsh x o' where
 len:=by have:=congrArg List.length e;simp [Go.Proofs.YtjbbmjjildhfbaaGreatDoor.shp] at this;rw [this];exact h.len
 nr:=fun l hl=>by
  obtain ⟨k,hk⟩:=List.getElem?_of_mem hl
  obtain ⟨l',h1,h2⟩:=ax3 e hk
  have:=congrArg List.length h2
  simp at this
  have:=h.nr l' (List.mem_of_getElem? h1);omega
 row:=fun k l hk r hr=>by
  obtain ⟨l',h1,h2⟩:=ax3 e hk
  obtain ⟨i,hi⟩:=List.getElem?_of_mem hr
  have:=congrArg (fun z=>z[i]?) h2
  simp only [List.getElem?_map,hi,Option.map_some] at this
  cases hq:l'[i]? with
  | none=>rw [hq] at this;cases this
  | some r'=>
   rw [hq] at this
   simp only [Option.map_some,Option.some.injEq] at this
   rw [← this];exact h.row k l' h1 r' (List.mem_of_getElem? hq)
theorem aR2 (o:Wd) (k f:Nat) (g:Nat→Int):ah4 o k f g 0=o:=by
 unfold ah4
 have:((o.getD k []).mapIdx fun i l=>if i<0 then l.set f (g i) else l)=o.getD k []:=by
  refine List.ext_getElem? fun i=>?_
  rw [List.getElem?_mapIdx]
  cases (o.getD k [])[i]? <;> simp
 rw [this]
 by_cases h:k<o.length
 ·rw [aa3 (List.getElem?_eq_getElem h)];simp
 ·rw [List.set_eq_of_length_le (by omega)]
theorem av1 {o:Wd} {k:Nat} {l:List (List Int)} (hl:o[k]?=some l) (f:Nat) (g:Nat→Int) (m:Nat):(ah4 o k f g m)[k]?=some (l.mapIdx fun i r=>if i<m then r.set f (g i) else r):=by
 unfold ah4
 rw [List.getElem?_set_self (List.getElem?_eq_some_iff.1 hl).1,aa3 hl]
theorem aV5 {o:Wd} {k k':Nat} (h:k≠k') (f:Nat) (g:Nat→Int) (m:Nat):(ah4 o k f g m)[k']?=o[k']?:=by
 unfold ah4
 rw [List.getElem?_set_ne h]
theorem aR3 {o:Wd} {k i:Nat} {l:List (List Int)} {r:List Int} (hl:o[k]?=some l) (hr:l[i]?=some r) (f:Nat) (g:Nat→Int) :
  ah4 o k f g (i+1)=(ah4 o k f g i).set k ((l.mapIdx fun n r=>if n<i then r.set f (g n) else r).set i (r.set f (g i))):=by
 unfold ah4
 rw [List.set_set,aa3 hl]
 congr 1
 refine List.ext_getElem? fun n=>?_
 have hil:=(List.getElem?_eq_some_iff.1 hr).1
 by_cases e:n=i
 ·subst e
  rw [List.getElem?_set_self (by simpa using hil),List.getElem?_mapIdx,hr]
  simp
 ·rw [List.getElem?_set_ne (Ne.symm e),List.getElem?_mapIdx,List.getElem?_mapIdx]
  have hh:n<i+1↔n<i:=⟨fun h=>by omega,fun h=>by omega⟩
  simp only [hh]
theorem bb6 {l:List (List Int)} {i:Nat} {r:List Int} (hr:l[i]?=some r) (f:Nat) (g:Nat→Int):(l.mapIdx fun n r=>if n<i then r.set f (g n) else r)[i]?=some r:=by
 rw [List.getElem?_mapIdx,hr];simp
theorem aL1 {rows:List (List Int)} {j:Nat} {r:List Int} (h:rows[j]?=some r) (up sh i:Nat):ag2 (rows.take (j+1)) up sh i=if r.getD up 0=(i:Int) then IntKind.i64.wrap (ag2 (rows.take j) up sh i+r.getD sh 0) else ag2 (rows.take j) up sh i:=by
 unfold ag2
 rw [af4 h,List.foldl_append]
 rfl
theorem sk104 {A B:Prop} (k:B) (h:Hd7 B→A:=by intro hk7q;(first|refine sb0 ?_|refine sb1 ?_|((with_reducible refine' Cp.by ?hc ?_);(case hc=>exact HSh))|((with_reducible refine' CE.pure ?hc ?_);(case hc=>exact HSh)));exact hk7q.run):A:=h ⟨k⟩
theorem sk105 {A B:Prop} (k:B) (h:Hd7 B→A:=by intro hk7q;(first|refine sb0 ?_|refine sb1 ?_|((with_reducible refine' Cp.by ?hc ?_);(case hc=>exact hS1))|((with_reducible refine' CE.pure ?hc ?_);(case hc=>exact hS1)));exact hk7q.run):A:=h ⟨k⟩
theorem sk106 {A B:Prop} (k:B) (h:Hd7 B→A:=by intro hk7q;(first|refine sb0 ?_|refine sb1 ?_|((with_reducible refine' Cp.by ?hc ?_);(case hc=>first|exact hS1|exact hHF))|((with_reducible refine' CE.pure ?hc ?_);(case hc=>first|exact hS1|exact hHF)));exact hk7q.run):A:=h ⟨k⟩
theorem sk107 {A B:Prop} (k:B) (h:Hd7 B→A:=by intro hk7q;(first|refine sb0 ?_|refine sb99 ?_|((with_reducible refine' Cp.by ?hc ?_);(case hc=>first|exact hS1|exact hHF))|((with_reducible refine' CE.pure ?hc ?_);(case hc=>first|exact hS1|exact hHF)));exact hk7q.run):A:=h ⟨k⟩
end
section
open Go
theorem w_cells {o:Wd} {v:Value} {vs:List Value} {σ:aa1} (h:RWv o v vs σ) {k i:Nat} {l:List (List Int)} {r:List Int} (hl:o[k]?=some l) (hr:l[i]?=some r) (hne:r≠[]) :
  ∃ b0 cap0 cs0 b1 cap1 cs1 b2 cap2 cs2,v = .slice (some ⟨b0,0,none⟩) o.length cap0∧(b0,Blk.cells 75 cs0)∈σ∧(b1,Blk.cells 22 cs1)∈σ∧(b2,Blk.cells 3 cs2)∈σ∧cs0[k]?=some (.v (.slice (some ⟨b1,0,none⟩) l.length cap1)) ∧
   vs[k]?=some (.slice (some ⟨b1,0,none⟩) l.length cap1)∧cs1[i]?=some (.v (.slice (some ⟨b2,0,none⟩) r.length cap2))∧∀ (n:Nat) (c:Int),r[n]?=some c→cs2[n]?=some (iD c):=by
 obtain ⟨b0,cap0,cs0,u,t,τ,h1,h2,h3,h4,h5,_⟩:=h.at hl
 obtain ⟨b1,cap1,cs1,u2,t2,τ2,g1,g2,g3,g4,_⟩:=RowsOf.at h5 hr
 obtain ⟨b2,cap2,junk,e1,e2,_⟩:=RowIs.block g4 (by simpa using hne)
 subst g1 e2
 rw [List.length_map] at e1
 subst e1
 refine ⟨b0,cap0,cs0,b1,cap1,cs1,b2,cap2,(r.map fun n=>[iD n]).flatten ++ junk,h1,h2.mem_iff.2 (by simp),h2.mem_iff.2 (List.mem_cons_of_mem _ (List.mem_append_left _ (g2.mem_iff.2 (by simp)))),h2.mem_iff.2 (List.mem_cons_of_mem _ (List.mem_append_left _ (g2.mem_iff.2 (by simp)))),h3,h4,g3,fun n c hn=>?_⟩
 have hf:∀ r:List Int,(r.map fun n=>[iD n]).flatten=r.map iD:=fun r=>by
  induction r with
  | nil=>rfl
  | cons a l ih=>simp only [List.map_cons,List.flatten_cons,ih];rfl
 rw [hf,List.getElem?_append_left (by rw [List.length_map];exact (List.getElem?_eq_some_iff.1 hn).1),List.getElem?_map,hn]
 rfl
def RefIn (x:Sch) (o:Wd):Prop:=∀ rf∈aa6 x,∀ r∈o.getD rf.kind [],0≤r.getD rf.field 0∧r.getD rf.field 0<((o.getD rf.up.toNat []).length:Int)
theorem ref_mem {x:Sch} {q u:Nat} {ko:Knd} {gu:Fld} (hk:x.kinds[q]?=some ko) (hu:ko.fields[u]?=some gu) (h1:gu.kind=1):∃ rf∈aa6 x,rf.kind=q∧rf.field=u∧rf.up=upIx x q u:=by
 refine ⟨⟨q,u,upIx x q u,gu.lo⟩,az4.2 ⟨q,(List.getElem?_eq_some_iff.1 hk).1,?_⟩,rfl,rfl,rfl⟩
 unfold refK
 rw [hk]
 refine az4.2 ⟨u,(List.getElem?_eq_some_iff.1 hu).1,?_⟩
 unfold refF
 rw [hu]
 simp [h1]
theorem sumTo_const {o:Wd} {k f:Nat} {g g':Nat→Int} (h:∀ i,g i=g' i) (m:Nat):ah4 o k f g m=ah4 o k f g' m:=by
 rw [show g=g' from funext h]
theorem add_step {o:Wd} {k f u sh j i0:Nat} {l rows:List (List Int)} {y r0:List Int} {yu ys:Int} (hl:o[k]?=some l) (hy:rows[j]?=some y) (hyu:y[u]?=some yu) (hys:y[sh]?=some ys) (hi:yu=(i0:Int)) (h0:l[i0]?=some r0) :
  ah4 o k f (ag2 (rows.take (j+1)) u sh) l.length=(ah4 o k f (ag2 (rows.take j) u sh) l.length).set k ((l.mapIdx fun i r=>if i<l.length then r.set f (ag2 (rows.take j) u sh i) else r).set i0 (((r0.set f (ag2 (rows.take j) u sh i0))).set f (IntKind.i64.wrap (ag2 (rows.take j) u sh i0+ys)))):=by
 unfold ah4
 rw [List.set_set,aa3 hl]
 congr 1
 have hil:=(List.getElem?_eq_some_iff.1 h0).1
 refine List.ext_getElem? fun n=>?_
 by_cases e:n=i0
 ·subst e
  rw [List.getElem?_set_self (by simpa using hil),List.getElem?_mapIdx,h0,aL1 hy,aa3 hyu,aa3 hys,if_pos hi]
  simp [hil]
 ·rw [List.getElem?_set_ne (Ne.symm e),List.getElem?_mapIdx,List.getElem?_mapIdx]
  have:ag2 (rows.take (j+1)) u sh n=ag2 (rows.take j) u sh n:=by
   rw [aL1 hy,aa3 hyu,if_neg (by omega)]
  rw [this]
theorem cl20 {p:Prop} (h:p:=by refine ac3 fun a=>?_;simp only [List.append_eq,List.nil_append,ac4,ae4,ae6];omega):p:=h
theorem cl_add (x:Sch) (hV:Vld x) (o:Wd) (ho:Wsh x o) (hr:RefIn x o) (k f:Nat) (kd:Knd) (hkd:x.kinds[k]?=some kd) (hfl:f<kd.fields.length) (hs0:0≤(ac6 x k f).1) (a:Option Addr) (c:Nat) (vs:List Value) (σ:aa1) (hR:RWv o (.slice a o.length c) vs σ) :
  ACall Tryz.prog 60 [schD x,.v (.slice a o.length c),iD k,iD f] σ (fun d σ'=>d = .v (.tuple #[])∧RWv (ag9 x o k f) (.slice a o.length c) vs σ'):=by
 have hnk:=hV.nk
 have hnf:=hV.nf
 have hS1:=ty_Shares x k f (by omega) (fun k hk=>by have:=hnf k hk;omega)
 have hkl:=(List.getElem?_eq_some_iff.1 hkd).1
 have hfk:flen x k=kd.fields.length:=by unfold flen;rw [hkd]
 obtain ⟨q,sh,u,ko,g,gu,e1,hkq,hko,hg,hg7,hfu,hgu,hgu1,huq,hup⟩:=aR5 hs0
 have hql:=(List.getElem?_eq_some_iff.1 hko).1
 obtain ⟨l,hl⟩:∃ l,o[k]?=some l:=⟨_,List.getElem?_eq_getElem (by rw [ho.len];exact hkl)⟩
 obtain ⟨rows,hrows⟩:∃ l,o[q]?=some l:=⟨_,List.getElem?_eq_getElem (by rw [ho.len];exact hql)⟩
 have hst:ag9 x o k f=ah4 o k f (ag2 rows u sh) l.length:=by
  unfold ag9
  rw [e1,if_neg (by simp only;omega)]
  simp only [Int.toNat_natCast,hup]
  rw [aa3 hl,aa3 hrows]
 rw [e1] at hS1
 have hko':x.kinds[((q:Nat):Int).toNat]?=some ko:=hko
 have hg':ko.fields[((sh:Nat):Int).toNat]?=some g:=hg
 have hkf:=hnf ko (List.mem_of_getElem? hko)
 have hHF:=aj2 ko g.up (by omega)
 rw [hfu] at hHF
 have hll:=ho.nr l (List.mem_of_getElem? hl)
 have hrl:=ho.nr rows (List.mem_of_getElem? hrows)
 have hfq:flen x q=ko.fields.length:=by unfold flen;rw [hko]
 have hul:=(List.getElem?_eq_some_iff.1 hgu).1
 have hsl:=(List.getElem?_eq_some_iff.1 hg).1
 have hrw:∀ r∈rows,r.length=ko.fields.length:=fun r hr=>by rw [← hfq];exact ho.row q rows hrows r hr
 have hlw:∀ r∈l,r.length=kd.fields.length:=fun r hr=>by rw [← hfk];exact ho.row k l hl r hr
 have hin:∀ r∈rows,0≤r.getD u 0∧r.getD u 0<(l.length:Int):=by
  obtain ⟨rf,hrf,q1,q2,q3⟩:=ref_mem hko hgu hgu1
  have:=hr rf hrf
  rw [q1,q2,q3,huq,aa3 hrows,Int.toNat_natCast,aa3 hl] at this
  exact this
 have hko2:k<o.length:=by rw [ho.len];exact hkl
 have hqo2:q<o.length:=by rw [ho.len];exact hql
 obtain ⟨b0,cap0,cs0,a1,c1,e2,m0,h3,hv1⟩:=w_head hR hl
 cases e2
 refine aa4 mixed aa0 Tryz.func60 (by kernel_rfl) rfl Tryz.ntmps60 rfl ?_;intro BB
 repeat' (first|refine sk106 ?_|(intro b;conv=>whnf))
 refine Ld.cellm m0 (by rw [ix1];exact h3) ?_
 repeat' (first|refine sk106 ?_|(intro b;conv=>whnf))
 refine aa9 mixed aa0 (γ:=Nat × aa1) (fun g=>[(43,iD g.1)]) (fun g=>g.2) (fun g=>g.1≤l.length∧RWv (ah4 o k f (fun _=>0) g.1) (.slice (some ⟨b0,0,none⟩) o.length c) vs g.2) (fun g=>l.length - g.1) (0,σ) (aa2 cl2) cl3 ⟨Nat.zero_le _,by rw [aR2];exact hR⟩ ?_
 clear hR m0 h3 cs0
 rintro ⟨i,σ1⟩ ⟨hi,hR1⟩
 simp only at hi hR1 ⊢
 have hl1:(ah4 o k f (fun _=>0) i).length=o.length:=by unfold ah4;rw [List.length_set]
 have hk1:=av1 hl f (fun _=>0) i
 by_cases hil:i<l.length
 ·obtain ⟨r,hri⟩:∃ r,l[i]?=some r:=⟨_,List.getElem?_eq_getElem hil⟩
  have hrk:=hlw r (List.mem_of_getElem? hri)
  obtain ⟨rf,hrf⟩:∃ z,r[f]?=some z:=⟨_,List.getElem?_eq_getElem (by omega)⟩
  obtain ⟨f0,fap0,fs0,f1,fap1,fs1,f2,fap2,fs2,ρ1,e4,p4,k0,kv,k1,k2,k3⟩:=w_open hR1 hk1 (bb6 hri f _) hrf
  rw [hl1] at e4
  cases e4
  rw [List.length_mapIdx] at kv
  cases hv1.symm.trans kv
  have o1:(f1,Blk.cells 22 fs1)∈σ1:=p4.mem_iff.2 (by simp)
  have hs1:=aR3 hl hri f (fun _=>0)
  repeat' (first|refine sk106 ?_|(intro b;conv=>whnf))
  refine Ld.cellm o1 (by rw [ix1];exact k1) ?_
  repeat' (first|refine sk106 ?_|(intro b;conv=>whnf))
  refine Sv.cellm (tb:=3) (cs:=fs2) (cs':=fs2.set f (iD 0)) (τ:=(b0,.cells 75 fs0) :: (f1,.cells 22 fs1) :: ρ1) (p4.trans cl20) (by rw [ix1];exact (List.getElem?_eq_some_iff.1 k2).1) rfl (by rw [ix1]) ?_
  repeat' (first|refine sk106 ?_|(intro b;conv=>whnf))
  have hR4:=RowsV.perm (k3 0) (s':=(f2,.cells 3 (fs2.set f (iD 0))) :: (b0,.cells 75 fs0) :: (f1,.cells 22 fs1) :: ρ1) ((List.Perm.swap _ _ _).trans (List.Perm.cons _ (List.Perm.swap _ _ _)))
  rw [← hs1] at hR4
  exact ⟨(i+1,(f2,.cells 3 (fs2.set f (iD 0))) :: (b0,.cells 75 fs0) :: (f1,.cells 22 fs1) :: ρ1),(aa2 cl2),cl3,⟨by simp only;omega,hR4⟩,by simp only;omega⟩
 ·obtain rfl:i=l.length:=by omega
  have hq1:(ah4 o k f (fun _=>0) l.length)[q]?=some rows:=by rw [aV5 (by omega)];exact hrows
  obtain ⟨d0,dap0,ds0,a2,c2,e3,n0,g3,hv2⟩:=w_head hR1 hq1
  rw [hl1] at e3
  cases e3
  repeat' (first|refine sk106 ?_|(intro b;conv=>whnf))
  refine Ld.cellm n0 (by rw [ix1];exact g3) ?_
  repeat' (first|refine sk106 ?_|(intro b;conv=>whnf))
  refine aa9 mixed aa0 (γ:=Nat × aa1) (fun g=>[(56,iD g.1)]) (fun g=>g.2) (fun g=>g.1≤rows.length∧RWv (ah4 o k f (ag2 (rows.take g.1) u sh) l.length) (.slice (some ⟨b0,0,none⟩) o.length c) vs g.2) (fun g=>rows.length - g.1) (0,σ1) (aa2 cl2) cl3 ⟨Nat.zero_le _,hR1⟩ ?_
  clear hR1 n0 g3 hl1 hk1 hq1 ds0
  rintro ⟨j,σ2⟩ ⟨hj,hR2⟩
  simp only at hj hR2 ⊢
  by_cases hjl:j<rows.length
  ·have hl2:(ah4 o k f (ag2 (rows.take j) u sh) l.length).length=o.length:=by unfold ah4;rw [List.length_set]
   have hk2:=av1 hl f (ag2 (rows.take j) u sh) l.length
   have hq2:(ah4 o k f (ag2 (rows.take j) u sh) l.length)[q]?=some rows:=by rw [aV5 (by omega)];exact hrows
   obtain ⟨y,hy⟩:∃ r,rows[j]?=some r:=⟨_,List.getElem?_eq_getElem hjl⟩
   have hyl:=hrw y (List.mem_of_getElem? hy)
   obtain ⟨yu,hyu⟩:∃ r,y[u]?=some r:=⟨_,List.getElem?_eq_getElem (by omega)⟩
   obtain ⟨ys,hys⟩:∃ r,y[sh]?=some r:=⟨_,List.getElem?_eq_getElem (by omega)⟩
   have hyin:=hin y (List.mem_of_getElem? hy)
   rw [aa3 hyu] at hyin
   obtain ⟨i0,rfl⟩:∃ i0:Nat,yu=i0:=⟨yu.toNat,by omega⟩
   have hi0:i0<l.length:=by omega
   obtain ⟨r0,hr0⟩:∃ r,l[i0]?=some r:=⟨_,List.getElem?_eq_getElem hi0⟩
   have hr0k:=hlw r0 (List.mem_of_getElem? hr0)
   have hstep:=add_step (f:=f) hl hy hyu hys rfl hr0
   obtain ⟨d0,dap0,ds0,d1,dap1,ds1,d2,dap2,ds2,e5,n0,n1,n2,g0,gv,g1,g2⟩:=w_cells hR2 hq2 hy (fun e=>by subst e;simp at hyu)
   rw [hl2] at e5
   cases e5
   cases hv2.symm.trans gv
   have hri:(l.mapIdx fun i r=>if i<l.length then r.set f (ag2 (rows.take j) u sh i) else r)[i0]?=some (r0.set f (ag2 (rows.take j) u sh i0)):=by
    rw [List.getElem?_mapIdx,hr0];simp [hi0]
   have hcf:(r0.set f (ag2 (rows.take j) u sh i0))[f]?=some (ag2 (rows.take j) u sh i0):=List.getElem?_set_self (by omega)
   obtain ⟨f0,fap0,fs0,f1,fap1,fs1,f2,fap2,fs2,ρ1,e4,p4,k0,kv,k1,k2,k3⟩:=w_open hR2 hk2 hri hcf
   rw [hl2] at e4
   cases e4
   rw [List.length_mapIdx] at kv k0
   rw [List.length_set] at k1
   have o0:(b0,Blk.cells 75 fs0)∈σ2:=p4.mem_iff.2 (by simp)
   have o1:(f1,Blk.cells 22 fs1)∈σ2:=p4.mem_iff.2 (by simp)
   have o2:(f2,Blk.cells 3 fs2)∈σ2:=p4.mem_iff.2 (by simp)
   repeat' (first|refine sk106 ?_|(intro b;conv=>whnf))
   refine Ld.cellm n1 (by rw [ix1];exact g1) ?_
   repeat' (first|refine sk106 ?_|(intro b;conv=>whnf))
   refine Ld.cellm o0 (by rw [ix1];exact k0) ?_
   repeat' (first|refine sk106 ?_|(intro b;conv=>whnf))
   refine Ld.cellm n2 (by rw [ix1];exact g2 u _ hyu) ?_
   repeat' (first|refine sk106 ?_|(intro b;conv=>whnf))
   refine Ld.cellm o1 (by rw [ix1];exact k1) ?_
   repeat' (first|refine sk106 ?_|(intro b;conv=>whnf))
   refine Ld.cellm o2 (by rw [ix1];exact k2) ?_
   repeat' (first|refine sk106 ?_|(intro b;conv=>whnf))
   refine Ld.cellm n2 (by rw [ix1];exact g2 sh _ hys) ?_
   repeat' (first|refine sk107 ?_|(intro b;conv=>whnf))
   refine Bx.r ?_
   refine' Ot.yd ?hyw1 ?_
   case hyw1=>exact yd_addw rfl rfl rfl
   repeat' (first|refine sk106 ?_|(intro b;conv=>whnf))
   refine Sv.cellm (tb:=3) (cs:=fs2) (cs':=fs2.set f (iD (IntKind.i64.wrap (ag2 (rows.take j) u sh i0+ys)))) (τ:=(b0,.cells 75 fs0) :: (f1,.cells 22 fs1) :: ρ1) (p4.trans cl20) (by rw [ix1];exact (List.getElem?_eq_some_iff.1 k2).1) rfl (by rw [ix1]) ?_
   repeat' (first|refine sk106 ?_|(intro b;conv=>whnf))
   have hR4:=RowsV.perm (k3 (IntKind.i64.wrap (ag2 (rows.take j) u sh i0+ys))) (s':=(f2,.cells 3 (fs2.set f (iD (IntKind.i64.wrap (ag2 (rows.take j) u sh i0+ys))))) :: (b0,.cells 75 fs0) :: (f1,.cells 22 fs1) :: ρ1) ((List.Perm.swap _ _ _).trans (List.Perm.cons _ (List.Perm.swap _ _ _)))
   rw [← hstep] at hR4
   exact ⟨(j+1,(f2,.cells 3 (fs2.set f (iD (IntKind.i64.wrap (ag2 (rows.take j) u sh i0+ys))))) :: (b0,.cells 75 fs0) :: (f1,.cells 22 fs1) :: ρ1),(aa2 cl2),cl3,⟨by simp only;omega,hR4⟩,by simp only;omega⟩
  ·obtain rfl:j=rows.length:=by omega
   rw [List.take_length,← hst] at hR2
   repeat' (first|refine sk106 ?_|(intro b;conv=>whnf))
   exact Rt.same ⟨rfl,hR2⟩
end
section
open Go
variable {x:Sch} {w:Wd}
def Right (x:Sch) (w:Wd) (v:Sb):Prop:=∀ k i,keptB v k i=true→aw3 x w v k i=false
theorem aW2 {v:Sb} (h:ai0 x w v=true):Right x w v:=by
 intro k i hk
 unfold ai0 at h
 simp only [Bool.and_eq_true,List.all_eq_true] at h
 have:=h.2 (k,i) (ax9 hk)
 simp only [hk,Bool.true_and,Bool.not_eq_true'] at this
 exact this
theorem valid_of {v:Sb} (hc:ab8 x w v=0) (h:Right x w v):ai0 x w v=true:=by
 unfold ai0
 simp only [Bool.and_eq_true,List.all_eq_true,decide_eq_true_eq]
 refine ⟨hc,fun p _=>?_⟩
 cases hk:keptB v p.1 p.2 with
 | false=>rfl
 | true=>rw [h _ _ hk];rfl
def OrTo (a b:Sb) (j i:Nat) (u:Sb):Prop:=u.map List.length=a.map List.length∧∀ k m,keptB u k m=(keptB a k m || (decide (k<j∨(k=j∧m<i)) && keptB b k m))
def IsOr (a b u:Sb):Prop:=u.map List.length=a.map List.length∧∀ k m,keptB u k m=(keptB a k m || keptB b k m)
theorem OrTo.zero (a b:Sb):OrTo a b 0 0 a:=⟨rfl,fun k m=>by
 have:decide (k<0∨(k=0∧m<0))=false:=by simp
 rw [this];simp⟩
theorem aJ8 {s:Sb} {k i:Nat} (h:∀ l,s[k]?=some l→l.length≤i):keptB s k i=false:=by
 unfold keptB
 rw [List.getD_eq_getElem?_getD,List.getD_eq_getElem?_getD]
 cases e:s[k]? with
 | none=>rfl
 | some l=>rw [Option.getD_some,List.getElem?_eq_none (h l e)];rfl
theorem kept_set {s:Sb} {k i:Nat} {l:List Bool} (hl:s[k]?=some l) (hi:i<l.length) (v:Bool) (k' i':Nat):keptB (s.set k (l.set i v)) k' i'=if k'=k∧i'=i then v else keptB s k' i':=by
 unfold keptB
 simp only [List.getD_eq_getElem?_getD]
 by_cases e:k'=k
 ·subst e
  rw [List.getElem?_set_self (List.getElem?_eq_some_iff.1 hl).1,hl]
  simp only [Option.getD_some,true_and]
  by_cases e2:i'=i
  ·subst e2;rw [List.getElem?_set_self hi];simp
  ·rw [List.getElem?_set_ne (Ne.symm e2),if_neg e2]
 ·rw [List.getElem?_set_ne (Ne.symm e),if_neg (by simp [e])]
theorem OrTo.next {a b u:Sb} {j i:Nat} {l:List Bool} (h:OrTo a b j i u) (hl:u[j]?=some l) (hi:i<l.length):OrTo a b j (i+1) (u.set j (l.set i (keptB u j i || keptB b j i))):=by
 refine ⟨?_,fun k m=>?_⟩
 ·rw [← h.1,List.map_set,List.length_set]
  refine List.ext_getElem? fun n=>?_
  by_cases e:n=j
  ·subst e
   rw [List.getElem?_set_self (by rw [List.length_map];exact (List.getElem?_eq_some_iff.1 hl).1),List.getElem?_map,hl];rfl
  ·rw [List.getElem?_set_ne (Ne.symm e)]
 ·rw [kept_set hl hi]
  by_cases e:k=j∧m=i
  ·obtain ⟨rfl,rfl⟩:=e
   rw [if_pos ⟨rfl,rfl⟩,h.2 k m]
   have h1:decide (k<k∨(k=k∧m<m))=false:=by simp
   have h2:decide (k<k∨(k=k∧m<m+1))=true:=by simp
   rw [h1,h2];simp
  ·rw [if_neg e,h.2 k m]
   have:decide (k<j∨(k=j∧m<i))=decide (k<j∨(k=j∧m<i+1)):=decide_eq_decide.2 ⟨fun h=>by omega,fun h=>by omega⟩
   rw [this]
theorem OrTo.row {a b u:Sb} {j:Nat} {l:List Bool} (h:OrTo a b j l.length u) (hb:b.map List.length=a.map List.length) (hl:u[j]?=some l):OrTo a b (j+1) 0 u:=by
 refine ⟨h.1,fun k m=>?_⟩
 rw [h.2 k m]
 by_cases e:k=j∧l.length≤m
 ·have:keptB b k m=false:=by
   obtain ⟨rfl,e⟩:=e
   refine aJ8 fun l' hl'=>?_
   obtain ⟨l2,h2,e2⟩:=ah8 (hb.trans h.1.symm) hl'
   rw [hl] at h2;cases h2;omega
  rw [this];simp
 ·have:decide (k<j∨(k=j∧m<l.length))=decide (k<j+1∨(k=j+1∧m<0)):=decide_eq_decide.2 ⟨fun h=>by omega,fun h=>by omega⟩
  rw [this]
theorem OrTo.all {a b u:Sb} (h:OrTo a b u.length 0 u) (hb:b.map List.length=a.map List.length):IsOr a b u:=by
 refine ⟨h.1,fun k m=>?_⟩
 rw [h.2 k m]
 by_cases e:k<u.length
 ·have:decide (k<u.length∨(k=u.length∧m<0))=true:=by simp [e]
  rw [this,Bool.true_and]
 ·have:keptB b k m=false:=aJ8 fun l hl=>by
   have h1:=(List.getElem?_eq_some_iff.1 hl).1
   have h2:=congrArg List.length (hb.trans h.1.symm)
   simp at h2;omega
  rw [this];simp
end
section
open Go
def ap3 (w:Wd) (s:Sb) (k m:Nat):List (List Int):=((List.range m).filter (keptB s k)).map fun i=>(w.getD k []).getD i []
def nowN (s:Sb) (k i:Nat):Nat:=((List.range i).filter (keptB s k)).length
theorem ay9 (w:Wd) (s:Sb) (k m:Nat):(ap3 w s k m).length=nowN s k m:=by simp [ap3,nowN]
theorem aY4 (s:Sb) (k m:Nat):nowN s k m≤m:=by
 unfold nowN
 have:=List.length_filter_le (keptB s k) (List.range m)
 simpa using this
theorem ao5 (s:Sb) (k m:Nat):nowN s k (m+1)=nowN s k m+(if keptB s k m then 1 else 0):=by
 unfold nowN
 rw [List.range_succ,List.filter_append,List.length_append]
 cases h:keptB s k m <;> simp [h]
theorem nowN_mono (s:Sb) (k:Nat) {m n:Nat} (h:m≤n):nowN s k m≤nowN s k n:=by
 induction h with
 | refl=>exact Nat.le_refl _
 | step h ih=>rw [ao5];omega
theorem aY3 {s:Sb} {k m n:Nat} (h:m<n) (hk:keptB s k m=true):nowN s k m<nowN s k n:=by
 have:=nowN_mono s k (show m+1≤n from h)
 rw [ao5,if_pos hk] at this
 omega
def aS6 {β:Type} (n:Nat) (len:Nat→Nat) (f:Nat→Nat→List β) (j i:Nat):List (List β):=(List.range n).map fun k=>if k<j then f k (len k) else if k=j then f k i else f k 0
section
variable {β:Type} {n:Nat} {len:Nat→Nat} {f:Nat→Nat→List β}
theorem lineTo_len (j i:Nat):(aS6 n len f j i).length=n:=by simp [aS6]
theorem lineTo_get {j i k:Nat} (h:k<n):(aS6 n len f j i)[k]?=some (if k<j then f k (len k) else if k=j then f k i else f k 0):=by
 unfold aS6
 rw [List.getElem?_map,List.getElem?_range h];rfl
end
def wlen (w:Wd) (k:Nat):Nat:=(w.getD k []).length
def outA (w:Wd) (s:Sb):Wd:=aS6 w.length (wlen w) (ap3 w s) w.length 0
theorem aD7 {w:Wd} {s:Sb} {k:Nat} {l:List (List Int)} (hl:w[k]?=some l):(outA w s)[k]?=some (ap3 w s k l.length):=by
 have h:=(List.getElem?_eq_some_iff.1 hl).1
 unfold outA
 rw [lineTo_get h,if_pos h]
 unfold wlen
 rw [aa3 hl]
def orig (w:Wd) (s:Sb) (k n:Nat):List Int:=((outA w s).getD k []).getD n []
def aY5 (w:Wd) (s:Sb) (rf:Rf) (n:Nat):Int:=nowN s rf.up.toNat ((orig w s rf.kind n).getD rf.field 0).toNat
def as4 (w:Wd) (s:Sb) (o:Wd) (rf:Rf):Wd:=ah4 o rf.kind rf.field (aY5 w s rf) (o.getD rf.kind []).length
def as3 (x:Sch) (w:Wd) (s:Sb) (q:Nat):Wd:=((aa6 x).take q).foldl (as4 w s) (outA w s)
def moved (x:Sch) (w:Wd) (s:Sb):Wd:=as3 x w s (aa6 x).length
def aA5 (x:Sch) (w:Wd) (s:Sb):Wd × Int:=if ab8 x w s≠0 then ([],ab8 x w s) else if ai0 x w s=false then ([],8) else (sumsE x (moved x w s),0)
theorem aq5 {x:Sch} {w:Wd} {s:Sb} {q:Nat} {rf:Rf} (h:(aa6 x)[q]?=some rf):as3 x w s (q+1)=as4 w s (as3 x w s q) rf:=by
 unfold as3
 rw [af4 h,List.foldl_append];rfl
theorem ao3 (x:Sch) (w:Wd) (s:Sb):∀ q,q≤(aa6 x).length→shp (as3 x w s q)=shp (outA w s)
 | 0,_=>rfl
 | q+1,h=>by
  rw [aq5 (List.getElem?_eq_getElem (by omega)),as4,bb9,ao3 x w s q (by omega)]
def af6 (o:Wd) (k n f:Nat):Int:=((o.getD k []).getD n []).getD f 0
theorem aA3 {o:Wd} {k f:Nat} {g:Nat→Int} {m:Nat} (k' n f':Nat) (h:k≠k'∨f≠f'):af6 (ah4 o k f g m) k' n f'=af6 o k' n f':=by
 unfold af6
 by_cases e:k=k'
 ·subst e
  have hf:f≠f':=h.resolve_left (fun h=>h rfl)
  cases hl:o[k]? with
  | none=>
   have:(ah4 o k f g m)[k]?=none:=by
    rw [List.getElem?_eq_none_iff] at hl ⊢
    unfold ah4;rw [List.length_set];exact hl
   simp only [List.getD_eq_getElem?_getD,hl,this]
  | some l=>
   rw [aa3 (av1 hl f g m),aa3 hl]
   simp only [List.getD_eq_getElem?_getD,List.getElem?_mapIdx]
   cases hr:l[n]? with
   | none=>rfl
   | some r=>
    simp only [Option.map_some,Option.getD_some]
    split
    ·rw [List.getElem?_set_ne hf]
    ·rfl
 ·simp only [List.getD_eq_getElem?_getD,aV5 e]
theorem cell_set {o:Wd} {k f n m:Nat} {g:Nat→Int} {l:List (List Int)} {r:List Int} (hl:o[k]?=some l) (hr:l[n]?=some r) (hf:f<r.length) (hn:n<m):af6 (ah4 o k f g m) k n f=g n:=by
 unfold af6
 rw [aa3 (av1 hl f g m)]
 have:(l.mapIdx fun i r=>if i<m then r.set f (g i) else r)[n]?=some (r.set f (g n)):=by
  rw [List.getElem?_mapIdx,hr];simp [hn]
 rw [aa3 this,aa3 (List.getElem?_set_self hf)]
theorem refs_apart (x:Sch):(aa6 x).Pairwise fun a b=>a.kind≠b.kind∨a.field≠b.field:=by
 have hF:∀ k kd i a,a∈refF x k kd i→a.kind=k∧a.field=i:=by
  intro k kd i a h
  unfold refF at h
  split at h
  ·split at h
   ·rw [List.mem_singleton] at h;subst h;exact ⟨rfl,rfl⟩
   ·cases h
  ·cases h
 have hK:∀ k a,a∈refK x k→a.kind=k:=by
  intro k a h
  unfold refK at h
  split at h
  ·obtain ⟨i,_,h⟩:=az4.1 h;exact (hF _ _ _ _ h).1
  ·cases h
 unfold aa6 upTo
 rw [List.pairwise_flatMap]
 refine ⟨fun k _=>?_,List.nodup_range.imp fun hab a ha b hb=>.inl (by rw [hK _ _ ha,hK _ _ hb];exact hab)⟩
 unfold refK
 split
 ·unfold upTo
  rw [List.pairwise_flatMap]
  refine ⟨fun i _=>?_,List.nodup_range.imp fun hab a ha b hb=>.inr (by rw [(hF _ _ _ _ ha).2,(hF _ _ _ _ hb).2];exact hab)⟩
  unfold refF
  split
  ·split <;> simp
  ·simp
 ·simp
theorem refs_ne {x:Sch} {p q:Nat} {a b:Rf} (ha:(aa6 x)[p]?=some a) (hb:(aa6 x)[q]?=some b) (h:p≠q):a.kind≠b.kind∨a.field≠b.field:=by
 obtain ⟨l1,e1⟩:=List.getElem?_eq_some_iff.1 ha
 obtain ⟨l2,e2⟩:=List.getElem?_eq_some_iff.1 hb
 have hp:=List.pairwise_iff_getElem.1 (refs_apart x)
 rcases Nat.lt_or_gt_of_ne h with h|h
 ·have:=hp p q l1 l2 h;rwa [e1,e2] at this
 ·have:=hp q p l2 l1 h
  rw [e1,e2] at this
  exact this.imp Ne.symm Ne.symm
theorem cell_old {x:Sch} {w:Wd} {s:Sb} {p:Nat} {a:Rf} (ha:(aa6 x)[p]?=some a) (n:Nat):∀ q,q≤p→af6 (as3 x w s q) a.kind n a.field=af6 (outA w s) a.kind n a.field
 | 0,_=>rfl
 | q+1,h=>by
  have hpl:=(List.getElem?_eq_some_iff.1 ha).1
  have hb:=List.getElem?_eq_getElem (l:=aa6 x) (i:=q) (by omega)
  rw [aq5 hb,as4,aA3 _ _ _ (refs_ne hb ha (by omega)),cell_old ha n q (by omega)]
theorem aF2 {x:Sch} {w:Wd} {s:Sb} {p:Nat} {a:Rf} (ha:(aa6 x)[p]?=some a) {n:Nat} {l:List (List Int)} {r:List Int} (hl:(outA w s)[a.kind]?=some l) (hr:l[n]?=some r) (hf:a.field<r.length):∀ q,p<q→q≤(aa6 x).length→af6 (as3 x w s q) a.kind n a.field=aY5 w s a n
 | 0,h,_=>by omega
 | q+1,h,hq=>by
  have hb:=List.getElem?_eq_getElem (l:=aa6 x) (i:=q) (by omega)
  rw [aq5 hb]
  by_cases e:p=q
  ·subst e
   rw [ha] at hb
   obtain ⟨l',h1,h2⟩:=ax3 (ao3 x w s p (by omega)).symm hl
   have h3:=congrArg (fun z=>z[n]?) h2
   simp only [List.getElem?_map,hr,Option.map_some] at h3
   cases hr':l'[n]? with
   | none=>rw [hr'] at h3;cases h3
   | some r'=>
    rw [hr'] at h3
    simp only [Option.map_some,Option.some.injEq] at h3
    rw [← Option.some.inj hb,as4,aa3 h1,cell_set h1 hr' (by omega) (List.getElem?_eq_some_iff.1 hr').1]
  ·rw [as4,aA3 _ _ _ (refs_ne hb ha (Ne.symm e)),aF2 ha hl hr hf q (by omega) (by omega)]
end
end Go.Proofs.YtjbbmjjildhfbaaGreatDoor
