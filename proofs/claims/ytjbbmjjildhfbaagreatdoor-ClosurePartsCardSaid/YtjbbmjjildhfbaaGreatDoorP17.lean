/- A part of the proof: Fl Fm Sm Sn Vb Vc. -/
import Derived.Test.YtjbbmjjildhfbaaGreatDoorP16
set_option maxRecDepth 100000
set_option maxHeartbeats 4000000
set_option linter.unusedVariables false
set_option linter.unusedSimpArgs false
namespace Go.Proofs.YtjbbmjjildhfbaaGreatDoor
section
open Go Go.RowKit Go.Shelf
section
variable {P:Program} {r:Option Nat} {n:Nat} {df:Nat} {N:Nat} {σ:aa1} {f:Frm} {L:List Oper} {T:TypeId→Option TI}
theorem OtE.copy0 (hT:∀ t i,T t=some i→tiOf P t=some i) {o:Oper} {p x:Operand} {t t2 e:TypeId} {i j:TI} {ag:Bool} {by_ b off dc jj:Nat} {tb:TypeId} {cs:List D} {ys:List (List D)} {K:Frm→aa1→Prop}
  (ho:o.op = .call { callee:=.builtin .copy,args:=#[p,x],argTypes:=#[t,t2] }) (hp:evF f p = .v (.slice (some ⟨b,off,none⟩) 0 dc)) (ht:T t=some i) (hs:i.sl=some (e,ag,1,by_)) (hj:T e=some j) (hjs:j.size=1)
  (hb:σ[jj]?=some (b,.cells tb cs)) (hfit:off≤cs.length) (hx:evF f x = .sl 1 ys) (hy:ys≠[]) (kk:W (putK N o.dst (.v (.int .i64 0)) f (fun f'=>K f' σ))):OtE P r n df L N o f σ K:=by
 refine ⟨fun rest Q a hsp hw hk=>?_⟩
 refine ah3 hw (by rw [ho];rfl) fun w X fr hst=>?_
 have hpv:=hsp.le p _ _ _ (hst.fr.eval p)
 rw [hp] at hpv
 have hpv:=hpv.val rfl
 have hxv:=hsp.le x _ _ _ (hst.fr.eval x)
 rw [hx] at hxv
 obtain ⟨hu,hsz,_⟩:=aj3 (hT t i ht) hs
 have hsz1:(P.info? e).map (·.size)=some 1:=by
  obtain ⟨inf,u,q1,_,_,q4,_⟩:=aq2 (hT e j hj)
  rw [q1];simp [← q4,hjs]
 obtain ⟨_,ob,hob,vs,rfl,hvs⟩:=hst.st.at_ b _ (List.mem_of_getElem? hb)
 obtain ⟨a0,c,news,hxe,hrd,hnl,hcl⟩:=aV7 hxv (by omega)
 obtain ⟨ad,rfl,hcell⟩:=hcl hy
 have hrun:=run_copy_row (P:=P) w t t2 o.type e b off 0 dc ad ys.length c vs.toArray tb [] hu hsz1 hob (by simp) (fun j v h=>by simp at h) (by simp [hvs.len];omega) (fun v h=>by cases h)
 have ee:(execOp fr.eval o).run P w = .ok (.value (goInt 0)) w:=by
  simp only [execOp,ho,resolve,invoke,builtin,Sem.run_bind,Sem.run_pure,Result.andThen,List.map_toArray,List.map_cons,List.map_nil,hpv,hxe,hrun]
  rw [show (vs.toArray.toList.take off ++ ([]:List Value) ++ vs.toArray.toList.drop (off+([]:List Value).length)).toArray=vs.toArray by simp]
  rw [setRow_self w b _ tb _ hob]
  rfl
 rw [ee]
 obtain ⟨f',hs',h4⟩:=ad7 kk.h hsp
 exact ⟨.v (.int .i64 0),σ,Mv.refl _ _,hst.put (.v _) o.dst,hk _ _ _ h4 hs'⟩
end
theorem RowIs.made (e:TypeId) (d:D) (m b:Nat) (hm:m≤maxLen):RowIs e 1 (List.replicate m [d]) (.slice (some ⟨b,0,none⟩) m m) [(b,.cells e (List.replicate m d))]:=
 ⟨fun y hy=>by rw [(List.mem_replicate.1 hy).2];rfl,.inr ⟨b,m,[],by simp,by simp,by simp,hm,by simp,fun d hd=>by cases hd⟩⟩
theorem map_rep {α β:Type} (g:α→β) (n:Nat) (a:α):(List.replicate n a).map g=List.replicate n (g a):=List.map_replicate
theorem bits_mul (x y:Nat) (hx:x<18446744073709551616) (hy:y<18446744073709551616):APure Tryz.prog 76 [.v (.int .u64 x),.v (.int .u64 y)] (.tup [.v (.int .u64 ((x*y / 18446744073709551616:Nat):Int)),.v (.int .u64 ((x*y % 18446744073709551616:Nat):Int))]):=by
 refine ⟨enters_of Tryz.func76 (by kernel_rfl) rfl,fun w O vs hv _=>?_⟩
 obtain ⟨v0,h0,r0⟩:=hv.get (j:=0) rfl
 obtain ⟨v1,h1,r1⟩:=hv.get (j:=1) rfl
 have hl:=hv.len
 have e0:=r0.val rfl
 have e1:=r1.val rfl
 subst e0 e1
 obtain rfl:vs=[.int .u64 x,.int .u64 y]:=by
  match vs,hl,h0,h1 with
  | [a,b],_,h0,h1=>simp at h0 h1;rw [h0,h1]
 refine (Tryz.bits_Mul x y hx hy w).mono ?_
 rintro e w' ⟨rfl,rfl⟩
 exact ⟨_,rfl,.tup _ [_,_] rfl (fun j d u hd hu=>by
  match j,hd,hu with
  | 0,hd,hu=>simp at hd hu;subst hd hu;exact .v _
  | 1,hd,hu=>simp at hd hu;subst hd hu;exact .v _
  | j+2,hd,hu=>simp at hd),Ex.refl _⟩
theorem spl_rep (j m k:Nat):spl (List.replicate j (bD true) ++ List.replicate (m+k) (bD false)) j (List.replicate m (bD true))=List.replicate (j+m) (bD true) ++ List.replicate k (bD false):=by
 unfold spl
 rw [List.take_left' (by simp),List.drop_append,List.drop_of_length_le (by simp),List.length_replicate,List.length_replicate,List.nil_append,List.drop_replicate,show m+k - (j+m - j)=k by omega,List.replicate_append_replicate]
theorem sk82 {A B:Prop} (k:B) (h:Hd7 B→A:=by intro hk7q;(first|refine sb0 ?_|refine sb1 ?_|((with_reducible refine' Cp.by ?hc ?_);(case hc=>exact bits_mul 1 n (by decide) (by omega)))|((with_reducible refine' CE.pure ?hc ?_);(case hc=>exact bits_mul 1 n (by decide) (by omega))));exact hk7q.run):A:=h ⟨k⟩
theorem sl_repeat (n:Nat) (hn:n≤1000):ACall Tryz.prog 54 [.sl 1 [[bD true]],iD n] [] (fun d s=>∃ v,d = .v v∧RB (List.replicate n true) v s):=by
 have e1:1*n / 18446744073709551616=0:=by omega
 have e2:1*n % 18446744073709551616=n:=by omega
 refine aa4 mixed aa0 Tryz.func54 (by kernel_rfl) rfl Tryz.ntmps54 rfl ?_;intro BB
 repeat' (first|refine sk82 ?_|(intro b;conv=>whnf)|((with_reducible refine' Ot.yd ?hyd ?_);(case hyd=>first|exact yd_conv rfl rfl Tryz.underlying3 Tryz.underlying143 (by first|rfl|(rw [IntKind.wrap_u64];omega))|exact yd_conv rfl rfl Tryz.underlying143 Tryz.underlying3 (by rw [IntKind.wrap_i64];omega))))
 rw [e2]
 refine Mk.go n rfl rfl rfl rfl rfl rfl (by omega) (by omega) (fun b=>?_)
 repeat' (first|refine sk82 ?_|(intro b;conv=>whnf))
 have hms:((((n:Nat):Int).toNat):Nat)=n:=rfl
 rcases Nat.eq_zero_or_pos n with rfl|hn0
 ·refine OtE.copy0 aa0 (jj:=0) (off:=0) rfl rfl rfl rfl rfl rfl rfl (Nat.zero_le _) rfl (by simp) ?_
  repeat' (first|refine sk82 ?_|(intro b;conv=>whnf))
  refine aa9 mixed aa0 (γ:=Unit) (fun _=>[(8,iD 0)]) (fun _=>[(b,.cells 4 (List.replicate 0 (bD false)))]) (fun _=>True) (fun _=>0) () (aa2 cl2) cl3 trivial ?_
  rintro - -
  repeat' (first|refine sk82 ?_|(intro b;conv=>whnf))
  exact Rt.same ⟨_,rfl,RowIs.made _ _ 0 b (by unfold maxLen;omega)⟩
 ·have e3:spl (List.replicate n (bD false)) 0 [bD true]=List.replicate 1 (bD true) ++ List.replicate (n - 1) (bD false):=by
   have:=spl_rep 0 1 (n - 1)
   rw [show 1+(n - 1)=n by omega] at this
   simpa using this
  have e4:Nat.min ([[bD true]]:List (List D)).length n=1:=by show min 1 n=1;omega
  refine OtE.copy aa0 (jj:=0) (off:=0) (new:=[bD true]) (cs:=List.replicate n (bD false)) rfl rfl rfl rfl rfl rfl rfl (by simp;omega) rfl (by simp) (.inl ⟨[[bD true]],rfl,by rw [e4];rfl,by rw [e4];rfl⟩) ?_
  repeat' (first|refine sk82 ?_|(intro b;conv=>whnf))
  refine aa9 mixed aa0 (γ:=Nat) (fun j=>[(8,iD j)]) (fun j=>[(b,.cells 4 (List.replicate j (bD true) ++ List.replicate (n - j) (bD false)))]) (fun j=>1≤j∧j≤n) (fun j=>n - j) 1 (aa2 cl2) (by rw [← e3];exact (List.Sublist.refl _)) ⟨by omega,by omega⟩ ?_
  rintro j ⟨hj1,hj2⟩
  by_cases hjn:j<n
  ·obtain ⟨m,hm,hm1,hm2,hm3⟩:∃ m,Nat.min (j - 0) (n - j)=m∧m≤j∧m≤n - j∧1≤m:=⟨_,rfl,by show min _ _≤_;omega,by show min _ _≤_;omega,by show 1≤min _ _;omega⟩
   have e5:spl (List.replicate j (bD true) ++ List.replicate (n - j) (bD false)) (0+j*1) (List.replicate m (bD true))=List.replicate (j+m) (bD true) ++ List.replicate (n - (j+m)) (bD false):=by
    have:=spl_rep j m (n - (j+m))
    rw [show m+(n - (j+m))=n - j by omega] at this
    simpa using this
   repeat' (first|refine sk82 ?_|(intro b;conv=>whnf)|((with_reducible refine' Ot.yd ?hyd ?_);(case hyd=>first|exact yd_slown aa0 rfl rfl rfl rfl (.inr ⟨_,_,rfl,rfl⟩) (.inl ⟨rfl,rfl⟩) (by omega) (by omega) (by omega)|exact yd_slown aa0 rfl rfl rfl rfl (.inl ⟨rfl,rfl⟩) (.inr ⟨_,_,rfl,rfl⟩) (by omega) (by omega) (by omega))))
   refine OtE.copy aa0 (jj:=0) (off:=0+j*1) (new:=List.replicate m (bD true)) (cs:=List.replicate j (bD true) ++ List.replicate (n - j) (bD false)) rfl rfl rfl rfl rfl rfl rfl (by simp;omega) (by simp [oneD,Value.oneCell',bD]) (by simp;omega) (.inr ⟨0+0*1,j - 0,n - 0,rfl,by show _=List.take (Nat.min (j - 0) (n - j)) _;rw [hm,Nat.zero_mul,Nat.add_zero,List.drop_zero,List.take_append_of_le_length (by simp;omega),List.take_replicate,Nat.min_eq_left hm1],by show _=Nat.min (j - 0) (n - j);rw [hm,List.length_replicate]⟩) ?_
   repeat' (first|refine sk82 ?_|(intro b;conv=>whnf))
   rw [List.length_replicate]
   exact ⟨j+m,(aa2 cl7),by rw [← e5];exact (List.Sublist.refl _),⟨by omega,by omega⟩,by omega⟩
  ·obtain rfl:j=n:=by omega
   repeat' (first|refine sk82 ?_|(intro b;conv=>whnf))
   rw [Nat.sub_self,List.replicate_zero,List.append_nil]
   refine Rt.same ⟨_,rfl,?_⟩
   show RowIs _ _ (List.map _ (List.replicate j true)) _ _
   rw [map_rep]
   exact RowIs.made _ _ j b (by unfold maxLen;omega)
theorem r31_full (w:Wd) (hw:Ws w):ACall Tryz.prog 29 [slW w] [] (fun d σ=>∃ v,d = .v v∧RS (ai4 w) v σ):=by
 have hsl:=hw.nk
 have hfl:(ai4 w).length=w.length:=by simp [ai4]
 refine aa4 mixed aa0 Tryz.func29 (by kernel_rfl) rfl Tryz.ntmps29 rfl ?_;intro BB
 repeat' (first|refine sk82 ?_|(intro b;conv=>whnf))
 refine aa9 mixed aa0 (γ:=Nat × Value × aa1) (fun g=>[(3,.v g.2.1),(4,iD g.1)]) (fun g=>g.2.2) (fun g=>g.1≤w.length∧RS ((ai4 w).take g.1) g.2.1 g.2.2) (fun g=>w.length - g.1) (0,.slice none 0 0,[]) (aa2 cl2) cl3 ⟨Nat.zero_le _,RowsOf.nil _ _⟩ ?_
 rintro ⟨j,v,τ⟩ ⟨hj,hR⟩
 simp only at hj hR ⊢
 by_cases hjl:j<w.length
 ·obtain ⟨l,hl⟩:∃ l,w[j]?=some l:=⟨_,List.getElem?_eq_getElem hjl⟩
  have hl':w[((j:Nat):Int).toNat]?=some l:=hl
  have hll:=hw.nr l (List.mem_of_getElem? hl)
  obtain ⟨vs,s0,ts,h1,h2,h3⟩:=hR.ex
  have hlen:=h2.len.1
  rw [List.length_take,hfl,Nat.min_eq_left hj] at hlen
  have hfj:(ai4 w)[j]?=some (List.replicate l.length true):=by unfold ai4;rw [List.getElem?_map,hl];rfl
  repeat' (first|refine sk82 ?_|(intro b;conv=>whnf))
  refine Mk.go l.length rfl rfl rfl rfl rfl (by simp) (by omega) (by omega) (fun b=>?_)
  repeat' (first|refine sk82 ?_|(intro b;conv=>whnf))
  refine aa9 mixed aa0 (γ:=Nat × List D) (fun g=>[(6,iD g.1)]) (fun g=>(b,.cells 4 g.2) :: τ) (fun g=>g.1≤l.length∧RB (part false (List.replicate l.length true) g.1) (.slice (some ⟨b,0,none⟩) l.length l.length) [(b,.cells 4 g.2)]) (fun g=>l.length - g.1) (0,List.replicate l.length (bD false)) (aa2 cl2) cl3 ⟨Nat.zero_le _,by rw [aM9];show RowIs _ _ (List.map _ (List.replicate (List.replicate l.length true).length false)) _ _;rw [map_rep,List.length_replicate];exact RowIs.made _ _ _ _ (by unfold maxLen;omega)⟩ ?_
  rintro ⟨i,cs⟩ ⟨hi,hr⟩
  simp only at hi hr ⊢
  have hrl:(List.replicate l.length true).length=l.length:=List.length_replicate
  by_cases hil:i<l.length
  ·obtain ⟨b1,cap1,cs1,e2,e3,hc1,hset⟩:=aW1 (g:=bD) hr (aX9 false (List.replicate l.length true) (by rw [hrl];exact hil))
   rw [aX8 _ _ (by rw [hrl];exact hi),hrl] at e2
   cases e2
   cases e3
   have hcl:=(List.getElem?_eq_some_iff.1 hc1).1
   have ho:0+((i:Nat):Int).toNat*1=i:=by simp
   repeat' (first|refine sk82 ?_|(intro b;conv=>whnf))
   refine Sv.cellm (cs:=cs) (cs':=cs.set i (bD true)) (τ:=τ) (List.Perm.refl _) (by rw [ho];exact hcl) rfl (by rw [ho]) ?_
   repeat' (first|refine sk82 ?_|(intro b;conv=>whnf))
   exact ⟨(i+1,cs.set i (bD true)),(aa2 cl2),cl3,⟨by simp only;omega,by simp only;rw [← aX7 false (List.replicate l.length true) (x:=true) (by simp [hil])];exact hset true⟩,by simp only;omega⟩
  ·obtain rfl:i=l.length:=by omega
   have hpa:=aY0 false (List.replicate l.length true)
   rw [hrl] at hpa
   rw [hpa] at hr
   repeat' (first|refine sk82 ?_|(intro b;conv=>whnf))
   refine Ap.go rfl rfl rfl rfl h1 (show ((b,Blk.cells 4 cs) :: τ).Perm (s0 ++ (ts.flatten ++ [(b,.cells 4 cs)])) from (List.Perm.cons _ h3).trans (by rw [← List.append_assoc];exact (List.perm_append_singleton _ _).symm)) rfl (zs:=vs.map (fun u=>[D.v u]) ++ [[D.v (.slice (some ⟨b,0,none⟩) l.length l.length)]]) rfl (by simp [hlen];omega) (by simp [hlen];omega) (fun s2=>s2 ++ (ts.flatten ++ [(b,.cells 4 cs)])) (fun s2=>List.Perm.refl _) (fun a2 c2 s2 hr2=>?_)
   repeat' (first|refine sk82 ?_|(intro b;conv=>whnf))
   exact ⟨(j+1,_,s2 ++ (ts.flatten ++ [(b,.cells 4 cs)])),(aa2 cl2),cl3,⟨by simp only;omega,by simp only;rw [af4 hfj];exact RowsOf.push h2 hr2 hr (List.Perm.refl _)⟩,by simp only;omega⟩
 ·obtain rfl:j=w.length:=by omega
  rw [List.take_of_length_le (by omega)] at hR
  repeat' (first|refine sk82 ?_|(intro b;conv=>whnf))
  exact Rt.same ⟨_,rfl,hR⟩
theorem bf7 (w:Wd):(ai4 w).map List.length=w.map List.length:=by unfold ai4;rw [List.map_map];congr 1;funext l;simp
theorem cl_full (w:Wd) (hw:Ws w):ACall Tryz.prog 28 [slW w] [] (fun d σ=>∃ v,d = .v v∧RS (ai4 w) v σ):=by
 have hsl:=hw.nk
 have hfl:(ai4 w).length=w.length:=by simp [ai4]
 refine aa4 mixed aa0 Tryz.func28 (by kernel_rfl) rfl Tryz.ntmps28 rfl ?_;intro BB
 repeat' (first|refine sk2 ?_|(intro b;conv=>whnf))
 refine Mk.go w.length rfl rfl rfl rfl rfl (by simp) (by omega) (by omega) (fun b=>?_)
 repeat' (first|refine sk2 ?_|(intro b;conv=>whnf))
 refine aa9 mixed aa0 (γ:=Nat × aa1) (fun g=>[(11,iD g.1)]) (fun g=>g.2) (fun g=>g.1≤w.length∧RS (part [] (ai4 w) g.1) (.slice (some ⟨b,0,none⟩) w.length w.length) g.2) (fun g=>w.length - g.1) (0,[(b,.cells 62 (List.replicate w.length (.v (.slice none 0 0))))]) (aa2 cl2) cl3 ⟨Nat.zero_le _,by rw [aM9,hfl];exact RowsOf.made (R:=RB) (x0:=[]) (RowIs.nil _ _) w.length b (by unfold maxLen;omega)⟩ ?_
 rintro ⟨j,τ⟩ ⟨hj,hR⟩
 simp only at hj hR ⊢
 by_cases hjl:j<w.length
 ·obtain ⟨l,hl⟩:∃ l,w[j]?=some l:=⟨_,List.getElem?_eq_getElem hjl⟩
  have hl':w[((j:Nat):Int).toNat]?=some l:=hl
  have hll:=hw.nr l (List.mem_of_getElem? hl)
  have hfj:(ai4 w)[j]?=some (List.replicate l.length true):=by unfold ai4;rw [List.getElem?_map,hl];rfl
  obtain ⟨b',cap,cs,u,t,ρ,e1,h2,h3,h4,h5⟩:=hR.at (aX9 [] (ai4 w) (by omega))
  rw [aX8 _ _ (by omega),hfl] at e1
  cases e1
  repeat' (first|refine sk2 ?_|(intro b;conv=>whnf))
  refine CE.own (sl_repeat (l.map fun r=>[slI r]).length (by rw [List.length_map];omega)) (List.Perm.refl ([] ++ τ)) (fun s'=>s' ++ τ) (fun s'=>List.Perm.refl _) ?_
  rintro _ s' ⟨v',rfl,hr'⟩
  rw [List.length_map] at hr'
  obtain ⟨a1,c1,rfl⟩:=hr'.slice
  have hcl:=(List.getElem?_eq_some_iff.1 h3).1
  have ho:0+((j:Nat):Int).toNat*1=j:=by simp
  repeat' (first|refine sk2 ?_|(intro b;conv=>whnf))
  refine Sv.cellm (cs:=cs) (cs':=cs.set j (.v (.slice a1 ((List.replicate l.length true).map fun b=>[bD b]).length c1))) (τ:=s' ++ (t ++ ρ)) ((List.Perm.append_left s' h2).trans List.perm_middle) (by rw [ho];exact hcl) rfl (by rw [ho]) ?_
  repeat' (first|refine sk2 ?_|(intro b;conv=>whnf))
  exact ⟨(j+1,(b,.cells 62 (cs.set j (.v (.slice a1 ((List.replicate l.length true).map fun b=>[bD b]).length c1)))) :: (s' ++ ρ)),(aa2 cl2),(List.Sublist.refl s').append (List.sublist_append_right _ _) |>.cons_cons _,⟨by simp only;omega,by simp only;rw [← aX7 [] (ai4 w) hfj];exact h5 _ _ _ _ hr' (List.Perm.refl _)⟩,by simp only;omega⟩
 ·obtain rfl:j=w.length:=by omega
  rw [← hfl,aY0] at hR
  repeat' (first|refine sk2 ?_|(intro b;conv=>whnf))
  rw [hfl] at hR
  exact Rt.same ⟨_,rfl,hR⟩
theorem aF1 (w:Wd) (hw:Ws w):APure Tryz.prog 28 [slW w] (slS2 (ai4 w)):=APure.of_call ((cl_full w hw).vs2 fun d σ ⟨v,e,h⟩=>by subst e;exact ⟨_,[],Vs.frz frz_s h (by simp),rfl⟩)
theorem ap9 (w:Wd) (hw:Ws w):APure Tryz.prog 29 [slW w] (slS2 (ai4 w)):=APure.of_call ((r31_full w hw).vs2 fun d σ ⟨v,e,h⟩=>by subst e;exact ⟨_,[],Vs.frz frz_s h (by simp),rfl⟩)
theorem set_lens {α:Type} {s:List (List α)} {k i:Nat} {l:List α} {b:α} (hl:s[k]?=some l):(s.set k (l.set i b)).map List.length=s.map List.length:=by
 rw [List.map_set,List.length_set]
 apply List.ext_getElem?
 intro j
 rw [List.getElem?_set]
 split
 ·rename_i e;subst e
  have hk:=(List.getElem?_eq_some_iff.1 hl).1
  rw [if_pos (by simpa using hk),List.getElem?_map,hl];rfl
 ·rfl
theorem r31_some (w:Wd) (hw:Ws w) (p:List Int) (hp:I64s p):ACall Tryz.prog 25 [slW w,slI p] [] (fun d σ=>∃ v s,d = .v v∧RS s v σ∧s.map List.length=w.map List.length):=by
 have hsl:=hw.nk
 have hfl:(ai4 w).length=w.length:=by simp [ai4]
 have HA:=True.intro
 refine aa4 mixed aa0 Tryz.func25 (by kernel_rfl) rfl Tryz.ntmps25 rfl ?_;intro BB
 repeat' (first|refine sk4 ?_|(intro b;conv=>whnf))
 refine CE.own (r31_full w hw) (List.Perm.refl []) (fun s'=>s') (fun s'=>by simp) ?_
 rintro _ σ ⟨v,rfl,hR⟩
 obtain ⟨a,c,rfl⟩:=hR.slice
 rw [hfl] at hR ⊢
 repeat' (first|refine sk4 ?_|(intro b;conv=>whnf))
 refine aa9 mixed aa0 (γ:=Nat × Int × Sb × aa1) (fun g=>[(6,iD g.2.1),(7,iD g.1)]) (fun g=>g.2.2.2) (fun g=>g.1≤w.length∧(0≤g.2.1∧g.2.1≤g.1*1000)∧g.2.2.1.map List.length=w.map List.length∧RS g.2.2.1 (.slice a w.length c) g.2.2.2) (fun g=>w.length - g.1) (0,0,ai4 w,σ) (aa2 cl2) (List.Sublist.refl _) ⟨Nat.zero_le _,⟨by simp,by simp⟩,bf7 w,hR⟩ ?_
 rintro ⟨k,at_,s,τ⟩ ⟨hk,⟨hat,hat'⟩,hsw,hR⟩
 simp only at hk hat hat' hsw hR ⊢
 by_cases hkl:k<w.length
 ·obtain ⟨wl,hwl⟩:∃ l,w[k]?=some l:=⟨_,List.getElem?_eq_getElem hkl⟩
  have hll:=hw.nr wl (List.mem_of_getElem? hwl)
  repeat' (first|refine sk4 ?_|(intro b;conv=>whnf))
  refine aa9 mixed aa0 (γ:=Nat × Int × Sb × aa1) (fun g=>[(6,iD g.2.1),(8,iD g.1)]) (fun g=>g.2.2.2) (fun g=>g.1≤wl.length∧(0≤g.2.1∧g.2.1≤k*1000+g.1)∧g.2.2.1.map List.length=w.map List.length∧RS g.2.2.1 (.slice a w.length c) g.2.2.2) (fun g=>wl.length - g.1) (0,at_,s,τ) (aa2 cl2) (List.Sublist.refl _) ⟨Nat.zero_le _,⟨by simp only;omega,by simp only;omega⟩,hsw,hR⟩ ?_
  clear hat hat' hsw hR
  rintro ⟨i,at_,s,τ⟩ ⟨hi,⟨hat,hat'⟩,hsw,hR⟩
  simp only at hi hat hat' hsw hR ⊢
  have hsl2:s.length=w.length:=by have:=congrArg List.length hsw;simpa using this
  obtain ⟨l,hl,hlw⟩:=ah8 hsw.symm hwl
  have HA:=bd4 p hp at_ 4
  by_cases hil:i<wl.length
  ·obtain ⟨b,hb⟩:∃ b,l[i]?=some b:=⟨_,List.getElem?_eq_getElem (by omega)⟩
   obtain ⟨b0,cap0,cs0,b1,cap1,cs1,ρ,e1,h2,h3,h4,h5⟩:=au3 (g:=bD) hR hl hb
   rw [hsl2] at e1
   cases e1
   have m0:(b0,Blk.cells 62 cs0)∈τ:=h2.mem_iff.2 (by simp)
   repeat' (first|refine sk4 ?_|(intro b;conv=>whnf))
   refine Ld.cellm m0 (by rw [ix1];exact h3) ?_
   repeat' (first|refine sk4 ?_|(intro b;conv=>whnf))
   refine Ld.cellm m0 (by rw [ix1];exact h3) ?_
   repeat' (first|refine sk4 ?_|(intro b;conv=>whnf))
   refine Sv.cellm (tb:=4) (cs:=cs1) (cs':=cs1.set i (bD (!decide (atE p at_ 4=1)))) (τ:=(b0,.cells 62 cs0) :: ρ) (h2.trans (List.Perm.swap _ _ _)) (by rw [ix1];exact (List.getElem?_eq_some_iff.1 h4).1) rfl (by rw [ix1]) ?_
   repeat' (first|refine sk4 ?_|(intro b;conv=>whnf))
   exact ⟨(i+1,at_+1,s.set k (l.set i (!decide (atE p at_ 4=1))),_),(aa2 cl2),(List.Sublist.refl _),⟨by simp only;omega,⟨by simp only;omega,by simp only;omega⟩,by simp only;rw [set_lens hl];exact hsw,(h5 _).perm (List.Perm.swap _ _ _)⟩,by simp only;omega⟩
  ·obtain ⟨b0,cap0,cs0,a1,c1,e1,m0,h3⟩:=bc3 (g:=bD) hR hl
   rw [hsl2] at e1
   cases e1
   obtain rfl:i=wl.length:=by omega
   repeat' (first|refine sk4 ?_|(intro b;conv=>whnf))
   refine Ld.cellm m0 (by rw [ix1];exact h3) ?_
   repeat' (first|refine sk4 ?_|(intro b;conv=>whnf))
   exact ⟨(k+1,at_,s,τ),(aa2 cl2),(List.Sublist.refl _),⟨by simp only;omega,⟨by simp only;omega,by simp only;omega⟩,hsw,hR⟩,by simp only;omega⟩
 ·obtain rfl:k=w.length:=by omega
  repeat' (first|refine sk4 ?_|(intro b;conv=>whnf))
  exact Rt.same ⟨_,_,rfl,hR,hsw⟩
end
section
open Go Go.RowKit Go.Shelf
structure RecOK (x:Sch) (W:Wd) (k:Nat) (kd:Knd) (m:Nat) (r:List Int):Prop where
 len:r.length=m
 sm:∀ v∈r,0≤v∧v<40
 ref:∀ (j:Nat) f v,kd.fields[j]?=some f→f.kind=1→r[j]?=some v→0≤upIx x k j→v<((W.getD (upIx x k j).toNat []).length:Int)
structure KindOK (x:Sch) (W:Wd) (k:Nat) (l:List (List Int)):Prop where
 few:l.length≤5
 recs:∀ kd,x.kinds[k]?=some kd→∀ r∈l,RecOK x W k kd kd.fields.length r
structure MadeW (x:Sch) (W:Wd):Prop where
 len:W.length=x.kinds.length
 ok:∀ (k:Nat) l,W[k]?=some l→KindOK x W k l
theorem getD_set_ne {α:Type} {l:List α} {i j:Nat} (h:i≠j) (a d:α):(l.set i a).getD j d=l.getD j d:=by
 simp [List.getD_eq_getElem?_getD,List.getElem?_set_ne h]
theorem RecOK.set {x:Sch} {W:Wd} {i k:Nat} {kd:Knd} {m:Nat} {r:List Int} (h:RecOK x W i kd m r) (hi:i≤k) (l:List (List Int)):RecOK x (W.set k l) i kd m r:=
 ⟨h.len,h.sm,fun j f v hf hk hv hu=>by
  have hlt:=aJ4 x i j hu
  rw [getD_set_ne (by omega)]
  exact h.ref j f v hf hk hv hu⟩
theorem KindOK.set {x:Sch} {W:Wd} {i k:Nat} {l:List (List Int)} (h:KindOK x W i l) (hi:i≤k) (l2:List (List Int)):KindOK x (W.set k l2) i l:=⟨h.few,fun kd hk r hr=>(h.recs kd hk r hr).set hi l2⟩
theorem RecOK.nil (x:Sch) (W:Wd) (k:Nat) (kd:Knd):RecOK x W k kd 0 []:=⟨rfl,by simp,by simp⟩
theorem RecOK.snoc {x:Sch} {W:Wd} {k:Nat} {kd:Knd} {m:Nat} {r:List Int} (h:RecOK x W k kd m r) {v:Int} {f:Fld} (hf:kd.fields[m]?=some f) (hv:0≤v∧v<40) (hr:f.kind=1→0≤upIx x k m→v<((W.getD (upIx x k m).toNat []).length:Int)):RecOK x W k kd (m+1) (r ++ [v]):=by
 refine ⟨by simp [h.len],fun z hz=>?_,fun j g z hg hk hz hu=>?_⟩
 ·rcases List.mem_append.1 hz with hz|hz
  ·exact h.sm z hz
  ·rw [List.mem_singleton] at hz;subst hz;exact hv
 ·by_cases hj:j<r.length
  ·rw [List.getElem?_append_left hj] at hz
   exact h.ref j g z hg hk hz hu
  ·rw [List.getElem?_append_right (by omega)] at hz
   have hj2:j - r.length=0:=by
    have:=(List.getElem?_eq_some_iff.1 hz).1
    simp at this;omega
   rw [hj2] at hz
   simp at hz
   subst hz
   obtain rfl:j=m:=by have:=h.len;omega
   cases hf.symm.trans hg
   exact hr hk hu
theorem rows_hd {α:Type} {R:ORep α} {e e1:TypeId} {t:List (List α)} {v:Value} {σ:aa1} (h:RowsOf e (RowsOf e1 R) t v σ) {j:Nat} {l:List α} (hl:t[j]?=some l) :
  ∃ b0 cap0 cs0 a1 c1,v = .slice (some ⟨b0,0,none⟩) t.length cap0∧(b0,Blk.cells e cs0)∈σ∧cs0[j]?=some (.v (.slice a1 l.length c1)):=by
 obtain ⟨b0,cap0,cs0,u,tt,ρ,h1,h2,h3,h4,h5⟩:=h.at hl
 obtain ⟨a1,c1,rfl⟩:=h4.slice
 exact ⟨b0,cap0,cs0,a1,c1,h1,h2.mem_iff.2 (by simp),h3⟩
theorem sk83 {A B:Prop} (k:B) (h:Hd7 B→A:=by intro hk7q;(first|refine sb0 ?_|refine sb1 ?_|((with_reducible refine' Cp.by ?hc ?_);(case hc=>first|exact HAt|exact bd4 p hp _ _|exact HUj))|((with_reducible refine' CE.pure ?hc ?_);(case hc=>first|exact HAt|exact bd4 p hp _ _|exact HUj)));exact hk7q.run):A:=h ⟨k⟩
theorem r31_made (x:Sch) (hK:x.kinds.length≤1000) (hF:∀ k∈x.kinds,k.fields.length≤1000) (p:List Int) (hp:I64s p):ACall Tryz.prog 24 [schD x,slI p] [] (fun d σ=>∃ v Z,d = .v v∧RW Z v σ∧MadeW x Z):=by
 have HU:=fun i j=>aC8 x i j (by omega) (fun k hk=>by have:=hF k hk;omega)
 refine aa4 mixed aa0 Tryz.func24 (by kernel_rfl) rfl Tryz.ntmps24 rfl ?_;intro BB
 repeat' (first|refine sk83 ?_|(intro b;conv=>whnf))
 refine Mk.go x.kinds.length rfl rfl rfl rfl rfl (by simp) (by omega) (by omega) (fun b=>?_)
 repeat' (first|refine sk83 ?_|(intro b;conv=>whnf))
 refine aa9 mixed aa0 (γ:=Nat × Int × Wd × aa1) (fun g=>[(6,iD g.2.1),(7,iD g.1)]) (fun g=>g.2.2.2) (fun g=>g.1≤x.kinds.length∧(0≤g.2.1∧g.2.1≤g.1*100000)∧g.2.2.1.length=x.kinds.length∧(∀ (i:Nat) l,i<g.1→g.2.2.1[i]?=some l→KindOK x g.2.2.1 i l)∧(∀ (i:Nat),g.1≤i→i<x.kinds.length→g.2.2.1[i]?=some [])∧RW g.2.2.1 (.slice (some ⟨b,0,none⟩) x.kinds.length x.kinds.length) g.2.2.2) (fun g=>x.kinds.length - g.1) (0,0,List.replicate x.kinds.length [],[(b,.cells 75 (List.replicate x.kinds.length (.v (.slice none 0 0))))]) (aa2 cl2) cl3 ⟨Nat.zero_le _,⟨by simp,by simp⟩,by simp,fun i l hi=>by simp at hi,fun i _ hi=>by simp [hi],RowsOf.made (R:=RW1) (x0:=[]) (RowsOf.nil _ _) _ b (by unfold maxLen;omega)⟩ ?_
 rintro ⟨k,at_,Z,τ⟩ ⟨hk,⟨hat,hat'⟩,hWl,hWk,hW0,hR⟩
 simp only at hk hat hat' hWl hWk hW0 hR ⊢
 by_cases hkl:k<x.kinds.length
 ·obtain ⟨kd,hkd⟩:∃ y,x.kinds[k]?=some y:=⟨_,List.getElem?_eq_getElem hkl⟩
  have hkd':x.kinds[((k:Nat):Int).toNat]?=some kd:=hkd
  have hfl:=hF kd (List.mem_of_getElem? hkd)
  have hn:=ae0 p at_ 6
  have hn':=hn.2 (by omega)
  obtain ⟨n0,hn0⟩:∃ n:Nat,atE p at_ 6=n:=⟨(atE p at_ 6).toNat,by omega⟩
  repeat' (first|refine sk83 ?_|(intro b;conv=>whnf))
  rw [hn0]
  refine aa9 mixed aa0 (γ:=Nat × Nat) (fun g=>[(8,iD g.2),(9,iD g.1)]) (fun _=>τ) (fun g=>g.1≤kd.fields.length∧g.2≤5∧∀ j:Nat,j<g.1→0<g.2→0≤upIx x k j→(Z.getD (upIx x k j).toNat []).length≠0) (fun g=>kd.fields.length - g.1) (0,n0) (aa2 cl2) (List.Sublist.refl _) ⟨Nat.zero_le _,by omega,fun j hj=>by simp at hj⟩ ?_
  rintro ⟨j,n⟩ ⟨hj,hn5,hup⟩
  simp only at hj hn5 hup ⊢
  by_cases hjl:j<kd.fields.length
  ·have hu1:=aV1 x k j
   have HUj:=HU k j
   have hup':=hup
   generalize hu:upIx x k j=u at *
   by_cases hu0:0≤u
   ·have hu3:u<k:=by have:=aJ4 x k j (by omega);omega
    obtain ⟨o,rfl⟩:∃ o:Nat,u=o:=⟨u.toNat,by omega⟩
    obtain ⟨lo,hlo⟩:∃ l,Z[o]?=some l:=⟨_,List.getElem?_eq_getElem (by omega)⟩
    obtain ⟨b0,cap0,cs0,a1,c1,e1,m0,h3⟩:=rows_hd hR hlo
    rw [hWl] at e1
    cases e1
    repeat' (first|refine sk83 ?_|(intro b;conv=>whnf))
    refine Ld.cellm m0 (by rw [ix1];exact h3) ?_
    by_cases hl0:lo.length=0
    ·repeat' (first|refine sk83 ?_|(intro b;conv=>whnf))
     exact ⟨(j+1,0),(aa2 cl7),(List.Sublist.refl _),⟨by simp only;omega,by simp only;omega,fun i hi h0=>by simp at h0⟩,by simp only;omega⟩
    ·repeat' (first|refine sk83 ?_|(intro b;conv=>whnf))
     refine ⟨(j+1,n),(aa2 cl7),(List.Sublist.refl _),⟨by simp only;omega,by simp only;omega,fun i hi h0 hi2=>?_⟩,by simp only;omega⟩
     by_cases e:i=j
     ·subst e
      rw [hu,show ((o:Nat):Int).toNat=o from rfl,aa3 hlo]
      exact hl0
     ·exact hup i (by simp only at hi;omega) h0 hi2
   ·repeat' (first|refine sk83 ?_|(intro b;conv=>whnf))
    refine ⟨(j+1,n),(aa2 cl7),(List.Sublist.refl _),⟨by simp only;omega,by simp only;omega,fun i hi h0 hi2=>?_⟩,by simp only;omega⟩
    by_cases e:i=j
    ·subst e
     rw [hu] at hi2
     exact absurd hi2 hu0
    ·exact hup i (by simp only at hi;omega) h0 hi2
  ·obtain rfl:j=kd.fields.length:=by omega
   have hZk:=hW0 k (Nat.le_refl _) hkl
   repeat' (first|refine sk83 ?_|(intro b;conv=>whnf))
   refine aa9 mixed aa0 (γ:=Nat × Int × List (List Int) × aa1) (fun g=>[(6,iD g.2.1),(11,iD g.1)]) (fun g=>g.2.2.2) (fun g=>g.1≤n∧(0≤g.2.1∧g.2.1≤k*100000+1+g.1*1000)∧g.2.2.1.length=g.1∧(∀ r∈g.2.2.1,RecOK x Z k kd kd.fields.length r)∧RW (Z.set k g.2.2.1) (.slice (some ⟨b,0,none⟩) x.kinds.length x.kinds.length) g.2.2.2) (fun g=>n - g.1) (0,at_+1,[],τ) (aa2 cl7) (List.Sublist.refl _) ⟨Nat.zero_le _,⟨by simp only;omega,by simp only;omega⟩,rfl,by simp,by simp only;rw [aV9 hZk];exact hR⟩ ?_
   rintro ⟨i,at2,l,τ2⟩ ⟨hi,⟨hat2,hat2'⟩,hll,hlr,hR2⟩
   simp only at hi hat2 hat2' hll hlr hR2 ⊢
   by_cases hil:i<n
   ·repeat' (first|refine sk83 ?_|(intro b;conv=>whnf))
    refine aa9 mixed aa0 (γ:=Nat × Int × List Int × Value × aa1) (fun g=>[(6,iD g.2.1),(12,.v g.2.2.2.1),(13,iD g.1)]) (fun g=>g.2.2.2.2 ++ τ2) (fun g=>g.1≤kd.fields.length∧(0≤g.2.1∧g.2.1≤k*100000+1+i*1000+g.1)∧RecOK x Z k kd g.1 g.2.2.1∧RI g.2.2.1 g.2.2.2.1 g.2.2.2.2) (fun g=>kd.fields.length - g.1) (0,at2,[],.slice none 0 0,[]) (aa2 cl7) (List.Sublist.refl _) ⟨Nat.zero_le _,⟨by simp only;omega,by simp only;omega⟩,RecOK.nil _ _ _ _,RowIs.nil _ _⟩ ?_
    rintro ⟨j,at3,r,v,s⟩ ⟨hj3,⟨hat3,hat3'⟩,hrec,hri⟩
    simp only at hj3 hat3 hat3' hrec hri ⊢
    have hrl:=hrec.len
    by_cases hjl:j<kd.fields.length
    ·obtain ⟨f,hf⟩:∃ f,kd.fields[j]?=some f:=⟨_,List.getElem?_eq_getElem hjl⟩
     have hf':kd.fields[((j:Nat):Int).toNat]?=some f:=hf
     have hv:=ae0 p at3 40
     have hv':=hv.2 (by omega)
     generalize hve:atE p at3 40=v0 at *
     have HAt:APure Tryz.prog 52 [slI p,iD at3,iD 40] (iD v0):=hve ▸ bd4 p hp at3 40
     by_cases hf1:f.kind=1
     ·have hu1:=aV1 x k j
      have HUj:=HU k j
      have huk:=fun h=>aJ4 x k j h
      have hupj:=fun h=>hup j hjl (by omega) h
      have hsn:∀ v:Int,(0≤v∧v<40)→(0≤upIx x k j→v<((Z.getD (upIx x k j).toNat []).length:Int))→RecOK x Z k kd (j+1) (r ++ [v]):=fun v hv h=>hrec.snoc hf hv (fun _=>h)
      generalize hu:upIx x k j=u at *
      obtain ⟨m,hm,hmu⟩:∃ m:Nat,(if u<0 then 0 else u)=m∧(0≤u→u=m):=by
       by_cases h:u<0
       ·exact ⟨0,by rw [if_pos h];rfl,fun h'=>by omega⟩
       ·exact ⟨u.toNat,by rw [if_neg h];omega,fun h'=>by omega⟩
      have hm0:u<0→m=0:=fun h=>by rw [if_pos h] at hm;omega
      have hmk:m≤k:=by
       by_cases h:0≤u
       ·have:=huk h;have:=hmu h;omega
       ·have:=hm0 (by omega);omega
      have hml:m<(Z.set k l).length:=by rw [List.length_set];omega
      obtain ⟨l0,hl0⟩:∃ l',(Z.set k l)[m]?=some l':=⟨_,List.getElem?_eq_getElem hml⟩
      obtain ⟨b0,cap0,cs0,a1,c1,e1,m0,h3⟩:=rows_hd hR2 hl0
      rw [List.length_set,hWl] at e1
      cases e1
      obtain ⟨q,hq,hq1,hq2⟩:∃ q:Int,(if (l0.length:Int)<1 then 1 else (l0.length:Int))=q∧1≤q∧(l0.length≠0→q=l0.length):=by
       by_cases h:(l0.length:Int)<1
       ·exact ⟨1,by rw [if_pos h],by omega,fun h'=>by omega⟩
       ·exact ⟨_,by rw [if_neg h],by omega,fun _=>rfl⟩
      repeat' (first|refine sk83 ?_|(intro b;conv=>whnf))
      rw [hm]
      refine Ld.cellm (List.mem_append_right _ m0) (by rw [ix1];exact h3) ?_
      repeat' (first|refine sk83 ?_|(intro b;conv=>whnf))
      rw [hq]
      obtain ⟨z,hz,hz0,hzq,hz40⟩:∃ z,v0.tmod q=z∧0≤z∧z<q∧z<40:=by
       have e:=Int.tmod_eq_emod_of_nonneg (b:=q) hv.1
       have e1:=Int.emod_nonneg v0 (show q≠0 by omega)
       have e2:=Int.emod_lt_of_pos v0 (show 0<q by omega)
       have e3:=Int.emod_add_mul_ediv v0 q
       have e4:=Int.mul_nonneg (show 0≤q by omega) (Int.ediv_nonneg hv.1 (show 0≤q by omega))
       exact ⟨_,rfl,by omega,by omega,by omega⟩
      rw [hz]
      have hzu:0≤u→z<((Z.getD u.toNat []).length:Int):=fun h=>by
       have h1:=hmu h
       have h2:=huk h
       have h4:=hupj h
       rw [List.getElem?_set_ne (by omega)] at hl0
       rw [show u.toNat=m by omega,aa3 hl0] at h4 ⊢
       rw [hq2 h4] at hzq
       exact hzq
      refine Ap.go rfl rfl rfl rfl hri (List.Perm.refl _) rfl (zs:=(r ++ [z]).map fun n=>[iD n]) (by simp) (by simp;omega) (by simp;omega) (fun s'=>s' ++ τ2) (fun s'=>List.Perm.refl _) (fun a5 c5 s5 hr5=>?_)
      repeat' (first|refine sk83 ?_|(intro b;conv=>whnf))
      exact ⟨(j+1,at3+1,r ++ [z],_,s5),(aa2 cl7),(List.Sublist.refl _),⟨by simp only;omega,⟨by simp only;omega,by simp only;omega⟩,hsn z ⟨hz0,hz40⟩ hzu,hr5⟩,by simp only;omega⟩
     ·repeat' (first|refine sk83 ?_|(intro b;conv=>whnf))
      refine Ap.go rfl rfl rfl rfl hri (List.Perm.refl _) rfl (zs:=(r ++ [v0]).map fun n=>[iD n]) (by simp) (by simp;omega) (by simp;omega) (fun s'=>s' ++ τ2) (fun s'=>List.Perm.refl _) (fun a5 c5 s5 hr5=>?_)
      repeat' (first|refine sk83 ?_|(intro b;conv=>whnf))
      exact ⟨(j+1,at3+1,r ++ [v0],_,s5),(aa2 cl7),(List.Sublist.refl _),⟨by simp only;omega,⟨by simp only;omega,by simp only;omega⟩,hrec.snoc hf ⟨hv.1,hv'⟩ (fun h=>absurd h hf1),hr5⟩,by simp only;omega⟩
    ·obtain rfl:j=kd.fields.length:=by omega
     obtain ⟨b0,cap0,cs0,u1,t1,τ1,e1,g2,g3,g4,g5⟩:=hR2.at (show (Z.set k l)[k]?=some l from List.getElem?_set_self (by omega))
     rw [List.length_set,hWl] at e1
     cases e1
     obtain ⟨a1,c1,rfl⟩:=g4.slice
     obtain ⟨a6,c6,rfl⟩:=hri.slice
     have m0:(b,Blk.cells 75 cs0)∈s ++ τ2:=List.mem_append_right _ (g2.mem_iff.2 (by simp))
     obtain ⟨vs,s0,ts,q1,q2,q3⟩:=g4.ex
     have hlen:=q2.len.1
     repeat' (first|refine sk83 ?_|(intro b;conv=>whnf))
     refine Ld.cellm m0 (by rw [ix1];exact g3) ?_
     repeat' (first|refine sk83 ?_|(intro b;conv=>whnf))
     refine Ap.go rfl rfl rfl rfl q1 (τ:=(b,.cells 75 cs0) :: (ts.flatten ++ (s ++ τ1))) (by (refine ac3 fun a=>?_;have e1:=And.intro (aj8 g2 a) (aj8 q3 a);simp only [List.append_eq,List.nil_append,ac4,ae4,ae6,rfC,atC,iD,bD] at e1 ⊢;omega)) rfl (zs:=vs.map (fun u=>[D.v u]) ++ [[D.v (.slice a6 (r.map fun n=>[iD n]).length c6)]]) rfl (by simp [hlen];omega) (by simp [hlen];omega) (fun s2=>s2 ++ ((b,.cells 75 cs0) :: (ts.flatten ++ (s ++ τ1)))) (fun s2=>List.Perm.refl _) (fun a7 c7 s7 hr7=>?_)
     repeat' (first|refine sk83 ?_|(intro b;conv=>whnf))
     refine Sv.cellm (tb:=75) (cs:=cs0) (cs':=cs0.set k (.v (.slice a7 (vs.map (fun u=>[D.v u]) ++ [[D.v (.slice a6 (r.map fun n=>[iD n]).length c6)]]).length c7))) (τ:=s7 ++ (ts.flatten ++ (s ++ τ1))) List.perm_middle (by rw [ix1];exact (List.getElem?_eq_some_iff.1 g3).1) rfl (by rw [ix1]) ?_
     repeat' (first|refine sk83 ?_|(intro b;conv=>whnf))
     refine ⟨(i+1,at3,l ++ [r],_),(aa2 cl7),(List.Sublist.refl _),⟨by simp only;omega,⟨by simp only;omega,by simp only;omega⟩,by simp [hll],fun r' hr'=>?_,?_⟩,by simp only;omega⟩
     ·rcases List.mem_append.1 hr' with h|h
      ·exact hlr r' h
      ·rw [List.mem_singleton] at h;subst h;exact hrec
     ·simp only
      have h8:=g5 _ _ (s7 ++ (ts.flatten ++ s)) ((b,.cells 75 (cs0.set k (.v (.slice a7 (vs.map (fun u=>[D.v u]) ++ [[D.v (.slice a6 (r.map fun n=>[iD n]).length c6)]]).length c7)))) :: (s7 ++ (ts.flatten ++ (s ++ τ1)))) (RowsOf.push q2 hr7 hri (List.Perm.refl _)) (by simp)
      rw [List.set_set] at h8
      exact h8
   ·obtain rfl:i=n:=by omega
    repeat' (first|refine sk83 ?_|(intro b;conv=>whnf))
    refine ⟨(k+1,at2,Z.set k l,τ2),(aa2 cl7),(List.Sublist.refl _),⟨by simp only;omega,⟨by simp only;omega,by simp only;omega⟩,by simp only;rw [List.length_set];exact hWl,fun i l' hi hl'=>?_,fun i hi hi2=>?_,hR2⟩,by simp only;omega⟩
    ·simp only at hi hl' ⊢
     by_cases e:i=k
     ·subst e
      rw [List.getElem?_set_self (by omega)] at hl'
      cases hl'
      exact ⟨by omega,fun kd' hk' r hr=>by cases hkd.symm.trans hk';exact (hlr r hr).set (Nat.le_refl _) _⟩
     ·rw [List.getElem?_set_ne (by omega)] at hl'
      exact (hWk i l' (by omega) hl').set (by omega) _
    ·simp only at hi ⊢
     rw [List.getElem?_set_ne (by omega)]
     exact hW0 i (by omega) hi2
 ·obtain rfl:k=x.kinds.length:=by omega
  repeat' (first|refine sk83 ?_|(intro b;conv=>whnf))
  exact Rt.same ⟨_,Z,rfl,hR,⟨hWl,fun i l hi=>hWk i l (by have:=(List.getElem?_eq_some_iff.1 hi).1;omega) hi⟩⟩
end
section
open Go Go.RowKit Go.Shelf
theorem r31_made_p (x:Sch) (hK:x.kinds.length≤1000) (hF:∀ k∈x.kinds,k.fields.length≤1000) (p:List Int) (hp:I64s p):ASome Tryz.prog 24 [schD x,slI p] (fun d=>∃ Z,d=slW Z∧MadeW x Z):=
 ASome.of_call ((r31_made x hK hF p hp).vs2 fun d σ ⟨v,Z,e,h,hm⟩=>by subst e;exact ⟨_,[],Vs.frz frz_w h (by simp),Z,rfl,hm⟩)
theorem aR8 (w:Wd) (hw:Ws w) (p:List Int) (hp:I64s p):ASome Tryz.prog 25 [slW w,slI p] (fun d=>∃ s,d=slS2 s∧s.map List.length=w.map List.length):=
 ASome.of_call ((r31_some w hw p hp).vs2 fun d σ ⟨v,s,e,h,hm⟩=>by subst e;exact ⟨_,[],Vs.frz frz_s h (by simp),s,rfl,hm⟩)
theorem bd2 (l:List Int) (hl:I64s l):ASome Tryz.prog 23 [slI l] (fun d=>∃ x,d=schD x∧GenX x):=
 ASome.of_call ((r09_schema l hl).imp fun d σ ⟨x,e,_,h⟩=>⟨x,e,h⟩)
def Wn (w:Wd):Prop:=∀ l∈w,∀ r∈l,∀ v∈r,I64n v
structure WOK (w:Wd):Prop where
 ws:Ws w
 wn:Wn w
 few:∀ l∈w,l.length≤6
 fk:w.length≤3
theorem WOK.nil:WOK []:=⟨⟨by simp,by simp,by simp⟩,(fun _ h=>by cases h),by simp,by simp⟩
theorem MadeW.ok' {x:Sch} {w:Wd} (h:MadeW x w) (hx:Cls x):WOK w:=by
 have key:∀ l∈w,l.length≤5∧∀ r∈l,r.length≤10∧∀ v∈r,0≤v∧v<40:=fun l hl=>by
  obtain ⟨k,hk⟩:=List.getElem?_of_mem hl
  have hkl:=(List.getElem?_eq_some_iff.1 hk).1
  have h1:=h.ok k l hk
  rw [h.len] at hkl
  have h2:=List.getElem?_eq_getElem hkl
  refine ⟨h1.few,fun r hr=>?_⟩
  have h3:=h1.recs _ h2 r hr
  exact ⟨by rw [h3.len];exact (hx.ks _ (List.getElem_mem hkl)).nf,h3.sm⟩
 refine ⟨⟨by rw [h.len];have:=hx.nk;omega,fun l hl=>by have:=(key l hl).1;omega,fun l hl r hr=>by have:=((key l hl).2 r hr).1;omega⟩,fun l hl r hr v hv=>by have:=((key l hl).2 r hr).2 v hv;unfold I64n;omega,fun l hl=>by have:=(key l hl).1;omega,by rw [h.len];exact hx.nk⟩
theorem sk84 {A B:Prop} (k:B) (h:Hd7 B→A:=by intro hk7q;(first|refine sb0 ?_|refine sb5 ?_|((with_reducible refine' Cp.by ?hc ?_);(case hc=>exact aa5 at_ _ hat))|((with_reducible refine' CE.pure ?hc ?_);(case hc=>exact aa5 at_ _ hat)));exact hk7q.run):A:=h ⟨k⟩
end
section
open Go Go.RowKit Go.Shelf
theorem Ss.of_len {w:Wd} {s:Sb} (h:s.map List.length=w.map List.length) (hw:Ws w):Ss s:=by
 have hl:s.length=w.length:=by have:=congrArg List.length h;simpa using this
 refine ⟨by rw [hl];exact hw.nk,fun l hl2=>?_⟩
 have:l.length∈s.map List.length:=List.mem_map.2 ⟨l,hl2,rfl⟩
 rw [h] at this
 obtain ⟨m,hm,e⟩:=List.mem_map.1 this
 rw [← e];exact hw.nr m hm
theorem Ss.nil:Ss []:=⟨by simp,fun _ h=>by cases h⟩
theorem sb85 {A B:Prop} (k:B) (h:Hd7 B→A:=by intro hk7q;(first|(with_reducible refine Bc.l ?_)|(with_reducible refine Bx.l ?_)|fail|fail);exact hk7q.run):A:=h ⟨k⟩
theorem sk86 {A B:Prop} (k:B) (h:Hd7 B→A:=by intro hk7q;(first|refine sb0 ?_|refine sb85 ?_|((with_reducible refine' Cp.by ?hc ?_);(case hc=>first|exact aa5 at_ _ hat|exact ap9 w hw))|((with_reducible refine' CE.pure ?hc ?_);(case hc=>first|exact aa5 at_ _ hat|exact ap9 w hw)));exact hk7q.run):A:=h ⟨k⟩
theorem sb87 {A B:Prop} (k:B) (h:Hd7 B→A:=by intro hk7q;(first|(with_reducible refine Bc.l ?_)|fail|fail|fail);exact hk7q.run):A:=h ⟨k⟩
theorem sk88 {A B:Prop} (k:B) (h:Hd7 B→A:=by intro hk7q;(first|refine sb0 ?_|refine sb87 ?_|((with_reducible refine' Cp.by ?hc ?_);(case hc=>first|exact aa5 at_ _ hat|exact ap9 w hw))|((with_reducible refine' CE.pure ?hc ?_);(case hc=>first|exact aa5 at_ _ hat|exact ap9 w hw)));exact hk7q.run):A:=h ⟨k⟩
end
section
open Go Go.Maps Go.MapKept
theorem cl_wrong (x:Sch) (w:Wd) (s:Sb) (hF:Fit x w s) (k i:Nat) (l:List (List Int)) (y:List Int) (hl:w[k]?=some l) (hy:l[i]?=some y) (a:Option Addr) (c bl:Nat) (σ:aa1) (hC:CS x w s (.slice a s.length c) bl σ) :
  ACall Tryz.prog 48 [.ro (stC x w (.slice a s.length c) bl),atD k i] σ (fun d σ'=>d=bD (aw3 x w s k i)∧σ'=σ):=by
 have hV:=hF.snd.vld
 have hrl:=az0 hV
 have hsl:=hF.ss.nk
 have hwl:=hF.ws.nk
 have hll:=hF.ws.nr l (List.mem_of_getElem? hl)
 have hkl:=(List.getElem?_eq_some_iff.1 hl).1
 have hil:=(List.getElem?_eq_some_iff.1 hy).1
 have hl':w[((k:Nat):Int).toNat]?=some l:=hl
 have hy':l[((i:Nat):Int).toNat]?=some y:=hy
 obtain ⟨σs,R,J,hR,hM,hp⟩:=hC
 refine aa4 mixed aa0 Tryz.func48 (by kernel_rfl) rfl Tryz.ntmps48 rfl ?_;intro BB
 repeat' (first|refine sk2 ?_|(intro b;conv=>whnf))
 refine aa9 mixed aa0 (γ:=Nat) (fun q=>[(12,iD q)]) (fun _=>σ) (fun q=>q≤(aa6 x).length∧∀ (n:Nat) r,n<q→(aa6 x)[n]?=some r→aA4 w s k i r=false) (fun q=>(aa6 x).length - q) 0 (aa2 cl2) cl3 ⟨Nat.zero_le _,fun k r h=>by omega⟩ ?_
 rintro q ⟨hq,hno⟩
 by_cases hql:q<(aa6 x).length
 ·obtain ⟨r,hr⟩:∃ r,(aa6 x)[q]?=some r:=⟨_,List.getElem?_eq_getElem hql⟩
  have hr':(aa6 x)[((q:Nat):Int).toNat]?=some r:=hr
  have hrm:=List.mem_of_getElem? hr
  obtain ⟨u1,u2,u3⟩:=hF.snd.up r hrm
  have hWl:=(aj6 hF.fit).1
  have yes:aA4 w s k i r=true→aw3 x w s k i=true:=fun h=>any_at hr h
  have nxt:aA4 w s k i r=false→∀ (n:Nat) r',n<q+1→(aa6 x)[n]?=some r'→aA4 w s k i r'=false:=fun h n r' hn hr2=>by
   by_cases e:n=q
   ·subst e;cases hr.symm.trans hr2;exact h
   ·exact hno n r' (by omega) hr2
  have w1:∀ b c:Bool,(decide (r.kind=k) && !keptB s r.up.toNat (am0 w k i r.field).toNat)=b→(decide (r.up=k) && decide ((ad4 w s r i:Int)<r.least))=c→aA4 w s k i r=(b || c):=fun b c h1 h2=>by unfold aA4;rw [h1,h2]
  -- the map of this Ref
  obtain ⟨bm,Fm,G2,ρ2,hG2,hgq,hcnt,_⟩:=hM.get hr
  have hcE:cE x w s q i=ad4 w s r i:=by unfold cE;rw [hr]
  have ml:(bl,Blk.obj (MapO Tryz.prog 3 G2))∈σ:=hp.mem_iff.2 (List.mem_append_right _ (List.mem_append_left _ (hG2.mem_iff.2 (by simp))))
  have mm:(bm,Blk.obj (MapO Tryz.prog 33 Fm))∈σ:=hp.mem_iff.2 (List.mem_append_right _ (List.mem_append_left _ (hG2.mem_iff.2 (by simp))))
  have hc0:(Fm (atV r.up i)).getD (.int .i64 0) = .int .i64 (ad4 w s r i):=by rw [← hcE];exact hcnt i
  obtain ⟨kl,hkl⟩:=bh9 (ref_key hF hrm) (show (Lit.int .i64 (i:Int)).wf=true from wf64 (by omega) (by omega))
  by_cases e:r.kind=k
  ·obtain ⟨v,z,t,g1,g2,g3,g4,g5,g6,g7⟩:=fit_ref hF hrm (by rw [e];exact hl) hy
   have g1':y[((r.field:Nat):Int).toNat]?=some v:=g1
   obtain ⟨b,hb⟩:∃ b,t[v.toNat]?=some b:=⟨_,List.getElem?_eq_getElem g7⟩
   have htl:=hF.ss.nr t (List.mem_of_getElem? g5)
   have hkk:keptB s r.up.toNat (am0 w k i r.field).toNat=b:=by rw [← e,g2,av8 g5 hb]
   have hB:r.up≠k:=by omega
   have hw:=w1 (!b) false (by rw [decide_eq_true e,hkk];rfl) (by simp [hB])
   rw [Bool.or_false] at hw
   obtain ⟨b0,cap0,cs0,b1,cap1,cs1,ρ,e1,h2,h3,h4,_⟩:=au3 hR g5 hb
   cases e1
   have m0:(b0,Blk.cells 62 cs0)∈σ:=hp.mem_iff.2 (List.mem_append_left _ (h2.mem_iff.2 (by simp)))
   have m1:(b1,Blk.cells 4 cs1)∈σ:=hp.mem_iff.2 (List.mem_append_left _ (h2.mem_iff.2 (by simp)))
   have hul:r.up<s.length:=by have:=(List.getElem?_eq_some_iff.1 g5).1;omega
   cases b with
   | false=>
    repeat' (first|refine sk2 ?_|(intro b;conv=>whnf)|((with_reducible refine' Ld.cellm (List.mem_cons_of_mem _ m0) ?hq8 ?_);(case hq8=>(rw [Nat.zero_add,Nat.mul_one];exact h3)))|((with_reducible refine' Ld.cellm (List.mem_cons_of_mem _ m1) ?hq8 ?_);(case hq8=>(rw [Nat.zero_add,Nat.mul_one];exact h4))))
    exact Rt.by (Vs.drop (List.sublist_cons_self _ _)) ⟨congrArg bD (yes hw).symm,rfl⟩
   | true=>
    repeat' (first|refine sk2 ?_|(intro b;conv=>whnf)|((with_reducible refine' Ld.cellm (List.mem_cons_of_mem _ m0) ?hq8 ?_);(case hq8=>(rw [Nat.zero_add,Nat.mul_one];exact h3)))|((with_reducible refine' Ld.cellm (List.mem_cons_of_mem _ m1) ?hq8 ?_);(case hq8=>(rw [Nat.zero_add,Nat.mul_one];exact h4))))
    exact ⟨q+1,(aa2 cl2),cl3,⟨by omega,nxt hw⟩,by omega⟩
  ·by_cases B:r.up=k
   ·have w2:∀ b:Bool,decide ((ad4 w s r i:Int)<r.least)=b→aA4 w s k i r=b:=fun b h=>by rw [w1 false b (by rw [decide_eq_false e];rfl) (by rw [decide_eq_true B,h];rfl)];cases b <;> rfl
    have hcl:ad4 w s r i≤1000:=by
     unfold ad4
     refine Nat.le_trans List.countP_le_length ?_
     rw [List.length_range]
     rcases h:w[r.kind]? with _|lk
     ·simp [List.getD_eq_getElem?_getD,h]
     ·rw [aa3 h];exact hF.ws.nr lk (List.mem_of_getElem? h)
    repeat' (first|refine sk2 ?_|(intro b;conv=>whnf)|((with_reducible refine' Ld.cellm (List.mem_cons_of_mem _ m0) ?hq8 ?_);(case hq8=>(rw [Nat.zero_add,Nat.mul_one];exact h3)))|((with_reducible refine' Ld.cellm (List.mem_cons_of_mem _ m1) ?hq8 ?_);(case hq8=>(rw [Nat.zero_add,Nat.mul_one];exact h4))))
    refine Ot.yd (aj0 (u:=.map (some bm)) rfl rfl (KeyD.v _) (List.mem_cons_of_mem _ ml) (fun _ h=>h) az7 Tryz.underlying132 aU6 (aY9 (wf64 (by omega) (by omega))) (by rw [hgq];rfl)) ?_
    repeat' (first|refine sk2 ?_|(intro b;conv=>whnf)|((with_reducible refine' Ld.cellm (List.mem_cons_of_mem _ m0) ?hq8 ?_);(case hq8=>(rw [Nat.zero_add,Nat.mul_one];exact h3)))|((with_reducible refine' Ld.cellm (List.mem_cons_of_mem _ m1) ?hq8 ?_);(case hq8=>(rw [Nat.zero_add,Nat.mul_one];exact h4))))
    refine Ot.yd (aj0 (kv:=atV r.up i) (u:=.int .i64 (ad4 w s r i)) rfl rfl (by rw [B];exact KeyD.agg2 _ _) (List.mem_cons_of_mem _ mm) (fun _ h=>h) ap8 Tryz.underlying116 ar8 hkl hc0) ?_
    by_cases hlt:(ad4 w s r i:Int)<r.least
    ·have hw:=w2 true (decide_eq_true hlt)
     repeat' (first|refine sk2 ?_|(intro b;conv=>whnf)|((with_reducible refine' Ld.cellm (List.mem_cons_of_mem _ m0) ?hq8 ?_);(case hq8=>(rw [Nat.zero_add,Nat.mul_one];exact h3)))|((with_reducible refine' Ld.cellm (List.mem_cons_of_mem _ m1) ?hq8 ?_);(case hq8=>(rw [Nat.zero_add,Nat.mul_one];exact h4))))
     exact Rt.by (Vs.drop (List.sublist_cons_self _ _)) ⟨congrArg bD (yes hw).symm,rfl⟩
    ·have hw:=w2 false (decide_eq_false hlt)
     repeat' (first|refine sk2 ?_|(intro b;conv=>whnf)|((with_reducible refine' Ld.cellm (List.mem_cons_of_mem _ m0) ?hq8 ?_);(case hq8=>(rw [Nat.zero_add,Nat.mul_one];exact h3)))|((with_reducible refine' Ld.cellm (List.mem_cons_of_mem _ m1) ?hq8 ?_);(case hq8=>(rw [Nat.zero_add,Nat.mul_one];exact h4))))
     exact ⟨q+1,(aa2 cl2),cl3,⟨by omega,nxt hw⟩,by omega⟩
   ·have hw:=w1 false false (by rw [decide_eq_false e];rfl) (by rw [decide_eq_false B];rfl)
    repeat' (first|refine sk2 ?_|(intro b;conv=>whnf)|((with_reducible refine' Ld.cellm (List.mem_cons_of_mem _ m0) ?hq8 ?_);(case hq8=>(rw [Nat.zero_add,Nat.mul_one];exact h3)))|((with_reducible refine' Ld.cellm (List.mem_cons_of_mem _ m1) ?hq8 ?_);(case hq8=>(rw [Nat.zero_add,Nat.mul_one];exact h4))))
    exact ⟨q+1,(aa2 cl2),cl3,⟨by omega,nxt hw⟩,by omega⟩
 ·obtain rfl:q=(aa6 x).length:=by omega
  repeat' (first|refine sk2 ?_|(intro b;conv=>whnf))
  refine Rt.same ⟨congrArg bD (Eq.symm ?_),rfl⟩
  unfold aw3
  rw [List.any_eq_false]
  intro r hr
  obtain ⟨n,hn⟩:=List.getElem?_of_mem hr
  rw [hno n r (List.getElem?_eq_some_iff.1 hn).1 hn];simp
end
section
open Go Go.Maps Go.MapKept
theorem count_other {w:Wd} {s:Sb} {r:Rf} {k i:Nat} (h:r.kind≠k) (i':Int):ad4 w (ah6 s k i) r i'=ad4 w s r i':=by
 unfold ad4
 refine List.countP_congr fun j _=>?_
 rw [aq7]
 simp [Ne.symm h]
theorem count_clear {w:Wd} {s:Sb} {r:Rf} {k i:Nat} (h:r.kind=k) (hk:keptB s k i=true) (hi:i<(w.getD k []).length) (i':Int):ad4 w (ah6 s k i) r i' + (if i'=am0 w k i r.field then 1 else 0)=ad4 w s r i':=by
 unfold ad4
 subst h
 by_cases e:i'=am0 w r.kind i r.field
 ·rw [if_pos e]
  rw [← aB8 (p:=fun j=>keptB s r.kind j && decide (am0 w r.kind j r.field=i')) (a:=i) List.nodup_range (List.mem_range.2 hi) (by simp [hk,e])]
  congr 1
  refine List.countP_congr fun j _=>?_
  rw [aq7]
  simp [Bool.and_right_comm,and_right_comm]
 ·rw [if_neg e,Nat.add_zero]
  refine List.countP_congr fun j _=>?_
  rw [aq7]
  by_cases e2:i=j
  ·subst e2;simp [Ne.symm e]
  ·simp [e2]
theorem sk89 {A B:Prop} (k:B) (h:Hd7 B→A:=by intro hk7q;(first|refine sb0 ?_|refine sb80 ?_|((with_reducible refine' Cp.by ?hc ?_);(case hc=>fail))|((with_reducible refine' CE.pure ?hc ?_);(case hc=>fail)));exact hk7q.run):A:=h ⟨k⟩
theorem cl_drop (x:Sch) (w:Wd) (s:Sb) (hF:Fit x w s) (k i:Nat) (hk:keptB s k i=true) (a:Option Addr) (c bl:Nat) (σ:aa1) (hC:CS x w s (.slice a s.length c) bl σ) :
  ACall Tryz.prog 41 [.ro (stC x w (.slice a s.length c) bl),atD k i] σ (fun d σ'=>d = .v (.tuple #[])∧CS x w (ah6 s k i) (.slice a s.length c) bl σ'):=by
 have hV:=hF.snd.vld
 have hrl:=az0 hV
 have hsl:=hF.ss.nk
 have hwl:=hF.ws.nk
 obtain ⟨k',i',t,e1,e2,ht,hb⟩:=au9 (show ao6 s k i=true by unfold ao6;simp [hk])
 obtain rfl:k=k':=by omega
 obtain rfl:i=i':=by omega
 clear e1 e2
 obtain ⟨l,hl,hll'⟩:=ah8 hF.shp.symm ht
 have hil:i<l.length:=by have:=(List.getElem?_eq_some_iff.1 hb).1;omega
 obtain ⟨y,hy⟩:∃ y,l[i]?=some y:=⟨_,List.getElem?_eq_getElem hil⟩
 have hll:=hF.ws.nr l (List.mem_of_getElem? hl)
 have hkl:=(List.getElem?_eq_some_iff.1 hl).1
 have hksl:=(List.getElem?_eq_some_iff.1 ht).1
 have hl':w[((k:Nat):Int).toNat]?=some l:=hl
 have hy':l[((i:Nat):Int).toNat]?=some y:=hy
 obtain ⟨σs,R,J,hR,hM,hp⟩:=hC
 obtain ⟨b0,cap0,cs0,b1,cap1,cs1,ρ,e1,h2,h3,h4,h5⟩:=au3 hR ht hb
 cases e1
 have m0:(b0,Blk.cells 62 cs0)∈σ:=hp.mem_iff.2 (List.mem_append_left _ (h2.mem_iff.2 (by simp)))
 refine aa4 mixed aa0 Tryz.func41 (by kernel_rfl) rfl Tryz.ntmps41 rfl ?_;intro BB
 repeat' (first|refine sk89 ?_|(intro b;conv=>whnf))
 refine Ld.cellm (cs:=cs0) m0 (by rw [ix1];exact h3) ?_
 repeat' (first|refine sk89 ?_|(intro b;conv=>whnf))
 refine Sv.cellm (tb:=4) (cs:=cs1) (cs':=cs1.set i (bD false)) (τ:=(b0,.cells 62 cs0) :: (ρ ++ (R ++ J))) (by (refine ac3 fun a=>?_;have e1:=And.intro (aj8 hp a) (aj8 h2 a);simp only [List.append_eq,List.nil_append,ac4,ae4,ae6,rfC,atC,iD,bD] at e1 ⊢;omega)) (by rw [ix1];exact (List.getElem?_eq_some_iff.1 h4).1) rfl (by rw [ix1]) ?_
 repeat' (first|refine sk89 ?_|(intro b;conv=>whnf))
 have hR3:=(h5 false).perm (List.Perm.swap (b0,Blk.cells 62 cs0) (b1,Blk.cells 4 (cs1.set i (bD false))) ρ)
 rw [clear_set ht] at hR3
 refine aa9 mixed aa0 (γ:=Nat × aa1) (fun g=>[(22,iD g.1)]) (fun g=>g.2) (fun g=>g.1≤(aa6 x).length∧∃ R J,MP (aa6 x) (fun n i'=>if n<g.1 then cE x w (ah6 s k i) n i' else cE x w s n i') bl R∧g.2.Perm (((b1,Blk.cells 4 (cs1.set i (bD false))) :: (b0,.cells 62 cs0) :: ρ) ++ (R ++ J))) (fun g=>(aa6 x).length - g.1) (0,(b1,Blk.cells 4 (cs1.set i (bD false))) :: (b0,.cells 62 cs0) :: (ρ ++ (R ++ J))) (aa2 cl2) cl3 ⟨Nat.zero_le _,R,J,hM.cong (fun n i _=>by simp),by (refine ac3 fun a=>?_;simp only [List.append_eq,List.nil_append,ac4,ae4,ae6,rfC,atC,iD,bD];omega)⟩ ?_
 rintro ⟨q,σ2⟩ ⟨hq,R2,J2,hM2,hp2⟩
 simp only at hq hM2 hp2 ⊢
 by_cases hql:q<(aa6 x).length
 ·obtain ⟨r,hr⟩:∃ r,(aa6 x)[q]?=some r:=⟨_,List.getElem?_eq_getElem hql⟩
  have hr':(aa6 x)[((q:Nat):Int).toNat]?=some r:=hr
  have hrm:=List.mem_of_getElem? hr
  have hcs:∀ i',cE x w s q i'=ad4 w s r i':=fun i'=>by unfold cE;rw [hr]
  have hct:∀ i',cE x w (ah6 s k i) q i'=ad4 w (ah6 s k i) r i':=fun i'=>by unfold cE;rw [hr]
  by_cases e:r.kind=k
  ·obtain ⟨v,z,t',g1,g2,g3,g4,g5,g6,g7⟩:=fit_ref hF hrm (by rw [e];exact hl) hy
   have g1':y[((r.field:Nat):Int).toNat]?=some v:=g1
   have htl:=hF.ss.nr t' (List.mem_of_getElem? g5)
   rw [e] at g2
   obtain ⟨bm,Fm,G2,ρ2,hG2,hgq,hcnt,hset⟩:=hM2.get hr
   repeat' (first|refine sk89 ?_|(intro b;conv=>whnf))
   have hp3:((b,Blk.cells 121 (rfC r)) :: σ2).Perm ((bl,.obj (MapO Tryz.prog 3 G2)) :: (bm,.obj (MapO Tryz.prog 33 Fm)) :: ((b,.cells 121 (rfC r)) :: (ρ2 ++ (((b1,Blk.cells 4 (cs1.set i (bD false))) :: (b0,.cells 62 cs0) :: ρ) ++ J2)))):=by (refine ac3 fun a=>?_;have e1:=And.intro (aj8 hp2 a) (aj8 hG2 a);simp only [List.append_eq,List.nil_append,ac4,ae4,ae6,rfC,atC,iD,bD] at e1 ⊢;omega)
   have hp4:((b,Blk.cells 121 (rfC r)) :: σ2).Perm ((bm,.obj (MapO Tryz.prog 33 Fm)) :: ((bl,.obj (MapO Tryz.prog 3 G2)) :: (b,.cells 121 (rfC r)) :: (ρ2 ++ (((b1,Blk.cells 4 (cs1.set i (bD false))) :: (b0,.cells 62 cs0) :: ρ) ++ J2)))):=by (refine ac3 fun a=>?_;have e1:=aj8 hp3 a;simp only [List.append_eq,List.nil_append,ac4,ae4,ae6,rfC,atC,iD,bD] at e1 ⊢;omega)
   have ml:(bl,Blk.obj (MapO Tryz.prog 3 G2))∈((b,Blk.cells 121 (rfC r)) :: σ2):=hp3.mem_iff.2 (by simp)
   have mm:(bm,Blk.obj (MapO Tryz.prog 33 Fm))∈((b,Blk.cells 121 (rfC r)) :: σ2):=hp3.mem_iff.2 (by simp)
   have hcq:∀ i',cnt Fm r i' = .int .i64 (ad4 w s r i'):=fun i'=>by have:=hcnt i';rw [if_neg (by omega),hcs] at this;exact this
   have hc0:(Fm (atV r.up v)).getD (.int .i64 0) = .int .i64 (ad4 w s r v):=hcq v
   obtain ⟨kl,hkl⟩:=bh9 (ref_key hF hrm) (show (Lit.int .i64 v).wf=true from wf64 (by omega) (by omega))
   have hle:ad4 w s r v≤1000:=by
    unfold ad4
    refine Nat.le_trans List.countP_le_length ?_
    rw [List.length_range,e,aa3 hl];omega
   have hfin:∃ R J,MP (aa6 x) (fun n i'=>if n<q+1 then cE x w (ah6 s k i) n i' else cE x w s n i') bl R∧((bm,Blk.obj (MapO Tryz.prog 33 (updF (updF Fm (atV r.up v) (.int .i64 (ad4 w s r v))) (atV r.up v) (.int .i64 (ad4 w s r v - 1))))) :: ((bl,.obj (MapO Tryz.prog 3 G2)) :: (b,.cells 121 (rfC r)) :: (ρ2 ++ (((b1,Blk.cells 4 (cs1.set i (bD false))) :: (b0,.cells 62 cs0) :: ρ) ++ J2)))).Perm (((b1,Blk.cells 4 (cs1.set i (bD false))) :: (b0,.cells 62 cs0) :: ρ) ++ (R ++ J)):=by
    refine ⟨_,((b,.cells 121 (rfC r)) :: J2),(hset (updF (updF Fm (atV r.up v) (.int .i64 (ad4 w s r v))) (atV r.up v) (.int .i64 (ad4 w s r v - 1))) (fun i'=>ad4 w (ah6 s k i) r i') (fun i'=>?_)).cong (fun n i' _=>?_),by (refine ac3 fun a=>?_;simp only [List.append_eq,List.nil_append,ac4,ae4,ae6,rfC,atC,iD,bD];omega)⟩
    ·have hcc:=count_clear (w:=w) e hk (by rw [aa3 hl];exact hil) i'
     rw [g2] at hcc
     rw [aZ6,aZ6]
     by_cases e2:i'=v
     ·subst e2;rw [if_pos rfl] at hcc;simp only [if_true];congr 1;omega
     ·rw [if_neg e2,Nat.add_zero] at hcc
      rw [if_neg e2,if_neg e2,hcq,hcc]
    ·by_cases hnq:n=q
     ·subst hnq
      rw [if_pos rfl,if_pos (by omega),hct]
     ·rw [if_neg hnq]
      by_cases h:n<q
      ·rw [if_pos h,if_pos (by omega)]
      ·rw [if_neg h,if_neg (by omega)]
   refine Dm.r ?_
   refine W.mk ?_
   refine ax6 mixed aa0 rfl [0,1,2,3,4,5,6,7,8,9,10,11,12,13,14,15,16,17,18,19,20,21,22,23,24] 5 (.two 25 (.two 26 (.one 27 (.one 28 (.one 29 .done))) 27 (.two 26 (.one 28 (.one 29 .done)) 28 (.one 26 (.one 29 .done)))) 27 (.two 25 (.two 26 (.one 28 (.one 29 .done)) 28 (.one 26 (.one 29 .done))) 28 (.one 25 (.one 26 (.one 29 .done))))) (γ:=Value × aa1) (fun g=>[(57,iD (ad4 w s r v)),(58,iD (ad4 w s r v - 1)),(59,.tup [iD (ad4 w s r v),.v g.1]),(60,.v g.1)]) (fun g=>g.2) (fun g=>∃ R J,MP (aa6 x) (fun n i'=>if n<q+1 then cE x w (ah6 s k i) n i' else cE x w s n i') bl R∧g.2.Perm (((b1,Blk.cells 4 (cs1.set i (bD false))) :: (b0,.cells 62 cs0) :: ρ) ++ (R ++ J))) (by decide +kernel) ?_ ?_
   ·repeat' (first|refine sk89 ?_|(intro b;conv=>whnf))
    refine Ot.yd (aj0 (u:=.map (some bm)) rfl rfl (KeyD.v _) ml (fun _ h=>h) az7 Tryz.underlying132 aU6 (aY9 (wf64 (by omega) (by omega))) (by rw [hgq];rfl)) ?_
    repeat' (first|refine sk89 ?_|(intro b;conv=>whnf)|(refine And.intro ?_ ?_ <;> (conv=>whnf))|(refine OtE.yd rfl (aj0 (kv:=atV r.up v) (u:=.int .i64 (ad4 w s r v)) rfl rfl (KeyD.agg2 _ _) mm (fun _ h=>h) ap8 Tryz.underlying116 ar8 hkl hc0) ?_)|(refine OtE.yd rfl (aj0 (kv:=atV r.up v) (u:=.int .i64 (ad4 w s r v)) rfl rfl (KeyD.agg2 _ _) (List.mem_cons_self) (fun _ h=>h.is) ap8 Tryz.underlying116 ar8 hkl (updF_at _ _ _ _)) ?_)|(refine OtE.mapEntry2 (kv:=atV r.up v) (u:=.int .i64 (ad4 w s r v)) rfl rfl (KeyD.agg2 _ _) hp4 (fun _ h=>h) ap8 Tryz.underlying116 ar8 hkl hc0 (fun st=>?_))|(refine OtE.entryStore (kv:=atV r.up v) (xv:=.int .i64 (ad4 w s r v - 1)) rfl rfl rfl rfl (List.Perm.refl _) hkl ?_))
    all_goals exact ⟨(st,_),(aa2 cl2),rfl,hfin⟩
   ·rintro ⟨st,σ3⟩ ⟨R3,J3,hM3,hp3'⟩
    simp only at hM3 hp3' ⊢
    repeat' (first|refine sk89 ?_|(intro b;conv=>whnf))
    exact ⟨(q+1,σ3),(aa2 cl2),cl3,⟨by simp only;omega,R3,J3,hM3,hp3'⟩,by simp only;omega⟩
  ·repeat' (first|refine sk89 ?_|(intro b;conv=>whnf))
   refine ⟨(q+1,_),(aa2 cl2),List.sublist_cons_self _ _,⟨by simp only;omega,R2,J2,hM2.cong (fun n i' hn=>?_),hp2⟩,by simp only;omega⟩
   by_cases hnq:n=q
   ·subst hnq
    rw [if_neg (by omega),if_pos (by omega),hcs,hct,count_other e]
   ·by_cases h:n<q
    ·rw [if_pos h,if_pos (by omega)]
    ·rw [if_neg h,if_neg (by omega)]
 ·obtain rfl:q=(aa6 x).length:=by omega
  repeat' (first|refine sk89 ?_|(intro b;conv=>whnf))
  exact Rt.same ⟨rfl,_,R2,J2,hR3,hM2.cong (fun n i' hn=>by rw [if_pos hn]),hp2⟩
end
end Go.Proofs.YtjbbmjjildhfbaaGreatDoor
