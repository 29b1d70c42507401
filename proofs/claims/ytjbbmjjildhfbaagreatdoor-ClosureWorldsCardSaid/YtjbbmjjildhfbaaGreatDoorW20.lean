/- A part of the proof: Shelf Fl Fm Sm. -/
import Derived.Test.YtjbbmjjildhfbaaGreatDoorW19
import Derived.Shelf.Strings.Builder1
import Derived.Shelf.Strconv.Itoa0
import Derived.Shelf.Strconv.Itoa1
import Derived.Shelf.LaysM
import Derived.Shelf.Strconv.Itoa2
import Derived.Shelf.Strconv.Itoa3
import Derived.Shelf.Bits.Mul64
import Derived.Ground.Names2Prog
import Derived.Shelf.Slices.Clone
import Derived.Ground.SlgnProg
import Derived.Shelf.SlicesE.Clone
import Derived.Test.YtjbbmjjildhfbaaGreatDoorProg
set_option maxRecDepth 100000
set_option maxHeartbeats 4000000
set_option linter.unusedVariables false
set_option linter.unusedSimpArgs false
namespace Go.Proofs.YtjbbmjjildhfbaaGreatDoor
end Go.Proofs.YtjbbmjjildhfbaaGreatDoor
namespace Go.Proofs
open Go.Shelf
def Tryz.lays169_ren:Go.Shelf.Ren:=⟨fun | 169=>142|n=>n,fun | 70=>203 | 9=>9 | 0=>0 | 72=>206 | 37=>204 | 127=>230 | 3=>3 | 5=>5|n=>n,fun|n=>n⟩
theorem Tryz.lays169:Go.Proofs.Lays.n169 Tryz.prog Tryz.lays169_ren:={
 mixed:=by kernel_rfl
 f169:=Tryz.func142.trans (congrArg some (by kernel_rfl))
 t0:=Tryz.underlying0
 a0:=Tryz.isAgg0
 z0:=Tryz.sizeOf0
 v0:=Tryz.zeroValue0
 t3:=Tryz.underlying3
 a3:=Tryz.isAgg3
 z3:=Tryz.sizeOf3
 v3:=Tryz.zeroValue3
 t9:=Tryz.underlying9
 a9:=Tryz.isAgg9
 z9:=Tryz.sizeOf9
 v9:=Tryz.zeroValue9
 t37:=Tryz.underlying204
 a37:=Tryz.isAgg204
 z37:=Tryz.sizeOf204
 v37:=Tryz.zeroValue204
 t70:=Tryz.underlying203
 a70:=Tryz.isAgg203
 z70:=Tryz.sizeOf203
 v70:=Tryz.zeroValue203
 t72:=Tryz.underlying206
 a72:=Tryz.isAgg206
 z72:=Tryz.sizeOf206
 v72:=Tryz.zeroValue206
 t127:=Tryz.underlying230
 a127:=Tryz.isAgg230
 z127:=Tryz.sizeOf230
 v127:=Tryz.zeroValue230 }
theorem Tryz.Builder_Extra_169:Builder.Extra Tryz.prog Tryz.lays169_ren:={
 sizeBuilder:=by kernel_rfl
 liesBuilder:=by kernel_rfl
 t5:=Tryz.underlying5
 a5:=Tryz.isAgg5
 z5:=Tryz.sizeOf5
 v5:=Tryz.zeroValue5
 infoByte:=by kernel_rfl
 cellsByte:=by kernel_rfl
 sizeByte:=by kernel_rfl
 neB5:=by decide }
open Go.RowKit in
theorem Tryz.Builder_String_any (B b:Nat) (l:List UInt8) (w:World) (h:Lib.IsBuilder 206 5 B b (Lib.byteCells l) w) (hBw:B≤w.heap.size) :
  Calls Tryz.prog 142 #[.pointer (some ⟨b,0,none⟩)] w fun e w'=>e = .returned (.string ⟨l.toArray⟩)∧Below B w w':=Any.Builder_String_any Tryz.lays169 Tryz.Builder_Extra_169 B b l w h hBw
def Tryz.laysM246_ren:Go.Shelf.Ren:=⟨fun | 246=>182 | 283=>183 | 284=>184 | 285=>185 | 286=>186 | 129=>188 | 317=>187 | 318=>189 | 319=>190 | 320=>191 | 337=>192 | 338=>193|n=>n,fun | 2=>2 | 3=>3 | 9=>9 | 4=>4 | 171=>241 | 0=>0 | 53=>175 | 37=>204 | 5=>5 | 173=>244 | 212=>247 | 51=>172 | 20=>20 | 213=>248 | 46=>143 | 232=>252 | 233=>253|n=>n,fun | 17=>2 | 18=>3 | 19=>4|n=>n⟩
def Tryz.laysM243_ren:Go.Shelf.Ren:=⟨fun | 243=>181 | 246=>182 | 283=>183 | 284=>184 | 285=>185 | 286=>186 | 129=>188 | 317=>187 | 318=>189 | 319=>190 | 320=>191 | 337=>192 | 338=>193|n=>n,fun | 3=>3 | 9=>9 | 2=>2 | 4=>4 | 171=>241 | 0=>0 | 53=>175 | 37=>204 | 5=>5 | 173=>244 | 212=>247 | 51=>172 | 20=>20 | 213=>248 | 46=>143 | 232=>252 | 233=>253|n=>n,fun | 17=>2 | 18=>3 | 19=>4|n=>n⟩
def Tryz.laysM171_ren:Go.Shelf.Ren:=⟨fun | 171=>167 | 243=>181 | 246=>182 | 283=>183 | 284=>184 | 285=>185 | 286=>186 | 129=>188 | 317=>187 | 318=>189 | 319=>190 | 320=>191 | 337=>192 | 338=>193|n=>n,fun | 3=>3 | 9=>9 | 2=>2 | 4=>4 | 171=>241 | 0=>0 | 53=>175 | 37=>204 | 5=>5 | 173=>244 | 212=>247 | 51=>172 | 20=>20 | 213=>248 | 46=>143 | 232=>252 | 233=>253|n=>n,fun | 17=>2 | 18=>3 | 19=>4|n=>n⟩
theorem Tryz.laysM171:Go.Proofs.LaysM.n171 Tryz.prog Tryz.laysM171_ren:={
 mixed:=by kernel_rfl
 f129:=Tryz.func188.trans (congrArg some (by kernel_rfl))
 f171:=Tryz.func167.trans (congrArg some (by kernel_rfl))
 f243:=Tryz.func181.trans (congrArg some (by kernel_rfl))
 f246:=Tryz.func182.trans (congrArg some (by kernel_rfl))
 f283:=Tryz.func183.trans (congrArg some (by kernel_rfl))
 f284:=Tryz.func184.trans (congrArg some (by kernel_rfl))
 f285:=Tryz.func185.trans (congrArg some (by kernel_rfl))
 f286:=Tryz.func186.trans (congrArg some (by kernel_rfl))
 f317:=Tryz.func187.trans (congrArg some (by kernel_rfl))
 f318:=Tryz.func189.trans (congrArg some (by kernel_rfl))
 f319:=Tryz.func190.trans (congrArg some (by kernel_rfl))
 f320:=Tryz.func191.trans (congrArg some (by kernel_rfl))
 f337:=Tryz.func192.trans (congrArg some (by kernel_rfl))
 f338:=Tryz.func193.trans (congrArg some (by kernel_rfl))
 t0:=Tryz.underlying0
 a0:=Tryz.isAgg0
 z0:=Tryz.sizeOf0
 v0:=Tryz.zeroValue0
 t2:=Tryz.underlying2
 a2:=Tryz.isAgg2
 z2:=Tryz.sizeOf2
 v2:=Tryz.zeroValue2
 t3:=Tryz.underlying3
 a3:=Tryz.isAgg3
 z3:=Tryz.sizeOf3
 v3:=Tryz.zeroValue3
 t4:=Tryz.underlying4
 a4:=Tryz.isAgg4
 z4:=Tryz.sizeOf4
 v4:=Tryz.zeroValue4
 t5:=Tryz.underlying5
 a5:=Tryz.isAgg5
 z5:=Tryz.sizeOf5
 v5:=Tryz.zeroValue5
 t9:=Tryz.underlying9
 a9:=Tryz.isAgg9
 z9:=Tryz.sizeOf9
 v9:=Tryz.zeroValue9
 t20:=Tryz.underlying20
 a20:=Tryz.isAgg20
 z20:=Tryz.sizeOf20
 v20:=Tryz.zeroValue20
 t37:=Tryz.underlying204
 a37:=Tryz.isAgg204
 z37:=Tryz.sizeOf204
 v37:=Tryz.zeroValue204
 t46:=Tryz.underlying143
 a46:=Tryz.isAgg143
 z46:=Tryz.sizeOf143
 v46:=Tryz.zeroValue143
 t51:=Tryz.underlying172
 a51:=Tryz.isAgg172
 z51:=Tryz.sizeOf172
 v51:=Tryz.zeroValue172
 t53:=Tryz.underlying175
 a53:=Tryz.isAgg175
 z53:=Tryz.sizeOf175
 v53:=Tryz.zeroValue175
 t171:=Tryz.underlying241
 a171:=Tryz.isAgg241
 z171:=Tryz.sizeOf241
 v171:=Tryz.zeroValue241
 t173:=Tryz.underlying244
 a173:=Tryz.isAgg244
 z173:=Tryz.sizeOf244
 v173:=Tryz.zeroValue244
 t212:=Tryz.underlying247
 a212:=Tryz.isAgg247
 z212:=Tryz.sizeOf247
 v212:=Tryz.zeroValue247
 t213:=Tryz.underlying248
 a213:=Tryz.isAgg248
 z213:=Tryz.sizeOf248
 t232:=Tryz.underlying252
 a232:=Tryz.isAgg252
 z232:=Tryz.sizeOf252
 v232:=Tryz.zeroValue252
 t233:=Tryz.underlying253
 a233:=Tryz.isAgg253
 z233:=Tryz.sizeOf253
 v233:=Tryz.zeroValue253
 g17:=by kernel_rfl
 g18:=by kernel_rfl
 g19:=by kernel_rfl
 i0:=by kernel_rfl
 i2:=by kernel_rfl
 i3:=by kernel_rfl
 i4:=by kernel_rfl
 i5:=by kernel_rfl
 i9:=by kernel_rfl
 i20:=by kernel_rfl
 i37:=by kernel_rfl
 i46:=by kernel_rfl
 i51:=by kernel_rfl
 i53:=by kernel_rfl
 i171:=by kernel_rfl
 i173:=by kernel_rfl
 i212:=by kernel_rfl
 i232:=by kernel_rfl
 i233:=by kernel_rfl
 m17:=by kernel_rfl
 m18:=by kernel_rfl
 m19:=by kernel_rfl }
open Go.RowKit Go.Sort Go.Lib in
theorem Tryz.strconv_Itoa (n:Int) (h0:-9223372036854775808≤n) (h1:n≤9223372036854775807) (w:World) (htab:Lib.TabIs Tryz.prog w "internal/strconv.uint64pow10" .u64 Lib.pow10Tab) :
  Calls Tryz.prog 167 #[.int .i64 n] w fun e w'=>e = .returned (.string ⟨(Lib.itoa n).toArray⟩)∧∃ k os,w'=grow (w.drewN k) os:=Any.strconv_Itoa Tryz.laysM171 n h0 h1 w htab
def Tryz.lays212_ren:Go.Shelf.Ren:=⟨fun | 212=>76 | 263=>99 | 264=>100|n=>n,fun | 46=>143 | 51=>172 | 146=>173 | 53=>175 | 148=>176|n=>n,fun|n=>n⟩
theorem Tryz.lays212:Go.Proofs.Lays.n212 Tryz.prog Tryz.lays212_ren:={
 mixed:=by kernel_rfl
 f212:=Tryz.func76.trans (congrArg some (by kernel_rfl))
 f263:=Tryz.func99.trans (congrArg some (by kernel_rfl))
 f264:=Tryz.func100.trans (congrArg some (by kernel_rfl))
 t46:=Tryz.underlying143
 a46:=Tryz.isAgg143
 z46:=Tryz.sizeOf143
 v46:=Tryz.zeroValue143
 t51:=Tryz.underlying172
 a51:=Tryz.isAgg172
 z51:=Tryz.sizeOf172
 v51:=Tryz.zeroValue172
 t53:=Tryz.underlying175
 a53:=Tryz.isAgg175
 z53:=Tryz.sizeOf175
 v53:=Tryz.zeroValue175
 t146:=Tryz.underlying173
 a146:=Tryz.isAgg173
 z146:=Tryz.sizeOf173
 v146:=Tryz.zeroValue173
 t148:=Tryz.underlying176
 a148:=Tryz.isAgg176
 z148:=Tryz.sizeOf176
 v148:=Tryz.zeroValue176 }
open Go.RowKit Go.Lib in
theorem Tryz.bits_Mul (x y:Nat) (hx:x<18446744073709551616) (hy:y<18446744073709551616) (w:World) :
  Calls Tryz.prog 76 #[.int .u64 x,.int .u64 y] w fun e w'=>e = .returned (.tuple #[.int .u64 ((x*y / 18446744073709551616:Nat):Int),.int .u64 ((x*y % 18446744073709551616:Nat):Int)])∧w'=w:=Any.bits_Mul Tryz.lays212 x y hx hy w
end Go.Proofs
namespace Go.Proofs.YtjbbmjjildhfbaaGreatDoor
section
open Go Go.RowKit Go.Shelf
section
variable {P:Program} {r:Option Nat} {n:Nat} {df:Nat} {N:Nat} {σ:aa1} {f:Frm} {L:List Oper} {T:TypeId→Option TI}
theorem OtE.copy0 (hT:∀ t i,T t=some i→tiOf P t=some i) {o:Oper} {p x:Operand} {t t2 e:TypeId} {i j:TI} {ag:Bool} {by_ b off dc jj:Nat} {tb:TypeId} {cs:List D} {ys:List (List D)} {K:Frm→aa1→Prop}
  (ho:o.op = .call { callee:=.builtin .copy,args:=#[p,x],argTypes:=#[t,t2] }) (hp:evF f p = .v (.slice (some ⟨b,off,none⟩) 0 dc)) (ht:T t=some i) (hs:i.sl=some (e,ag,1,by_)) (hj:T e=some j) (hjs:j.size=1)
  (hb:σ[jj]?=some (b,.cells tb cs)) (hfit:off≤cs.length) (hx:evF f x = .sl 1 ys) (hy:ys≠[]) (kk:W (putK N o.dst (.v (.int .i64 0)) f (fun f'=>K f' σ))):OtE P r n df L N o f σ K:=by
 refine ⟨fun rest Q a hsp hw hk=>?_⟩
 refine ag9 hw (by rw [ho];rfl) fun w X fr hst=>?_
 have hpv:=hsp.le p _ _ _ (hst.fr.eval p)
 rw [hp] at hpv
 have hpv:=hpv.val rfl
 have hxv:=hsp.le x _ _ _ (hst.fr.eval x)
 rw [hx] at hxv
 obtain ⟨hu,hsz,_⟩:=ai0 (hT t i ht) hs
 have hsz1:(P.info? e).map (·.size)=some 1:=by
  obtain ⟨inf,u,q1,_,_,q4,_⟩:=ar1 (hT e j hj)
  rw [q1];simp [← q4,hjs]
 obtain ⟨_,ob,hob,vs,rfl,hvs⟩:=hst.st.at_ b _ (List.mem_of_getElem? hb)
 obtain ⟨a0,c,news,hxe,hrd,hnl,hcl⟩:=aW7 hxv (by omega)
 obtain ⟨ad,rfl,hcell⟩:=hcl hy
 have hrun:=run_copy_row (P:=P) w t t2 o.type e b off 0 dc ad ys.length c vs.toArray tb [] hu hsz1 hob (by simp) (fun j v h=>by simp at h) (by simp [hvs.len];omega) (fun v h=>by cases h)
 have ee:(execOp fr.eval o).run P w = .ok (.value (goInt 0)) w:=by
  simp only [execOp,ho,resolve,invoke,builtin,Sem.run_bind,Sem.run_pure,Result.andThen,List.map_toArray,List.map_cons,List.map_nil,hpv,hxe,hrun]
  rw [show (vs.toArray.toList.take off ++ ([]:List Value) ++ vs.toArray.toList.drop (off+([]:List Value).length)).toArray=vs.toArray by simp]
  rw [setRow_self w b _ tb _ hob]
  rfl
 rw [ee]
 obtain ⟨f',hs',h4⟩:=ae0 kk.h hsp
 exact ⟨.v (.int .i64 0),σ,Mv.refl _ _,hst.put (.v _) o.dst,hk _ _ _ h4 hs'⟩
end
theorem RowIs.made (e:TypeId) (d:D) (m b:Nat) (hm:m≤maxLen):RowIs e 1 (List.replicate m [d]) (.slice (some ⟨b,0,none⟩) m m) [(b,.cells e (List.replicate m d))]:=
 ⟨fun y hy=>by rw [(List.mem_replicate.1 hy).2];rfl,.inr ⟨b,m,[],by simp,by simp,by simp,hm,by simp,fun d hd=>by cases hd⟩⟩
theorem map_rep {α β:Type} (g:α→β) (n:Nat) (a:α):(List.replicate n a).map g=List.replicate n (g a):=List.map_replicate
theorem bits_mul (x y:Nat) (hx:x<18446744073709551616) (hy:y<18446744073709551616):APure Tryz.prog 76 [.v (.int .u64 x),.v (.int .u64 y)] (.tup [.v (.int .u64 ((x*y / 18446744073709551616:Nat):Int)),.v (.int .u64 ((x*y % 18446744073709551616:Nat):Int))]):=by
 refine ⟨enters_of Tryz.func76 (by kernel_rfl) rfl,fun w O vs hv _=>?_⟩
 obtain ⟨v0,h0,r0⟩:=hv.get (j:=0) rfl
 obtain ⟨v1,h1,r1⟩:=hv.get (j:=1) rfl
 have hl:=hv.len
 have e0:=r0.val rfl
 have e1:=r1.val rfl
 subst e0 e1
 obtain rfl:vs=[.int .u64 x,.int .u64 y]:=by
  match vs,hl,h0,h1 with
  | [a,b],_,h0,h1=>simp at h0 h1;rw [h0,h1]
 refine (Tryz.bits_Mul x y hx hy w).mono ?_
 rintro e w' ⟨rfl,rfl⟩
 exact ⟨_,rfl,.tup _ [_,_] rfl (fun j d u hd hu=>by
  match j,hd,hu with
  | 0,hd,hu=>simp at hd hu;subst hd hu;exact .v _
  | 1,hd,hu=>simp at hd hu;subst hd hu;exact .v _
  | j+2,hd,hu=>simp at hd),Ex.refl _⟩
theorem spl_rep (j m k:Nat):spl (List.replicate j (bD true) ++ List.replicate (m+k) (bD false)) j (List.replicate m (bD true))=List.replicate (j+m) (bD true) ++ List.replicate k (bD false):=by
 unfold spl
 rw [List.take_left' (by simp),List.drop_append,List.drop_of_length_le (by simp),List.length_replicate,List.length_replicate,List.nil_append,List.drop_replicate,show m+k - (j+m - j)=k by omega,List.replicate_append_replicate]
theorem sk82 {A B:Prop} (k:B) (h:Hd7 B→A:=by intro hk7q;(first|refine sb0 ?_|refine sb1 ?_|((with_reducible refine' Cp.by ?hc ?_);(case hc=>exact bits_mul 1 n (by decide) (by omega)))|((with_reducible refine' CE.pure ?hc ?_);(case hc=>exact bits_mul 1 n (by decide) (by omega))));exact hk7q.run):A:=h ⟨k⟩
theorem sl_repeat (n:Nat) (hn:n≤1000):ACall Tryz.prog 54 [.sl 1 [[bD true]],iD n] [] (fun d s=>∃ v,d = .v v∧RB (List.replicate n true) v s):=by
 have e1:1*n / 18446744073709551616=0:=by omega
 have e2:1*n % 18446744073709551616=n:=by omega
 refine aa3 mixed aa0 Tryz.func54 (by kernel_rfl) rfl Tryz.ntmps54 rfl ?_;intro BB
 repeat' (first|refine sk82 ?_|(intro b;conv=>whnf)|((with_reducible refine' Ot.yd ?hyd ?_);(case hyd=>first|exact yd_conv rfl rfl Tryz.underlying3 Tryz.underlying143 (by first|rfl|(rw [IntKind.wrap_u64];omega))|exact yd_conv rfl rfl Tryz.underlying143 Tryz.underlying3 (by rw [IntKind.wrap_i64];omega))))
 rw [e2]
 refine Mk.go n rfl rfl rfl rfl rfl rfl (by omega) (by omega) (fun b=>?_)
 repeat' (first|refine sk82 ?_|(intro b;conv=>whnf))
 have hms:((((n:Nat):Int).toNat):Nat)=n:=rfl
 rcases Nat.eq_zero_or_pos n with rfl|hn0
 ·refine OtE.copy0 aa0 (jj:=0) (off:=0) rfl rfl rfl rfl rfl rfl rfl (Nat.zero_le _) rfl (by simp) ?_
  repeat' (first|refine sk82 ?_|(intro b;conv=>whnf))
  refine aa6 mixed aa0 (γ:=Unit) (fun _=>[(8,iD 0)]) (fun _=>[(b,.cells 4 (List.replicate 0 (bD false)))]) (fun _=>True) (fun _=>0) () (aa2 cl2) cl3 trivial ?_
  rintro - -
  repeat' (first|refine sk82 ?_|(intro b;conv=>whnf))
  exact Rt.same ⟨_,rfl,RowIs.made _ _ 0 b (by unfold maxLen;omega)⟩
 ·have e3:spl (List.replicate n (bD false)) 0 [bD true]=List.replicate 1 (bD true) ++ List.replicate (n - 1) (bD false):=by
   have:=spl_rep 0 1 (n - 1)
   rw [show 1+(n - 1)=n by omega] at this
   simpa using this
  have e4:Nat.min ([[bD true]]:List (List D)).length n=1:=by show min 1 n=1;omega
  refine OtE.copy aa0 (jj:=0) (off:=0) (new:=[bD true]) (cs:=List.replicate n (bD false)) rfl rfl rfl rfl rfl rfl rfl (by simp;omega) rfl (by simp) (.inl ⟨[[bD true]],rfl,by rw [e4];rfl,by rw [e4];rfl⟩) ?_
  repeat' (first|refine sk82 ?_|(intro b;conv=>whnf))
  refine aa6 mixed aa0 (γ:=Nat) (fun j=>[(8,iD j)]) (fun j=>[(b,.cells 4 (List.replicate j (bD true) ++ List.replicate (n - j) (bD false)))]) (fun j=>1≤j∧j≤n) (fun j=>n - j) 1 (aa2 cl2) (by rw [← e3];exact (List.Sublist.refl _)) ⟨by omega,by omega⟩ ?_
  rintro j ⟨hj1,hj2⟩
  by_cases hjn:j<n
  ·obtain ⟨m,hm,hm1,hm2,hm3⟩:∃ m,Nat.min (j - 0) (n - j)=m∧m≤j∧m≤n - j∧1≤m:=⟨_,rfl,by show min _ _≤_;omega,by show min _ _≤_;omega,by show 1≤min _ _;omega⟩
   have e5:spl (List.replicate j (bD true) ++ List.replicate (n - j) (bD false)) (0+j*1) (List.replicate m (bD true))=List.replicate (j+m) (bD true) ++ List.replicate (n - (j+m)) (bD false):=by
    have:=spl_rep j m (n - (j+m))
    rw [show m+(n - (j+m))=n - j by omega] at this
    simpa using this
   repeat' (first|refine sk82 ?_|(intro b;conv=>whnf)|((with_reducible refine' Ot.yd ?hyd ?_);(case hyd=>first|exact aE5 aa0 rfl rfl rfl rfl (.inr ⟨_,_,rfl,rfl⟩) (.inl ⟨rfl,rfl⟩) (by omega) (by omega) (by omega)|exact aE5 aa0 rfl rfl rfl rfl (.inl ⟨rfl,rfl⟩) (.inr ⟨_,_,rfl,rfl⟩) (by omega) (by omega) (by omega))))
   refine OtE.copy aa0 (jj:=0) (off:=0+j*1) (new:=List.replicate m (bD true)) (cs:=List.replicate j (bD true) ++ List.replicate (n - j) (bD false)) rfl rfl rfl rfl rfl rfl rfl (by simp;omega) (by simp [oneD,Value.oneCell',bD]) (by simp;omega) (.inr ⟨0+0*1,j - 0,n - 0,rfl,by show _=List.take (Nat.min (j - 0) (n - j)) _;rw [hm,Nat.zero_mul,Nat.add_zero,List.drop_zero,List.take_append_of_le_length (by simp;omega),List.take_replicate,Nat.min_eq_left hm1],by show _=Nat.min (j - 0) (n - j);rw [hm,List.length_replicate]⟩) ?_
   repeat' (first|refine sk82 ?_|(intro b;conv=>whnf))
   rw [List.length_replicate]
   exact ⟨j+m,(aa2 cl7),by rw [← e5];exact (List.Sublist.refl _),⟨by omega,by omega⟩,by omega⟩
  ·obtain rfl:j=n:=by omega
   repeat' (first|refine sk82 ?_|(intro b;conv=>whnf))
   rw [Nat.sub_self,List.replicate_zero,List.append_nil]
   refine Rt.same ⟨_,rfl,?_⟩
   show RowIs _ _ (List.map _ (List.replicate j true)) _ _
   rw [map_rep]
   exact RowIs.made _ _ j b (by unfold maxLen;omega)
theorem r31_full (w:Wd) (hw:Ws w):ACall Tryz.prog 29 [slW w] [] (fun d σ=>∃ v,d = .v v∧RS (ag8 w) v σ):=by
 have hsl:=hw.nk
 have hfl:(ag8 w).length=w.length:=by simp [ag8]
 refine aa3 mixed aa0 Tryz.func29 (by kernel_rfl) rfl Tryz.ntmps29 rfl ?_;intro BB
 repeat' (first|refine sk82 ?_|(intro b;conv=>whnf))
 refine aa6 mixed aa0 (γ:=Nat × Value × aa1) (fun g=>[(3,.v g.2.1),(4,iD g.1)]) (fun g=>g.2.2) (fun g=>g.1≤w.length∧RS ((ag8 w).take g.1) g.2.1 g.2.2) (fun g=>w.length - g.1) (0,.slice none 0 0,[]) (aa2 cl2) cl3 ⟨Nat.zero_le _,RowsOf.nil _ _⟩ ?_
 rintro ⟨j,v,τ⟩ ⟨hj,hR⟩
 simp only at hj hR ⊢
 by_cases hjl:j<w.length
 ·obtain ⟨l,hl⟩:∃ l,w[j]?=some l:=⟨_,List.getElem?_eq_getElem hjl⟩
  have hl':w[((j:Nat):Int).toNat]?=some l:=hl
  have hll:=hw.nr l (List.mem_of_getElem? hl)
  obtain ⟨vs,s0,ts,h1,h2,h3⟩:=hR.ex
  have hlen:=h2.len.1
  rw [List.length_take,hfl,Nat.min_eq_left hj] at hlen
  have hfj:(ag8 w)[j]?=some (List.replicate l.length true):=by unfold ag8;rw [List.getElem?_map,hl];rfl
  repeat' (first|refine sk82 ?_|(intro b;conv=>whnf))
  refine Mk.go l.length rfl rfl rfl rfl rfl (by simp) (by omega) (by omega) (fun b=>?_)
  repeat' (first|refine sk82 ?_|(intro b;conv=>whnf))
  refine aa6 mixed aa0 (γ:=Nat × List D) (fun g=>[(6,iD g.1)]) (fun g=>(b,.cells 4 g.2) :: τ) (fun g=>g.1≤l.length∧RB (part false (List.replicate l.length true) g.1) (.slice (some ⟨b,0,none⟩) l.length l.length) [(b,.cells 4 g.2)]) (fun g=>l.length - g.1) (0,List.replicate l.length (bD false)) (aa2 cl2) cl3 ⟨Nat.zero_le _,by rw [aO8];show RowIs _ _ (List.map _ (List.replicate (List.replicate l.length true).length false)) _ _;rw [map_rep,List.length_replicate];exact RowIs.made _ _ _ _ (by unfold maxLen;omega)⟩ ?_
  rintro ⟨i,cs⟩ ⟨hi,hr⟩
  simp only at hi hr ⊢
  have hrl:(List.replicate l.length true).length=l.length:=List.length_replicate
  by_cases hil:i<l.length
  ·obtain ⟨b1,cap1,cs1,e2,e3,hc1,hset⟩:=aX2 (g:=bD) hr (aZ4 false (List.replicate l.length true) (by rw [hrl];exact hil))
   rw [aZ3 _ _ (by rw [hrl];exact hi),hrl] at e2
   cases e2
   cases e3
   have hcl:=(List.getElem?_eq_some_iff.1 hc1).1
   have ho:0+((i:Nat):Int).toNat*1=i:=by simp
   repeat' (first|refine sk82 ?_|(intro b;conv=>whnf))
   refine Sv.cellm (cs:=cs) (cs':=cs.set i (bD true)) (τ:=τ) (List.Perm.refl _) (by rw [ho];exact hcl) rfl (by rw [ho]) ?_
   repeat' (first|refine sk82 ?_|(intro b;conv=>whnf))
   exact ⟨(i+1,cs.set i (bD true)),(aa2 cl2),cl3,⟨by simp only;omega,by simp only;rw [← aZ2 false (List.replicate l.length true) (x:=true) (by simp [hil])];exact hset true⟩,by simp only;omega⟩
  ·obtain rfl:i=l.length:=by omega
   have hpa:=aZ5 false (List.replicate l.length true)
   rw [hrl] at hpa
   rw [hpa] at hr
   repeat' (first|refine sk82 ?_|(intro b;conv=>whnf))
   refine Ap.go rfl rfl rfl rfl h1 (show ((b,Blk.cells 4 cs) :: τ).Perm (s0 ++ (ts.flatten ++ [(b,.cells 4 cs)])) from (List.Perm.cons _ h3).trans (by rw [← List.append_assoc];exact (List.perm_append_singleton _ _).symm)) rfl (zs:=vs.map (fun u=>[D.v u]) ++ [[D.v (.slice (some ⟨b,0,none⟩) l.length l.length)]]) rfl (by simp [hlen];omega) (by simp [hlen];omega) (fun s2=>s2 ++ (ts.flatten ++ [(b,.cells 4 cs)])) (fun s2=>List.Perm.refl _) (fun a2 c2 s2 hr2=>?_)
   repeat' (first|refine sk82 ?_|(intro b;conv=>whnf))
   exact ⟨(j+1,_,s2 ++ (ts.flatten ++ [(b,.cells 4 cs)])),(aa2 cl2),cl3,⟨by simp only;omega,by simp only;rw [ah6 hfj];exact RowsOf.push h2 hr2 hr (List.Perm.refl _)⟩,by simp only;omega⟩
 ·obtain rfl:j=w.length:=by omega
  rw [List.take_of_length_le (by omega)] at hR
  repeat' (first|refine sk82 ?_|(intro b;conv=>whnf))
  exact Rt.same ⟨_,rfl,hR⟩
theorem aG7 (w:Wd):(ag8 w).map List.length=w.map List.length:=by unfold ag8;rw [List.map_map];congr 1;funext l;simp
theorem cl_full (w:Wd) (hw:Ws w):ACall Tryz.prog 28 [slW w] [] (fun d σ=>∃ v,d = .v v∧RS (ag8 w) v σ):=by
 have hsl:=hw.nk
 have hfl:(ag8 w).length=w.length:=by simp [ag8]
 refine aa3 mixed aa0 Tryz.func28 (by kernel_rfl) rfl Tryz.ntmps28 rfl ?_;intro BB
 repeat' (first|refine sk2 ?_|(intro b;conv=>whnf))
 refine Mk.go w.length rfl rfl rfl rfl rfl (by simp) (by omega) (by omega) (fun b=>?_)
 repeat' (first|refine sk2 ?_|(intro b;conv=>whnf))
 refine aa6 mixed aa0 (γ:=Nat × aa1) (fun g=>[(11,iD g.1)]) (fun g=>g.2) (fun g=>g.1≤w.length∧RS (part [] (ag8 w) g.1) (.slice (some ⟨b,0,none⟩) w.length w.length) g.2) (fun g=>w.length - g.1) (0,[(b,.cells 62 (List.replicate w.length (.v (.slice none 0 0))))]) (aa2 cl2) cl3 ⟨Nat.zero_le _,by rw [aO8,hfl];exact RowsOf.made (R:=RB) (x0:=[]) (RowIs.nil _ _) w.length b (by unfold maxLen;omega)⟩ ?_
 rintro ⟨j,τ⟩ ⟨hj,hR⟩
 simp only at hj hR ⊢
 by_cases hjl:j<w.length
 ·obtain ⟨l,hl⟩:∃ l,w[j]?=some l:=⟨_,List.getElem?_eq_getElem hjl⟩
  have hl':w[((j:Nat):Int).toNat]?=some l:=hl
  have hll:=hw.nr l (List.mem_of_getElem? hl)
  have hfj:(ag8 w)[j]?=some (List.replicate l.length true):=by unfold ag8;rw [List.getElem?_map,hl];rfl
  obtain ⟨b',cap,cs,u,t,ρ,e1,h2,h3,h4,h5⟩:=hR.at (aZ4 [] (ag8 w) (by omega))
  rw [aZ3 _ _ (by omega),hfl] at e1
  cases e1
  repeat' (first|refine sk2 ?_|(intro b;conv=>whnf))
  refine CE.own (sl_repeat (l.map fun r=>[slI r]).length (by rw [List.length_map];omega)) (List.Perm.refl ([] ++ τ)) (fun s'=>s' ++ τ) (fun s'=>List.Perm.refl _) ?_
  rintro _ s' ⟨v',rfl,hr'⟩
  rw [List.length_map] at hr'
  obtain ⟨a1,c1,rfl⟩:=hr'.slice
  have hcl:=(List.getElem?_eq_some_iff.1 h3).1
  have ho:0+((j:Nat):Int).toNat*1=j:=by simp
  repeat' (first|refine sk2 ?_|(intro b;conv=>whnf))
  refine Sv.cellm (cs:=cs) (cs':=cs.set j (.v (.slice a1 ((List.replicate l.length true).map fun b=>[bD b]).length c1))) (τ:=s' ++ (t ++ ρ)) ((List.Perm.append_left s' h2).trans List.perm_middle) (by rw [ho];exact hcl) rfl (by rw [ho]) ?_
  repeat' (first|refine sk2 ?_|(intro b;conv=>whnf))
  exact ⟨(j+1,(b,.cells 62 (cs.set j (.v (.slice a1 ((List.replicate l.length true).map fun b=>[bD b]).length c1)))) :: (s' ++ ρ)),(aa2 cl2),(List.Sublist.refl s').append (List.sublist_append_right _ _) |>.cons_cons _,⟨by simp only;omega,by simp only;rw [← aZ2 [] (ag8 w) hfj];exact h5 _ _ _ _ hr' (List.Perm.refl _)⟩,by simp only;omega⟩
 ·obtain rfl:j=w.length:=by omega
  rw [← hfl,aZ5] at hR
  repeat' (first|refine sk2 ?_|(intro b;conv=>whnf))
  rw [hfl] at hR
  exact Rt.same ⟨_,rfl,hR⟩
theorem aH2 (w:Wd) (hw:Ws w):APure Tryz.prog 28 [slW w] (slS2 (ag8 w)):=APure.of_call ((cl_full w hw).vs2 fun d σ ⟨v,e,h⟩=>by subst e;exact ⟨_,[],Vs.frz frz_s h (by simp),rfl⟩)
theorem as6 (w:Wd) (hw:Ws w):APure Tryz.prog 29 [slW w] (slS2 (ag8 w)):=APure.of_call ((r31_full w hw).vs2 fun d σ ⟨v,e,h⟩=>by subst e;exact ⟨_,[],Vs.frz frz_s h (by simp),rfl⟩)
theorem set_lens {α:Type} {s:List (List α)} {k i:Nat} {l:List α} {b:α} (hl:s[k]?=some l):(s.set k (l.set i b)).map List.length=s.map List.length:=by
 rw [List.map_set,List.length_set]
 apply List.ext_getElem?
 intro j
 rw [List.getElem?_set]
 split
 ·rename_i e;subst e
  have hk:=(List.getElem?_eq_some_iff.1 hl).1
  rw [if_pos (by simpa using hk),List.getElem?_map,hl];rfl
 ·rfl
theorem r31_some (w:Wd) (hw:Ws w) (p:List Int) (hp:I64s p):ACall Tryz.prog 25 [slW w,slI p] [] (fun d σ=>∃ v s,d = .v v∧RS s v σ∧s.map List.length=w.map List.length):=by
 have hsl:=hw.nk
 have hfl:(ag8 w).length=w.length:=by simp [ag8]
 have HA:=True.intro
 refine aa3 mixed aa0 Tryz.func25 (by kernel_rfl) rfl Tryz.ntmps25 rfl ?_;intro BB
 repeat' (first|refine sk4 ?_|(intro b;conv=>whnf))
 refine CE.own (r31_full w hw) (List.Perm.refl []) (fun s'=>s') (fun s'=>by simp) ?_
 rintro _ σ ⟨v,rfl,hR⟩
 obtain ⟨a,c,rfl⟩:=hR.slice
 rw [hfl] at hR ⊢
 repeat' (first|refine sk4 ?_|(intro b;conv=>whnf))
 refine aa6 mixed aa0 (γ:=Nat × Int × Sb × aa1) (fun g=>[(6,iD g.2.1),(7,iD g.1)]) (fun g=>g.2.2.2) (fun g=>g.1≤w.length∧(0≤g.2.1∧g.2.1≤g.1*1000)∧g.2.2.1.map List.length=w.map List.length∧RS g.2.2.1 (.slice a w.length c) g.2.2.2) (fun g=>w.length - g.1) (0,0,ag8 w,σ) (aa2 cl2) (List.Sublist.refl _) ⟨Nat.zero_le _,⟨by simp,by simp⟩,aG7 w,hR⟩ ?_
 rintro ⟨k,at_,s,τ⟩ ⟨hk,⟨hat,hat'⟩,hsw,hR⟩
 simp only at hk hat hat' hsw hR ⊢
 by_cases hkl:k<w.length
 ·obtain ⟨wl,hwl⟩:∃ l,w[k]?=some l:=⟨_,List.getElem?_eq_getElem hkl⟩
  have hll:=hw.nr wl (List.mem_of_getElem? hwl)
  repeat' (first|refine sk4 ?_|(intro b;conv=>whnf))
  refine aa6 mixed aa0 (γ:=Nat × Int × Sb × aa1) (fun g=>[(6,iD g.2.1),(8,iD g.1)]) (fun g=>g.2.2.2) (fun g=>g.1≤wl.length∧(0≤g.2.1∧g.2.1≤k*1000+g.1)∧g.2.2.1.map List.length=w.map List.length∧RS g.2.2.1 (.slice a w.length c) g.2.2.2) (fun g=>wl.length - g.1) (0,at_,s,τ) (aa2 cl2) (List.Sublist.refl _) ⟨Nat.zero_le _,⟨by simp only;omega,by simp only;omega⟩,hsw,hR⟩ ?_
  clear hat hat' hsw hR
  rintro ⟨i,at_,s,τ⟩ ⟨hi,⟨hat,hat'⟩,hsw,hR⟩
  simp only at hi hat hat' hsw hR ⊢
  have hsl2:s.length=w.length:=by have:=congrArg List.length hsw;simpa using this
  obtain ⟨l,hl,hlw⟩:=ai1 hsw.symm hwl
  have HA:=bf4 p hp at_ 4
  by_cases hil:i<wl.length
  ·obtain ⟨b,hb⟩:∃ b,l[i]?=some b:=⟨_,List.getElem?_eq_getElem (by omega)⟩
   obtain ⟨b0,cap0,cs0,b1,cap1,cs1,ρ,e1,h2,h3,h4,h5⟩:=at1 (g:=bD) hR hl hb
   rw [hsl2] at e1
   cases e1
   have m0:(b0,Blk.cells 62 cs0)∈τ:=h2.mem_iff.2 (by simp)
   repeat' (first|refine sk4 ?_|(intro b;conv=>whnf))
   refine Ld.cellm m0 (by rw [ix1];exact h3) ?_
   repeat' (first|refine sk4 ?_|(intro b;conv=>whnf))
   refine Ld.cellm m0 (by rw [ix1];exact h3) ?_
   repeat' (first|refine sk4 ?_|(intro b;conv=>whnf))
   refine Sv.cellm (tb:=4) (cs:=cs1) (cs':=cs1.set i (bD (!decide (atE p at_ 4=1)))) (τ:=(b0,.cells 62 cs0) :: ρ) (h2.trans (List.Perm.swap _ _ _)) (by rw [ix1];exact (List.getElem?_eq_some_iff.1 h4).1) rfl (by rw [ix1]) ?_
   repeat' (first|refine sk4 ?_|(intro b;conv=>whnf))
   exact ⟨(i+1,at_+1,s.set k (l.set i (!decide (atE p at_ 4=1))),_),(aa2 cl2),(List.Sublist.refl _),⟨by simp only;omega,⟨by simp only;omega,by simp only;omega⟩,by simp only;rw [set_lens hl];exact hsw,(h5 _).perm (List.Perm.swap _ _ _)⟩,by simp only;omega⟩
  ·obtain ⟨b0,cap0,cs0,a1,c1,e1,m0,h3⟩:=be0 (g:=bD) hR hl
   rw [hsl2] at e1
   cases e1
   obtain rfl:i=wl.length:=by omega
   repeat' (first|refine sk4 ?_|(intro b;conv=>whnf))
   refine Ld.cellm m0 (by rw [ix1];exact h3) ?_
   repeat' (first|refine sk4 ?_|(intro b;conv=>whnf))
   exact ⟨(k+1,at_,s,τ),(aa2 cl2),(List.Sublist.refl _),⟨by simp only;omega,⟨by simp only;omega,by simp only;omega⟩,hsw,hR⟩,by simp only;omega⟩
 ·obtain rfl:k=w.length:=by omega
  repeat' (first|refine sk4 ?_|(intro b;conv=>whnf))
  exact Rt.same ⟨_,_,rfl,hR,hsw⟩
end
section
open Go Go.RowKit Go.Shelf
structure RecOK (x:Sch) (W:Wd) (k:Nat) (kd:Knd) (m:Nat) (r:List Int):Prop where
 len:r.length=m
 sm:∀ v∈r,0≤v∧v<40
 ref:∀ (j:Nat) f v,kd.fields[j]?=some f→f.kind=1→r[j]?=some v→0≤upIx x k j→v<((W.getD (upIx x k j).toNat []).length:Int)
structure KindOK (x:Sch) (W:Wd) (k:Nat) (l:List (List Int)):Prop where
 few:l.length≤5
 recs:∀ kd,x.kinds[k]?=some kd→∀ r∈l,RecOK x W k kd kd.fields.length r
structure MadeW (x:Sch) (W:Wd):Prop where
 len:W.length=x.kinds.length
 ok:∀ (k:Nat) l,W[k]?=some l→KindOK x W k l
theorem getD_set_ne {α:Type} {l:List α} {i j:Nat} (h:i≠j) (a d:α):(l.set i a).getD j d=l.getD j d:=by
 simp [List.getD_eq_getElem?_getD,List.getElem?_set_ne h]
theorem RecOK.set {x:Sch} {W:Wd} {i k:Nat} {kd:Knd} {m:Nat} {r:List Int} (h:RecOK x W i kd m r) (hi:i≤k) (l:List (List Int)):RecOK x (W.set k l) i kd m r:=
 ⟨h.len,h.sm,fun j f v hf hk hv hu=>by
  have hlt:=aL3 x i j hu
  rw [getD_set_ne (by omega)]
  exact h.ref j f v hf hk hv hu⟩
theorem KindOK.set {x:Sch} {W:Wd} {i k:Nat} {l:List (List Int)} (h:KindOK x W i l) (hi:i≤k) (l2:List (List Int)):KindOK x (W.set k l2) i l:=⟨h.few,fun kd hk r hr=>(h.recs kd hk r hr).set hi l2⟩
theorem RecOK.nil (x:Sch) (W:Wd) (k:Nat) (kd:Knd):RecOK x W k kd 0 []:=⟨rfl,by simp,by simp⟩
theorem RecOK.snoc {x:Sch} {W:Wd} {k:Nat} {kd:Knd} {m:Nat} {r:List Int} (h:RecOK x W k kd m r) {v:Int} {f:Fld} (hf:kd.fields[m]?=some f) (hv:0≤v∧v<40) (hr:f.kind=1→0≤upIx x k m→v<((W.getD (upIx x k m).toNat []).length:Int)):RecOK x W k kd (m+1) (r ++ [v]):=by
 refine ⟨by simp [h.len],fun z hz=>?_,fun j g z hg hk hz hu=>?_⟩
 ·rcases List.mem_append.1 hz with hz|hz
  ·exact h.sm z hz
  ·rw [List.mem_singleton] at hz;subst hz;exact hv
 ·by_cases hj:j<r.length
  ·rw [List.getElem?_append_left hj] at hz
   exact h.ref j g z hg hk hz hu
  ·rw [List.getElem?_append_right (by omega)] at hz
   have hj2:j - r.length=0:=by
    have:=(List.getElem?_eq_some_iff.1 hz).1
    simp at this;omega
   rw [hj2] at hz
   simp at hz
   subst hz
   obtain rfl:j=m:=by have:=h.len;omega
   cases hf.symm.trans hg
   exact hr hk hu
theorem rows_hd {α:Type} {R:ORep α} {e e1:TypeId} {t:List (List α)} {v:Value} {σ:aa1} (h:RowsOf e (RowsOf e1 R) t v σ) {j:Nat} {l:List α} (hl:t[j]?=some l) :
  ∃ b0 cap0 cs0 a1 c1,v = .slice (some ⟨b0,0,none⟩) t.length cap0∧(b0,Blk.cells e cs0)∈σ∧cs0[j]?=some (.v (.slice a1 l.length c1)):=by
 obtain ⟨b0,cap0,cs0,u,tt,ρ,h1,h2,h3,h4,h5⟩:=h.at hl
 obtain ⟨a1,c1,rfl⟩:=h4.slice
 exact ⟨b0,cap0,cs0,a1,c1,h1,h2.mem_iff.2 (by simp),h3⟩
theorem sk83 {A B:Prop} (k:B) (h:Hd7 B→A:=by intro hk7q;(first|refine sb0 ?_|refine sb1 ?_|((with_reducible refine' Cp.by ?hc ?_);(case hc=>first|exact HAt|exact bf4 p hp _ _|exact HUj))|((with_reducible refine' CE.pure ?hc ?_);(case hc=>first|exact HAt|exact bf4 p hp _ _|exact HUj)));exact hk7q.run):A:=h ⟨k⟩
theorem r31_made (x:Sch) (hK:x.kinds.length≤1000) (hF:∀ k∈x.kinds,k.fields.length≤1000) (p:List Int) (hp:I64s p):ACall Tryz.prog 24 [schD x,slI p] [] (fun d σ=>∃ v Z,d = .v v∧RW Z v σ∧MadeW x Z):=by
 have HU:=fun i j=>aE9 x i j (by omega) (fun k hk=>by have:=hF k hk;omega)
 refine aa3 mixed aa0 Tryz.func24 (by kernel_rfl) rfl Tryz.ntmps24 rfl ?_;intro BB
 repeat' (first|refine sk83 ?_|(intro b;conv=>whnf))
 refine Mk.go x.kinds.length rfl rfl rfl rfl rfl (by simp) (by omega) (by omega) (fun b=>?_)
 repeat' (first|refine sk83 ?_|(intro b;conv=>whnf))
 refine aa6 mixed aa0 (γ:=Nat × Int × Wd × aa1) (fun g=>[(6,iD g.2.1),(7,iD g.1)]) (fun g=>g.2.2.2) (fun g=>g.1≤x.kinds.length∧(0≤g.2.1∧g.2.1≤g.1*100000)∧g.2.2.1.length=x.kinds.length∧(∀ (i:Nat) l,i<g.1→g.2.2.1[i]?=some l→KindOK x g.2.2.1 i l)∧(∀ (i:Nat),g.1≤i→i<x.kinds.length→g.2.2.1[i]?=some [])∧RW g.2.2.1 (.slice (some ⟨b,0,none⟩) x.kinds.length x.kinds.length) g.2.2.2) (fun g=>x.kinds.length - g.1) (0,0,List.replicate x.kinds.length [],[(b,.cells 75 (List.replicate x.kinds.length (.v (.slice none 0 0))))]) (aa2 cl2) cl3 ⟨Nat.zero_le _,⟨by simp,by simp⟩,by simp,fun i l hi=>by simp at hi,fun i _ hi=>by simp [hi],RowsOf.made (R:=RW1) (x0:=[]) (RowsOf.nil _ _) _ b (by unfold maxLen;omega)⟩ ?_
 rintro ⟨k,at_,Z,τ⟩ ⟨hk,⟨hat,hat'⟩,hWl,hWk,hW0,hR⟩
 simp only at hk hat hat' hWl hWk hW0 hR ⊢
 by_cases hkl:k<x.kinds.length
 ·obtain ⟨kd,hkd⟩:∃ y,x.kinds[k]?=some y:=⟨_,List.getElem?_eq_getElem hkl⟩
  have hkd':x.kinds[((k:Nat):Int).toNat]?=some kd:=hkd
  have hfl:=hF kd (List.mem_of_getElem? hkd)
  have hn:=af2 p at_ 6
  have hn':=hn.2 (by omega)
  obtain ⟨n0,hn0⟩:∃ n:Nat,atE p at_ 6=n:=⟨(atE p at_ 6).toNat,by omega⟩
  repeat' (first|refine sk83 ?_|(intro b;conv=>whnf))
  rw [hn0]
  refine aa6 mixed aa0 (γ:=Nat × Nat) (fun g=>[(8,iD g.2),(9,iD g.1)]) (fun _=>τ) (fun g=>g.1≤kd.fields.length∧g.2≤5∧∀ j:Nat,j<g.1→0<g.2→0≤upIx x k j→(Z.getD (upIx x k j).toNat []).length≠0) (fun g=>kd.fields.length - g.1) (0,n0) (aa2 cl2) (List.Sublist.refl _) ⟨Nat.zero_le _,by omega,fun j hj=>by simp at hj⟩ ?_
  rintro ⟨j,n⟩ ⟨hj,hn5,hup⟩
  simp only at hj hn5 hup ⊢
  by_cases hjl:j<kd.fields.length
  ·have hu1:=aW1 x k j
   have HUj:=HU k j
   have hup':=hup
   generalize hu:upIx x k j=u at *
   by_cases hu0:0≤u
   ·have hu3:u<k:=by have:=aL3 x k j (by omega);omega
    obtain ⟨o,rfl⟩:∃ o:Nat,u=o:=⟨u.toNat,by omega⟩
    obtain ⟨lo,hlo⟩:∃ l,Z[o]?=some l:=⟨_,List.getElem?_eq_getElem (by omega)⟩
    obtain ⟨b0,cap0,cs0,a1,c1,e1,m0,h3⟩:=rows_hd hR hlo
    rw [hWl] at e1
    cases e1
    repeat' (first|refine sk83 ?_|(intro b;conv=>whnf))
    refine Ld.cellm m0 (by rw [ix1];exact h3) ?_
    by_cases hl0:lo.length=0
    ·repeat' (first|refine sk83 ?_|(intro b;conv=>whnf))
     exact ⟨(j+1,0),(aa2 cl7),(List.Sublist.refl _),⟨by simp only;omega,by simp only;omega,fun i hi h0=>by simp at h0⟩,by simp only;omega⟩
    ·repeat' (first|refine sk83 ?_|(intro b;conv=>whnf))
     refine ⟨(j+1,n),(aa2 cl7),(List.Sublist.refl _),⟨by simp only;omega,by simp only;omega,fun i hi h0 hi2=>?_⟩,by simp only;omega⟩
     by_cases e:i=j
     ·subst e
      rw [hu,show ((o:Nat):Int).toNat=o from rfl,aa4 hlo]
      exact hl0
     ·exact hup i (by simp only at hi;omega) h0 hi2
   ·repeat' (first|refine sk83 ?_|(intro b;conv=>whnf))
    refine ⟨(j+1,n),(aa2 cl7),(List.Sublist.refl _),⟨by simp only;omega,by simp only;omega,fun i hi h0 hi2=>?_⟩,by simp only;omega⟩
    by_cases e:i=j
    ·subst e
     rw [hu] at hi2
     exact absurd hi2 hu0
    ·exact hup i (by simp only at hi;omega) h0 hi2
  ·obtain rfl:j=kd.fields.length:=by omega
   have hZk:=hW0 k (Nat.le_refl _) hkl
   repeat' (first|refine sk83 ?_|(intro b;conv=>whnf))
   refine aa6 mixed aa0 (γ:=Nat × Int × List (List Int) × aa1) (fun g=>[(6,iD g.2.1),(11,iD g.1)]) (fun g=>g.2.2.2) (fun g=>g.1≤n∧(0≤g.2.1∧g.2.1≤k*100000+1+g.1*1000)∧g.2.2.1.length=g.1∧(∀ r∈g.2.2.1,RecOK x Z k kd kd.fields.length r)∧RW (Z.set k g.2.2.1) (.slice (some ⟨b,0,none⟩) x.kinds.length x.kinds.length) g.2.2.2) (fun g=>n - g.1) (0,at_+1,[],τ) (aa2 cl7) (List.Sublist.refl _) ⟨Nat.zero_le _,⟨by simp only;omega,by simp only;omega⟩,rfl,by simp,by simp only;rw [aW9 hZk];exact hR⟩ ?_
   rintro ⟨i,at2,l,τ2⟩ ⟨hi,⟨hat2,hat2'⟩,hll,hlr,hR2⟩
   simp only at hi hat2 hat2' hll hlr hR2 ⊢
   by_cases hil:i<n
   ·repeat' (first|refine sk83 ?_|(intro b;conv=>whnf))
    refine aa6 mixed aa0 (γ:=Nat × Int × List Int × Value × aa1) (fun g=>[(6,iD g.2.1),(12,.v g.2.2.2.1),(13,iD g.1)]) (fun g=>g.2.2.2.2 ++ τ2) (fun g=>g.1≤kd.fields.length∧(0≤g.2.1∧g.2.1≤k*100000+1+i*1000+g.1)∧RecOK x Z k kd g.1 g.2.2.1∧RI g.2.2.1 g.2.2.2.1 g.2.2.2.2) (fun g=>kd.fields.length - g.1) (0,at2,[],.slice none 0 0,[]) (aa2 cl7) (List.Sublist.refl _) ⟨Nat.zero_le _,⟨by simp only;omega,by simp only;omega⟩,RecOK.nil _ _ _ _,RowIs.nil _ _⟩ ?_
    rintro ⟨j,at3,r,v,s⟩ ⟨hj3,⟨hat3,hat3'⟩,hrec,hri⟩
    simp only at hj3 hat3 hat3' hrec hri ⊢
    have hrl:=hrec.len
    by_cases hjl:j<kd.fields.length
    ·obtain ⟨f,hf⟩:∃ f,kd.fields[j]?=some f:=⟨_,List.getElem?_eq_getElem hjl⟩
     have hf':kd.fields[((j:Nat):Int).toNat]?=some f:=hf
     have hv:=af2 p at3 40
     have hv':=hv.2 (by omega)
     generalize hve:atE p at3 40=v0 at *
     have HAt:APure Tryz.prog 52 [slI p,iD at3,iD 40] (iD v0):=hve ▸ bf4 p hp at3 40
     by_cases hf1:f.kind=1
     ·have hu1:=aW1 x k j
      have HUj:=HU k j
      have huk:=fun h=>aL3 x k j h
      have hupj:=fun h=>hup j hjl (by omega) h
      have hsn:∀ v:Int,(0≤v∧v<40)→(0≤upIx x k j→v<((Z.getD (upIx x k j).toNat []).length:Int))→RecOK x Z k kd (j+1) (r ++ [v]):=fun v hv h=>hrec.snoc hf hv (fun _=>h)
      generalize hu:upIx x k j=u at *
      obtain ⟨m,hm,hmu⟩:∃ m:Nat,(if u<0 then 0 else u)=m∧(0≤u→u=m):=by
       by_cases h:u<0
       ·exact ⟨0,by rw [if_pos h];rfl,fun h'=>by omega⟩
       ·exact ⟨u.toNat,by rw [if_neg h];omega,fun h'=>by omega⟩
      have hm0:u<0→m=0:=fun h=>by rw [if_pos h] at hm;omega
      have hmk:m≤k:=by
       by_cases h:0≤u
       ·have:=huk h;have:=hmu h;omega
       ·have:=hm0 (by omega);omega
      have hml:m<(Z.set k l).length:=by rw [List.length_set];omega
      obtain ⟨l0,hl0⟩:∃ l',(Z.set k l)[m]?=some l':=⟨_,List.getElem?_eq_getElem hml⟩
      obtain ⟨b0,cap0,cs0,a1,c1,e1,m0,h3⟩:=rows_hd hR2 hl0
      rw [List.length_set,hWl] at e1
      cases e1
      obtain ⟨q,hq,hq1,hq2⟩:∃ q:Int,(if (l0.length:Int)<1 then 1 else (l0.length:Int))=q∧1≤q∧(l0.length≠0→q=l0.length):=by
       by_cases h:(l0.length:Int)<1
       ·exact ⟨1,by rw [if_pos h],by omega,fun h'=>by omega⟩
       ·exact ⟨_,by rw [if_neg h],by omega,fun _=>rfl⟩
      repeat' (first|refine sk83 ?_|(intro b;conv=>whnf))
      rw [hm]
      refine Ld.cellm (List.mem_append_right _ m0) (by rw [ix1];exact h3) ?_
      repeat' (first|refine sk83 ?_|(intro b;conv=>whnf))
      rw [hq]
      obtain ⟨z,hz,hz0,hzq,hz40⟩:∃ z,v0.tmod q=z∧0≤z∧z<q∧z<40:=by
       have e:=Int.tmod_eq_emod_of_nonneg (b:=q) hv.1
       have e1:=Int.emod_nonneg v0 (show q≠0 by omega)
       have e2:=Int.emod_lt_of_pos v0 (show 0<q by omega)
       have e3:=Int.emod_add_mul_ediv v0 q
       have e4:=Int.mul_nonneg (show 0≤q by omega) (Int.ediv_nonneg hv.1 (show 0≤q by omega))
       exact ⟨_,rfl,by omega,by omega,by omega⟩
      rw [hz]
      have hzu:0≤u→z<((Z.getD u.toNat []).length:Int):=fun h=>by
       have h1:=hmu h
       have h2:=huk h
       have h4:=hupj h
       rw [List.getElem?_set_ne (by omega)] at hl0
       rw [show u.toNat=m by omega,aa4 hl0] at h4 ⊢
       rw [hq2 h4] at hzq
       exact hzq
      refine Ap.go rfl rfl rfl rfl hri (List.Perm.refl _) rfl (zs:=(r ++ [z]).map fun n=>[iD n]) (by simp) (by simp;omega) (by simp;omega) (fun s'=>s' ++ τ2) (fun s'=>List.Perm.refl _) (fun a5 c5 s5 hr5=>?_)
      repeat' (first|refine sk83 ?_|(intro b;conv=>whnf))
      exact ⟨(j+1,at3+1,r ++ [z],_,s5),(aa2 cl7),(List.Sublist.refl _),⟨by simp only;omega,⟨by simp only;omega,by simp only;omega⟩,hsn z ⟨hz0,hz40⟩ hzu,hr5⟩,by simp only;omega⟩
     ·repeat' (first|refine sk83 ?_|(intro b;conv=>whnf))
      refine Ap.go rfl rfl rfl rfl hri (List.Perm.refl _) rfl (zs:=(r ++ [v0]).map fun n=>[iD n]) (by simp) (by simp;omega) (by simp;omega) (fun s'=>s' ++ τ2) (fun s'=>List.Perm.refl _) (fun a5 c5 s5 hr5=>?_)
      repeat' (first|refine sk83 ?_|(intro b;conv=>whnf))
      exact ⟨(j+1,at3+1,r ++ [v0],_,s5),(aa2 cl7),(List.Sublist.refl _),⟨by simp only;omega,⟨by simp only;omega,by simp only;omega⟩,hrec.snoc hf ⟨hv.1,hv'⟩ (fun h=>absurd h hf1),hr5⟩,by simp only;omega⟩
    ·obtain rfl:j=kd.fields.length:=by omega
     obtain ⟨b0,cap0,cs0,u1,t1,τ1,e1,g2,g3,g4,g5⟩:=hR2.at (show (Z.set k l)[k]?=some l from List.getElem?_set_self (by omega))
     rw [List.length_set,hWl] at e1
     cases e1
     obtain ⟨a1,c1,rfl⟩:=g4.slice
     obtain ⟨a6,c6,rfl⟩:=hri.slice
     have m0:(b,Blk.cells 75 cs0)∈s ++ τ2:=List.mem_append_right _ (g2.mem_iff.2 (by simp))
     obtain ⟨vs,s0,ts,q1,q2,q3⟩:=g4.ex
     have hlen:=q2.len.1
     repeat' (first|refine sk83 ?_|(intro b;conv=>whnf))
     refine Ld.cellm m0 (by rw [ix1];exact g3) ?_
     repeat' (first|refine sk83 ?_|(intro b;conv=>whnf))
     refine Ap.go rfl rfl rfl rfl q1 (τ:=(b,.cells 75 cs0) :: (ts.flatten ++ (s ++ τ1))) (by (refine ac3 fun a=>?_;have e1:=And.intro (al2 g2 a) (al2 q3 a);simp only [List.append_eq,List.nil_append,ac4,ae7,af1,rfC,atC,iD,bD] at e1 ⊢;omega)) rfl (zs:=vs.map (fun u=>[D.v u]) ++ [[D.v (.slice a6 (r.map fun n=>[iD n]).length c6)]]) rfl (by simp [hlen];omega) (by simp [hlen];omega) (fun s2=>s2 ++ ((b,.cells 75 cs0) :: (ts.flatten ++ (s ++ τ1)))) (fun s2=>List.Perm.refl _) (fun a7 c7 s7 hr7=>?_)
     repeat' (first|refine sk83 ?_|(intro b;conv=>whnf))
     refine Sv.cellm (tb:=75) (cs:=cs0) (cs':=cs0.set k (.v (.slice a7 (vs.map (fun u=>[D.v u]) ++ [[D.v (.slice a6 (r.map fun n=>[iD n]).length c6)]]).length c7))) (τ:=s7 ++ (ts.flatten ++ (s ++ τ1))) List.perm_middle (by rw [ix1];exact (List.getElem?_eq_some_iff.1 g3).1) rfl (by rw [ix1]) ?_
     repeat' (first|refine sk83 ?_|(intro b;conv=>whnf))
     refine ⟨(i+1,at3,l ++ [r],_),(aa2 cl7),(List.Sublist.refl _),⟨by simp only;omega,⟨by simp only;omega,by simp only;omega⟩,by simp [hll],fun r' hr'=>?_,?_⟩,by simp only;omega⟩
     ·rcases List.mem_append.1 hr' with h|h
      ·exact hlr r' h
      ·rw [List.mem_singleton] at h;subst h;exact hrec
     ·simp only
      have h8:=g5 _ _ (s7 ++ (ts.flatten ++ s)) ((b,.cells 75 (cs0.set k (.v (.slice a7 (vs.map (fun u=>[D.v u]) ++ [[D.v (.slice a6 (r.map fun n=>[iD n]).length c6)]]).length c7)))) :: (s7 ++ (ts.flatten ++ (s ++ τ1)))) (RowsOf.push q2 hr7 hri (List.Perm.refl _)) (by simp)
      rw [List.set_set] at h8
      exact h8
   ·obtain rfl:i=n:=by omega
    repeat' (first|refine sk83 ?_|(intro b;conv=>whnf))
    refine ⟨(k+1,at2,Z.set k l,τ2),(aa2 cl7),(List.Sublist.refl _),⟨by simp only;omega,⟨by simp only;omega,by simp only;omega⟩,by simp only;rw [List.length_set];exact hWl,fun i l' hi hl'=>?_,fun i hi hi2=>?_,hR2⟩,by simp only;omega⟩
    ·simp only at hi hl' ⊢
     by_cases e:i=k
     ·subst e
      rw [List.getElem?_set_self (by omega)] at hl'
      cases hl'
      exact ⟨by omega,fun kd' hk' r hr=>by cases hkd.symm.trans hk';exact (hlr r hr).set (Nat.le_refl _) _⟩
     ·rw [List.getElem?_set_ne (by omega)] at hl'
      exact (hWk i l' (by omega) hl').set (by omega) _
    ·simp only at hi ⊢
     rw [List.getElem?_set_ne (by omega)]
     exact hW0 i (by omega) hi2
 ·obtain rfl:k=x.kinds.length:=by omega
  repeat' (first|refine sk83 ?_|(intro b;conv=>whnf))
  exact Rt.same ⟨_,Z,rfl,hR,⟨hWl,fun i l hi=>hWk i l (by have:=(List.getElem?_eq_some_iff.1 hi).1;omega) hi⟩⟩
end
section
open Go Go.RowKit Go.Shelf
theorem r31_made_p (x:Sch) (hK:x.kinds.length≤1000) (hF:∀ k∈x.kinds,k.fields.length≤1000) (p:List Int) (hp:I64s p):ASome Tryz.prog 24 [schD x,slI p] (fun d=>∃ Z,d=slW Z∧MadeW x Z):=
 ASome.of_call ((r31_made x hK hF p hp).vs2 fun d σ ⟨v,Z,e,h,hm⟩=>by subst e;exact ⟨_,[],Vs.frz frz_w h (by simp),Z,rfl,hm⟩)
theorem r31_some_p (w:Wd) (hw:Ws w) (p:List Int) (hp:I64s p):ASome Tryz.prog 25 [slW w,slI p] (fun d=>∃ s,d=slS2 s∧s.map List.length=w.map List.length):=
 ASome.of_call ((r31_some w hw p hp).vs2 fun d σ ⟨v,s,e,h,hm⟩=>by subst e;exact ⟨_,[],Vs.frz frz_s h (by simp),s,rfl,hm⟩)
theorem bf2 (l:List Int) (hl:I64s l):ASome Tryz.prog 23 [slI l] (fun d=>∃ x,d=schD x∧GenX x):=
 ASome.of_call ((r09_schema l hl).imp fun d σ ⟨x,e,_,h⟩=>⟨x,e,h⟩)
theorem aT5 (x:Sch) (h:Cls x) (h1:1≤x.kinds.length) (hr2:x.rules.length≤2) (at_ how by_:Int) (hat:I64n at_) (hhow:I64n how) (hby:I64n by_):ASome Tryz.prog 38 [schD x,iD at_,iD how,iD by_] (fun d=>∃ y,d=schD y∧Cls y):=
 ASome.of_call ((r10_bent x h h1 hr2 at_ how by_ hat hhow hby).imp fun d σ ⟨x,e,_,h⟩=>⟨x,e,h⟩)
def Wn (w:Wd):Prop:=∀ l∈w,∀ r∈l,∀ v∈r,I64n v
structure WOK (w:Wd):Prop where
 ws:Ws w
 wn:Wn w
 few:∀ l∈w,l.length≤6
 fk:w.length≤3
theorem WOK.nil:WOK []:=⟨⟨by simp,by simp,by simp⟩,(fun _ h=>by cases h),by simp,by simp⟩
theorem MadeW.ok' {x:Sch} {w:Wd} (h:MadeW x w) (hx:Cls x):WOK w:=by
 have key:∀ l∈w,l.length≤5∧∀ r∈l,r.length≤10∧∀ v∈r,0≤v∧v<40:=fun l hl=>by
  obtain ⟨k,hk⟩:=List.getElem?_of_mem hl
  have hkl:=(List.getElem?_eq_some_iff.1 hk).1
  have h1:=h.ok k l hk
  rw [h.len] at hkl
  have h2:=List.getElem?_eq_getElem hkl
  refine ⟨h1.few,fun r hr=>?_⟩
  have h3:=h1.recs _ h2 r hr
  exact ⟨by rw [h3.len];exact (hx.ks _ (List.getElem_mem hkl)).nf,h3.sm⟩
 refine ⟨⟨by rw [h.len];have:=hx.nk;omega,fun l hl=>by have:=(key l hl).1;omega,fun l hl r hr=>by have:=((key l hl).2 r hr).1;omega⟩,fun l hl r hr v hv=>by have:=((key l hl).2 r hr).2 v hv;unfold I64n;omega,fun l hl=>by have:=(key l hl).1;omega,by rw [h.len];exact hx.nk⟩
structure SomeOK (X:List Sch) (V:List Wd):Prop where
 lx:X.length=4
 lv:V.length=4
 cx:∀ x∈X,Cls x
 cv:∀ w∈V,WOK w
def slX (X:List Sch):D:=.sl 4 (X.map schC)
def slV (V:List Wd):D:=.sl 1 (V.map fun w=>[slW w])
theorem one_w (w:Wd):((w.map fun l=>[slW1 l]).all fun y=>y.all oneD)=true:=by rw [List.all_eq_true];intro y hy;obtain ⟨b,_,rfl⟩:=List.mem_map.1 hy;rfl
theorem one_w1 (w:List (List Int)):((w.map fun l=>[slI l]).all fun y=>y.all oneD)=true:=by rw [List.all_eq_true];intro y hy;obtain ⟨b,_,rfl⟩:=List.mem_map.1 hy;rfl
theorem sk84 {A B:Prop} (k:B) (h:Hd7 B→A:=by intro hk7q;(first|refine sb0 ?_|refine sb5 ?_|((with_reducible refine' Cp.by ?hc ?_);(case hc=>exact aa5 at_ _ hat))|((with_reducible refine' CE.pure ?hc ?_);(case hc=>exact aa5 at_ _ hat)));exact hk7q.run):A:=h ⟨k⟩
theorem l31_some (l m:List Int) (hl:I64s l) (hm:I64s m) (at_ how by_:Int) (hat:I64n at_) (hhow:I64n how) (hby:I64n by_) :
  ACall Tryz.prog 9 [slI l,slI m,iD at_,iD how,iD by_] [] (fun d _=>∃ X V,d = .tup [slX X,slV V]∧SomeOK X V):=by
 refine aa3 mixed aa0 Tryz.func9 (by kernel_rfl) rfl Tryz.ntmps9 rfl ?_;intro BB
 repeat' (first|refine sk84 ?_|(intro b;conv=>whnf))
 refine CE.some (bf2 l hl) ?_
 rintro _ ⟨x,rfl,hgx⟩
 have hcx:=hgx.cls
 repeat' (first|refine sk84 ?_|(intro b;conv=>whnf))
 generalize b=bx
 refine CE.some (r31_made_p x (by have:=hcx.nk;omega) (fun k hk=>by have:=(hcx.ks k hk).nf;omega) m hm) ?_
 rintro _ ⟨w,rfl,hmw⟩
 have hwo:=hmw.ok' hcx
 have hw5:∀ l∈w,l.length≤5:=fun l hl=>by
  obtain ⟨k,hk⟩:=List.getElem?_of_mem hl
  exact (hmw.ok k l hk).few
 have hwl:w.length≤3:=by rw [hmw.len];exact hcx.nk
 repeat' (first|refine sk84 ?_|(intro b;conv=>whnf))
 refine Ap.go rfl rfl rfl rfl (RowIs.e0 75 1 (some ⟨b,0,none⟩)) (List.Perm.refl ([] ++ _)) (one_w w) (zs:=w.map fun l=>[slW1 l]) rfl (by simp;omega) (by simp;omega) (fun s'=>s' ++ [(bx,.cells 43 (schC x))]) (fun s'=>List.Perm.refl _) (fun a2 c2 so hro=>?_)
 obtain ⟨a2,c2,e2⟩:∃ a c,Value.slice a2 (w.map fun l=>[slW1 l]).length c2=Value.slice a w.length c:=⟨a2,c2,by rw [List.length_map]⟩
 rw [e2] at hro ⊢
 by_cases hw0:w.length=0
 ·obtain ⟨o,ho,hol⟩:∃ o,o=w∧o.length=w.length:=⟨w,rfl,rfl⟩
  have hoo:WOK o:=ho ▸ hwo
  rw [← ho,hol] at hro
  repeat' (first|refine sk84 ?_|(intro b;conv=>whnf))
  rw [← hol] at hro ⊢
  refine Dr.r ?_
  refine W.mk ?_
  refine bg8 (i:=12) (d:=.v (.pointer (some ⟨bx,0,none⟩))) (d':=.ro (schC x)) (τ:=so) rfl (fun h=>by cases h) (Vs.ptr (tb:=43) ((List.perm_append_singleton _ _))) ?_
  refine ba0 mixed aa0 rfl [0,1,2,3,4,5,7,9,10,11,12] 4 (.one 6 (.one 8 (.one 13 (.one 14 .done)))) (γ:=Sch) (fun y=>[(10,.sl 4 [schC x,schC x,schC y,schC x]),(11,.sl 1 [[slW w],[.v (.slice a2 o.length c2)],[slW w],[.v (.slice none 0 0)]])]) (fun _=>so) (fun y=>Cls y) (by decide +kernel) ?_ ?_
  ·repeat' (first|refine sk84 ?_|(intro b;conv=>whnf))
   refine CE.some (aT5 x hcx hgx.nk.1 hgx.nr at_ how by_ hat hhow hby) ?_
   rintro _ ⟨y,rfl,hy⟩
   repeat' (first|refine sk84 ?_|(intro b;conv=>whnf))
   exact ⟨y,(aa2 cl2),Sc.refl _,hy⟩
  ·intro y hy
   repeat' (first|refine sk84 ?_|(intro b;conv=>whnf))
   exact Rt.by (σ':=[]) (d':=.tup [slX [x,x,y,x],slV [w,o,w,[]]]) (Vs.vd ⟨so,by rw [List.append_nil]⟩ (Vd.tup (.cons (Vd.same (fun z hz=>by cases hz) _) (.cons (Vd.sl (fun z hz=>by cases hz) (.cons (Vd2.same (fun z hz=>by cases hz) _) (.cons (.cons (Vd.row (ρ:=[]) hro (by simp) (fun z hz=>by cases hz)) .nil) (.cons (Vd2.same (fun z hz=>by cases hz) _) (.cons (.cons (Vd.nil 1) .nil) .nil))))) .nil)))) ⟨[x,x,y,x],[w,o,w,[]],rfl,⟨rfl,rfl,fun z hz=>by
    simp only [List.mem_cons,List.not_mem_nil,or_false] at hz
    rcases hz with rfl|rfl|rfl|rfl <;> assumption,fun z hz=>by
    simp only [List.mem_cons,List.not_mem_nil,or_false] at hz
    rcases hz with rfl|rfl|rfl|rfl
    ·exact hwo
    ·exact hoo
    ·exact hwo
    ·exact WOK.nil⟩⟩
 ·have hk:=aA9 at_ w.length
  have hk':=hk.2.1 (by omega)
  obtain ⟨k,hkk⟩:∃ i:Nat,arE at_ w.length=i:=⟨(arE at_ w.length).toNat,by omega⟩
  obtain ⟨l0,hl0⟩:∃ l,w[k]?=some l:=⟨_,List.getElem?_eq_getElem (by omega)⟩
  have hl06:=hwo.few l0 (List.mem_of_getElem? hl0)
  obtain ⟨b2,cap2,cs2,e3,rfl,hcs2⟩:=RowIs.get hro (show (w.map fun l=>[slW1 l])[k]?=some [slW1 l0] by rw [List.getElem?_map,hl0];rfl)
  rw [List.length_map] at e3
  cases e3
  have hc2:cs2[k]?=some (slW1 l0):=by have:=hcs2 0 (by omega);simpa using this
  have hcl:=(List.getElem?_eq_some_iff.1 hc2).1
  have ek:0+((k:Nat):Int).toNat*1=k*1+0:=by simp
  obtain ⟨o,hol,hoo,hro2⟩:∃ o:Wd,o.length=w.length∧WOK o∧RowIs 75 1 (o.map fun l=>[slW1 l]) (.slice (some ⟨b2,0,none⟩) w.length c2) [(b2,.cells 75 (cs2.set (k*1+0) (slW1 (l0 ++ [[by_,0]]))))]:=by
   refine ⟨w.set k (l0 ++ [[by_,0]]),List.length_set,?_,?_⟩
   ·have hfk:(w.set k (l0 ++ [[by_,0]])).length≤3:=by rw [List.length_set];exact hwo.fk
    have hm:∀ l∈w.set k (l0 ++ [[by_,0]]),l∈w∨l=l0 ++ [[by_,0]]:=fun l hl=>List.mem_or_eq_of_mem_set hl
    refine ⟨⟨by rw [List.length_set];omega,fun l hl=>?_,fun l hl r hr=>?_⟩,fun l hl r hr v hv=>?_,fun l hl=>?_,hfk⟩
    ·rcases hm l hl with h|rfl
     ·exact hwo.ws.nr l h
     ·rw [List.length_append,List.length_singleton];omega
    ·rcases hm l hl with h|rfl
     ·exact hwo.ws.nf l h r hr
     ·rcases List.mem_append.1 hr with hr|hr
      ·exact hwo.ws.nf _ (List.mem_of_getElem? hl0) r hr
      ·rw [List.mem_singleton] at hr;subst hr;simp
    ·rcases hm l hl with h|rfl
     ·exact hwo.wn l h r hr v hv
     ·rcases List.mem_append.1 hr with hr|hr
      ·exact hwo.wn _ (List.mem_of_getElem? hl0) r hr v hv
      ·rw [List.mem_singleton] at hr;subst hr
       simp only [List.mem_cons,List.not_mem_nil,or_false] at hv
       rcases hv with rfl|rfl
       ·exact hby
       ·unfold I64n;omega
    ·rcases hm l hl with h|rfl
     ·exact Nat.le_succ_of_le (hw5 l h)
     ·have:=hw5 _ (List.mem_of_getElem? hl0)
      rw [List.length_append,List.length_singleton];omega
   ·have:=RowIs.put1 (d:=slW1 (l0 ++ [[by_,0]])) hro (show (w.map fun l=>[slW1 l])[k]?=some [slW1 l0] by rw [List.getElem?_map,hl0];rfl) (show 0<1 by omega)
    have e:(w.map fun l=>[slW1 l]).set k ([slW1 l0].set 0 (slW1 (l0 ++ [[by_,0]])))=(w.set k (l0 ++ [[by_,0]])).map fun l=>[slW1 l]:=by rw [List.map_set];rfl
    rw [e] at this
    exact this
  repeat' (first|refine sk84 ?_|(intro b;conv=>whnf))
  refine Ld.cellm (tb:=75) (cs:=cs2) (by simp) (by rw [hkk,ek];simpa using hc2) ?_
  repeat' (first|refine sk84 ?_|(intro b;conv=>whnf))
  refine Ap.go rfl rfl rfl rfl (RowIs.e0 22 1 (some ⟨b,0,none⟩)) (List.Perm.refl ([] ++ _)) (one_w1 l0) (zs:=l0.map fun l=>[slI l]) rfl (by simp;omega) (by simp;omega) (fun s'=>s' ++ [(b2,.cells 75 cs2),(bx,.cells 43 (schC x))]) (fun s'=>List.Perm.refl _) (fun a5 c5 s5 hr5=>?_)
  repeat' (first|refine sk84 ?_|(intro b;conv=>whnf))
  refine Ap.frz rfl rfl rfl rfl hr5 (List.Perm.refl _) rfl (zs:=(l0 ++ [[by_,0]]).map fun l=>[slI l]) (by rw [List.map_append];rfl) (by simp;omega) (by simp;omega) ?_
  repeat' (first|refine sk84 ?_|(intro b;conv=>whnf))
  refine Sv.cellm (tb:=75) (cs:=cs2) (cs':=cs2.set (k*1+0) (slW1 (l0 ++ [[by_,0]]))) (τ:=[(bx,.cells 43 (schC x))]) (List.Perm.refl _) (by rw [hkk,ek];simpa using hcl) rfl (by rw [hkk,ek];rfl) ?_
  rw [← hol] at hro2 ⊢
  have hro:=hro2
  repeat' (first|refine sk84 ?_|(intro b;conv=>whnf))
  refine Dr.r ?_
  refine W.mk ?_
  refine bg8 (i:=12) (d:=.v (.pointer (some ⟨bx,0,none⟩))) (d':=.ro (schC x)) (τ:=[(b2,Blk.cells 75 (cs2.set (k*1+0) (slW1 (l0 ++ [[by_,0]]))))]) rfl (fun h=>by cases h) (Vs.ptr (tb:=43) ((List.Perm.swap _ _ _))) ?_
  refine ba0 mixed aa0 rfl [0,1,2,3,4,5,7,9,10,11,12] 4 (.one 6 (.one 8 (.one 13 (.one 14 .done)))) (γ:=Sch) (fun y=>[(10,.sl 4 [schC x,schC x,schC y,schC x]),(11,.sl 1 [[slW w],[.v (.slice (some ⟨b2,0,none⟩) o.length c2)],[slW w],[.v (.slice none 0 0)]])]) (fun _=>[(b2,Blk.cells 75 (cs2.set (k*1+0) (slW1 (l0 ++ [[by_,0]]))))]) (fun y=>Cls y) (by decide +kernel) ?_ ?_
  ·repeat' (first|refine sk84 ?_|(intro b;conv=>whnf))
   refine CE.some (aT5 x hcx hgx.nk.1 hgx.nr at_ how by_ hat hhow hby) ?_
   rintro _ ⟨y,rfl,hy⟩
   repeat' (first|refine sk84 ?_|(intro b;conv=>whnf))
   exact ⟨y,(aa2 cl2),Sc.refl _,hy⟩
  ·intro y hy
   repeat' (first|refine sk84 ?_|(intro b;conv=>whnf))
   exact Rt.by (σ':=[]) (d':=.tup [slX [x,x,y,x],slV [w,o,w,[]]]) (Vs.vd ⟨[(b2,Blk.cells 75 (cs2.set (k*1+0) (slW1 (l0 ++ [[by_,0]]))))],by rw [List.append_nil]⟩ (Vd.tup (.cons (Vd.same (fun z hz=>by cases hz) _) (.cons (Vd.sl (fun z hz=>by cases hz) (.cons (Vd2.same (fun z hz=>by cases hz) _) (.cons (.cons (Vd.row (ρ:=[]) hro (by simp) (fun z hz=>by cases hz)) .nil) (.cons (Vd2.same (fun z hz=>by cases hz) _) (.cons (.cons (Vd.nil 1) .nil) .nil))))) .nil)))) ⟨[x,x,y,x],[w,o,w,[]],rfl,⟨rfl,rfl,fun z hz=>by
    simp only [List.mem_cons,List.not_mem_nil,or_false] at hz
    rcases hz with rfl|rfl|rfl|rfl <;> assumption,fun z hz=>by
    simp only [List.mem_cons,List.not_mem_nil,or_false] at hz
    rcases hz with rfl|rfl|rfl|rfl
    ·exact hwo
    ·exact hoo
    ·exact hwo
    ·exact WOK.nil⟩⟩
end
end Go.Proofs.YtjbbmjjildhfbaaGreatDoor
