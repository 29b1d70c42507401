/- A part of the proof: Iv Iw Bld Shelf SrcA. -/
import Derived.Test.YtlcfiilejnnlnaaGreatDoorK12
import Derived.Lib.Builder
import Derived.Lib.AppendStr
import Derived.Lib.UnsafeStr
import Derived.Laws.Externs
import Derived.Shelf.Strings.Builder1
import Derived.Shelf.Strconv.Itoa0
import Derived.Shelf.Strconv.Itoa1
import Derived.Shelf.LaysM
import Derived.Shelf.Strconv.Itoa2
import Derived.Shelf.Strconv.Itoa3
import Derived.Shelf.Bits.Mul64
set_option maxRecDepth 100000
set_option maxHeartbeats 20000000
set_option linter.all false
namespace Go.Proofs.YtlcfiilejnnlnaaGreatDoor
open Tryz
section
open Go
section
variable {P:Program} {σ:aa1} {ρ:Operand->D}
theorem cj6 {o:Oper} {t:TypeId} {x:Operand} {d:D} {u:TypeDesc} (ho:o.op = .makeInterface t x) (hx:ρ x=d) (hu:P.underlying t=some u) (hn:∀ m,u ≠ .interface m):Yd P o ρ σ (.ifc t d):=by
 intro w X η hη hst;obtain⟨dst,op,ty,pos,aft,g⟩:=o;simp only at ho;subst ho;have h1:=hη x (by simp [Op.operands]);rw [hx] at h1;refine ag4 (s:=Instr.makeInterface t (η x)) (u:=.iface t (η x)) ?_ (Ex.refl w) (.ifc t d _ h1);unfold Instr.makeInterface;rw [Sem.run_bind,run_underlying hu];simp only [Result.andThen];exact Sem.run_pure ..
theorem cr5 {o:Oper} {recv:Operand} {name:String} {args:Array Operand} {ats:Array TypeId} {t:TypeId} {d:D} {f:FuncId} (ho:o.op = .call ⟨.invoke recv name,args,ats⟩) (hx:ρ recv = .ifc t d) (hm:∀ v w,(method (P.types.size+Made.depth) t v name).run P w = .ok (f,v) w) (hf:Enters P f) {w:World} {O:Nat->Prop} {η:Operand->Value} (hη:∀ x∈o.op.operands,Rd w O (ρ x) (η x)) :
  ∃ vs:List Value,RdL w O (d::args.toList.map ρ) vs/\(execOp η o).run P w = .ok (.enter f vs.toArray) w:=by
 obtain⟨dst,op,ty,pos,aft,g⟩:=o;simp only at ho;subst ho;have h1:=hη recv (by simp [Op.operands,Call.operands]);rw [hx] at h1;obtain⟨u,hu,h2⟩:=h1.ifc_inv;have ha:RdL w O (args.toList.map ρ) (args.toList.map η):=aY0 _ fun y hy=>hη y (by simp [Op.operands,Call.operands];exact Or.inr (by simpa using hy));refine⟨u::args.toList.map η,.cons h2 ha,?_⟩;have hfe:=hf (#[u]++args.map η) w;have e1:(#[Value.iface t u]++args.map η)[0]?=some (.iface t u):=by rw [vV (by simp)];rfl
 have e2:(#[Value.iface t u]++args.map η).extract 1 (#[Value.iface t u]++args.map η).size=args.map η:=by
  apply wJ;simp [yL]
 have e3:(u::args.toList.map η).toArray = #[u]++args.map η:=by apply wJ;simp
 rw [e3,← hfe];have e4:(callMethod (.iface t u) name (args.map η)).run P w=(callFunc f (#[u]++args.map η)).run P w:=by
  unfold callMethod;simp only [Sem.run_bind,run_program,hm,Result.andThen]
 rw [← e4];simp only [execOp,resolve,hu,Sem.run_bind,Sem.run_pure,Result.andThen,invoke,e1,e2]
theorem af2 {o:Oper} {recv:Operand} {name:String} {args:Array Operand} {ats:Array TypeId} {t:TypeId} {d dd:D} {f:FuncId} (ho:o.op = .call ⟨.invoke recv name,args,ats⟩) (hx:ρ recv = .ifc t d) (hm:∀ v w,(method (P.types.size+Made.depth) t v name).run P w = .ok (f,v) w) (hp:APure P f (d::args.toList.map ρ) dd):Yd P o ρ σ dd:=by
 intro w X η hη hst;obtain⟨vs,h1,h2⟩:=cr5 (P:=P) (w:=w) ho hx hm hp.ent hη;rw [h2];exact⟨rfl,(hp.run w _ vs h1 hst.gok).mono fun e w' ⟨u,g1,g2,g3⟩=>⟨u,g1,g3,g2⟩⟩
end
theorem ae6 (v:Value) (w:World):(method (prog.types.size+Made.depth) 76 v "Count").run prog w = .ok (292,v) w:=by kernel_rfl
theorem az4 (v:Value) (w:World):(method (prog.types.size+Made.depth) 76 v "Value").run prog w = .ok (293,v) w:=by kernel_rfl
end
section
open Go
def cntI (w:Wd) (k:Int):Int:=if k<0 then 0 else ((w.getD k.toNat []).length:Int)
def valI (w:Wd) (k i f:Int):Int:=if k<0\/i<0\/f<0 then 0 else ((w.getD k.toNat []).getD i.toNat []).getD f.toNat 0
abbrev srcD (w:Wd):D:=.agg [slW w]
theorem ba8 {α:Type} {l:List α} {i:Nat} {d:α} (h:l.length<=i):l.getD i d=d:=by rw [List.getD_eq_getElem?_getD,yY.2 h];rfl
theorem av3 {α:Type} {l:List α} {i:Nat} {d y:α} (h:l[i]?=some y):l.getD i d=y:=by rw [List.getD_eq_getElem?_getD,h];rfl
theorem ae4 (w:Wd) (k:Int) (hw:w.length<=1000000) (hl:∀ l∈w,l.length<=1000000):APure prog 292 [srcD w,iD k] (iD (cntI w k)):=by
 unfold cntI;by_cases h:k<0
 ·rw [if_pos h];refine eP7 func292 ntmps292 fun BB=>?_
  repeat' first|refine sk2 ?_|intro b;conv=>whnf
  exact Rt.pure rfl
 ·rw [if_neg h];by_cases h2:(w.length:Int)<=k
  ·rw [ba8 (by omega)];refine eP7 func292 ntmps292 fun BB=>?_
   repeat' first|refine sk2 ?_|intro b;conv=>whnf
   exact Rt.pure rfl
  ·obtain⟨l,hk⟩:∃ l,w[k.toNat]?=some l:=⟨_,zD (by omega)⟩
   rw [av3 hk];refine eP7 func292 ntmps292 fun BB=>?_
   repeat' first|refine sk2 ?_|intro b;conv=>whnf
   refine Rt.pure (zM iD ?_);simp
theorem ay9 (w:Wd) (k i f:Int) (hw:w.length<=1000000) (hl:∀ l∈w,l.length<=1000000/\∀ r∈l,r.length<=1000000):APure prog 293 [srcD w,iD k,iD i,iD f] (iD (valI w k i f)):=by
 unfold valI;by_cases h:k<0\/i<0\/f<0
 ·rw [if_pos h];rcases (by omega:k<0\/(¬ k<0/\i<0)\/(¬ k<0/\¬ i<0/\f<0)) with h1|h1|h1
  all_goals
   refine eP7 func293 ntmps293 fun BB=>?_
   repeat' first|refine sk2 ?_|intro b;conv=>whnf
   exact Rt.pure rfl
 ·rw [if_neg h];by_cases h2:(w.length:Int)<=k
  ·rw [ba8 (l:=w) (by omega)];refine eP7 func293 ntmps293 fun BB=>?_
   repeat' first|refine sk2 ?_|intro b;conv=>whnf
   exact Rt.pure rfl
  ·obtain⟨l,hk⟩:∃ l,w[k.toNat]?=some l:=⟨_,zD (by omega)⟩
   rw [av3 hk];have hll:=(hl l (zG hk)).1;by_cases h3:(l.length:Int)<=i
   ·rw [ba8 (l:=l) (by omega)];refine eP7 func293 ntmps293 fun BB=>?_
    repeat' first|refine sk2 ?_|intro b;conv=>whnf
    exact Rt.pure rfl
   ·obtain⟨r,hr⟩:∃ r,l[i.toNat]?=some r:=⟨_,zD (by omega)⟩
    rw [av3 hr];have hrl:=(hl l (zG hk)).2 r (zG hr);by_cases h4:(r.length:Int)<=f
    ·rw [ba8 (l:=r) (by omega)];refine eP7 func293 ntmps293 fun BB=>?_
     repeat' first|refine sk2 ?_|intro b;conv=>whnf
     exact Rt.pure rfl
    ·obtain⟨z,hz⟩:∃ z,r[f.toNat]?=some z:=⟨_,zD (by omega)⟩
     rw [av3 hz];refine eP7 func293 ntmps293 fun BB=>?_
     repeat' first|refine sk2 ?_|intro b;conv=>whnf
     exact Rt.pure rfl
end
section
open Go.RowKit Go.Shelf
def Bld (w:World) (B b n:Nat) (O:Option Nat):Prop:=
 ∃ (l:List UInt8) (p v:Value),l.length=n/\(p = .pointer none\/p = .pointer (some ⟨b,0,none⟩))/\B<=b/\w.heap[b]?=some (.cells #[p,v] 266 (0,0)) /\
  w.ownsRow B 5 1 v l.length (Lib.byteCells l)/\v.ownBlock=O/\O≠some b
theorem Ex.grownBy {w w':World} (h:Ex w w'):w.grownBy w' none:=⟨Keep.os h,Keep.tape h,Keep.output h,Keep.size h,fun k hk _=>Ex.block h k hk⟩
theorem Bld.lt {w:World} {B b n:Nat} {O:Option Nat} (h:Bld w B b n O):b<w.heap.size:=by
 obtain⟨l,p,v,_,_,_,hb,_⟩:=h;rcases wU b w.heap.size with h' | h'
 ·exact h'
 ·simp [wQ h'] at hb
theorem Bld.le {w:World} {B b n:Nat} {O:Option Nat} (h:Bld w B b n O):B<=w.heap.size:=by
 have:=h.lt;obtain⟨l,p,v,_,_,hB,_⟩:=h;omega
theorem Bld.ex {w w':World} {B b n:Nat} {O:Option Nat} (h:Bld w B b n O) (he:Ex w w'):Bld w' B b n O:=by
 have hlt:=h.lt;obtain⟨l,p,v,h1,h2,h3,h4,h5,h6,h7⟩:=h;exact⟨l,p,v,h1,h2,h3,by rw [he.block b hlt];exact h4,h5.kept he.grownBy (by cases h:v.ownBlock<;>simp),h6,h7⟩
theorem Bld.fresh (w:World) (B:Nat) (hB:B<=w.heap.size):Bld (w.alloc (.cells #[.pointer none,.slice none 0 0] 266)) B w.heap.size 0 none:=
 ⟨[],.pointer none,.slice none 0 0,rfl,.inl rfl,hB,by show (w.heap.push _)[w.heap.size]?=_;simp,World.ownsRow_nil _ _ _ _,rfl,by simp⟩
theorem infoByte:(prog.info? 5).map (fun i=>(i.zero,i.size,i.bytes))=some (some (.int .u8 0),1,1):=by kernel_rfl
theorem sizeBuilder:(prog.info? 266).map (fun i=>i.size)=some 2:=by kernel_rfl
theorem aS5 (b:Nat) (w:World) (h0:w.cell? ⟨b,0,none⟩=some (.pointer (some ⟨b,0,none⟩))) :
  Calls prog 205 #[.pointer (some ⟨b,0,none⟩)] w fun e w'=>e = .returned (.tuple #[])/\w=w':=by
 obtain⟨j,hj,_⟩:=xN.1 sizeBuilder
 go_enter func205,ntmps205
 go_wp2
 rw [Lib.run_neq_ptr_same w _ underlying264 hj]
 go_wp2
 go_end0
 exact⟨rfl,rfl⟩
theorem aQ7 (b:Nat) (w:World) (h0:w.cell? ⟨b,0,none⟩=some (.pointer none)) (hsh:w.shape? b=some (266,2)) (hfz:w.frozen? ⟨b,0,none⟩=false) :
  Calls prog 205 #[.pointer (some ⟨b,0,none⟩)] w fun e w'=>e = .returned (.tuple #[])/\w'=w.setCell ⟨b,0,none⟩ (.pointer (some ⟨b,0,none⟩)):=by
 obtain⟨j,hj,hjs⟩:=xN.1 sizeBuilder
 go_enter func205,ntmps205
 go_wp2
 rw [Lib.run_to_unsafe w ⟨b,0,none⟩ underlying264 underlying323 hj (by rw [hjs];decide) hsh (Nat.zero_lt_succ 1)];simp only [Result.andThen];rw [Oper.upon_value]
 go_wp2
 rw [run_callFunc_extern func239 (by kernel_rfl) (by kernel_rfl) (by kernel_rfl) (e:=Extern.AbiNoEscape.same) (by kernel_rfl)];rw [Lib.run_noEscape];simp only [Result.andThen];rw [Oper.upon_value]
 go_wp2
 rw [Lib.run_from_unsafe w ⟨b,0,none⟩ underlying323 underlying264 hj hsh (by kernel_rfl)];simp only [Result.andThen];rw [Oper.upon_value]
 go_wp2
 go_end0
 exact⟨rfl,rfl⟩
theorem aG0 {w:World} {B b n:Nat} {O:Option Nat} (h:Bld w B b n O) :
  Calls prog 205 #[.pointer (some ⟨b,0,none⟩)] w fun e w'=>e = .returned (.tuple #[])/\(Keep (fun x=>x=b) w w' /\
   ∃ (l:List UInt8) (v:Value),l.length=n/\B<=b/\w'.heap[b]?=some (.cells #[.pointer (some ⟨b,0,none⟩),v] 266 (0,0))/\w'.ownsRow B 5 1 v l.length (Lib.byteCells l)/\v.ownBlock=O/\O≠some b):=by
 have hlt:=h.lt;obtain⟨l,p,v,h1,h2,h3,h4,h5,h6,h7⟩:=h;rcases h2 with rfl|rfl
 ·refine (aQ7 b w (by simp [World.cell?,h4]) (by simp [World.shape?,h4]) (by simp [World.frozen?,h4])).mono ?_;rintro e w' ⟨rfl,rfl⟩;refine⟨rfl,(Keep.refl (fun x=>x=b) w).setCell (p:=⟨b,0,none⟩) (.inr rfl) _,l,v,h1,h3,?_,ownsRow_setCell_other h5 (by rw [h6];exact h7) _,h6,h7⟩;simp only [World.setCell,Array.getElem?_modify,if_true,h4]
  rfl
 ·refine (aS5 b w (by simp [World.cell?,h4])).mono ?_;rintro e w' ⟨rfl,rfl⟩;exact⟨rfl,Keep.refl _ _,l,v,h1,h3,h4,h5,h6,h7⟩
def Wrote (w w':World) (B b n:Nat) (O:Option Nat):Prop:=Keep (fun x=>x=b\/some x=O) w w'/\∃ O',Bld w' B b n O'/\(O'=O\/∃ g,O'=some g/\w.heap.size<=g)
theorem aK7 {w:World} {base:Nat} {v v':Value} {n:Nat} {xs:List Value} (hown:w.ownsRow base 5 1 v n xs) (s:ByteArray) (hbytes:n+s.size<=140737488355328) {w':World} {ty:TypeId}
  (hrun:(Builtin.append_ #[23,9] ty #[v,.string s]).run prog w = .ok v' w'):v'.ownBlock=v.ownBlock\/v'.ownBlock=some w.heap.size:=by
 obtain⟨i,hi,hz0,hz1,hz2⟩:=info_parts infoByte;rcases hown.2 with ⟨rfl,rfl⟩|⟨g,cap,cur,rfl,hbg,hg,hnc,hcm,hcs,htake⟩
 ·by_cases hm:s.size=0
  ·have hf:=Lib.run_firstCells_string (P:=prog) w 1 s;rw [hm] at hf;simp [Builtin.append_,run_underlying underlying23,run_underlying underlying9,sizeOf,typeInfo,hi,hz1,Builtin.lenOf,hm,hf] at hrun;obtain⟨rfl,rfl⟩:=hrun;exact .inl rfl
  ·have hr:=run_append_nil_string (P:=prog) w 23 9 ty 5 i (.int .u8 0) underlying23 underlying9 hi hz0 s (by omega) (by omega) (by rw [hz2];omega);rw [hr] at hrun
   cases hrun
   exact .inr rfl
 ·by_cases hroom:n+s.size<=cap
  ·have hcs':cur.size=cap:=by simpa using hcs
   have hr:=Lib.run_append_room_string (P:=prog) w 23 9 ty 5 i underlying23 underlying9 hi hz1 g n cap cur hg s hroom (by omega);rw [hr] at hrun
   cases hrun
   exact .inl rfl
  ·have holds:∀ j u,xs[j]?=some u->w.cell? ((⟨g,0,none⟩:Addr).add j)=some u:=hown.cells (g:=g) rfl;have hr:=Lib.run_append_grow_string (P:=prog) w 23 9 ty 5 i (.int .u8 0) underlying23 underlying9 hi hz0 ⟨g,0,none⟩ n cap xs (by rw [hz1];simpa using hown.1) holds s (by omega) (by omega) (by rw [hz2];exact growslice_fits (by omega) (by omega));rw [hr] at hrun
   cases hrun
   exact .inr rfl
theorem aG7 {w:World} {ops:Array Oper} {rest:List Oper} {o:Oper} {a:Act} {Q:Exit->Act->World->Prop} (hgd:o.guard=none) (sl x:Operand)
  (ho:o.op = .call { callee:=.builtin .append,args:=#[sl,x],argTypes:=#[23,9] })
  (base:Nat) (v:Value) (n:Nat) (xs:List Value) (hs:a.eval sl=v) (hown:w.ownsRow base 5 1 v n xs) (s:ByteArray) (hx:a.eval x = .string s)
  (hbytes:n+s.size<=140737488355328) (hbase:base<=w.heap.size)
  (h:∀ v' w',w'.ownsRow base 5 1 v' (n+s.size) (xs++Lib.strCells s)->w.grownBy w' v.ownBlock->(v'.ownBlock=v.ownBlock\/v'.ownBlock=some w.heap.size)->wpList prog ops Q rest (a.put o.dst v') w'):wpList prog ops Q (o::rest) a w:=by
 obtain⟨i,hi,hz0,hz1,hz2⟩:=info_parts infoByte;refine wpList_plain hgd fun K hK=>?_;obtain⟨v',w',hr,h2,h3,h4⟩:=Lib.run_append_own_string (P:=prog) w base 23 9 o.type 5 i underlying23 underlying9 hi hz0 hz1 hz2 v n xs hown s (by unfold maxLen;omega) hbytes hbase;have h5:=aK7 hown s hbytes hr;unfold Oper.wp execOp;simp only [ho,resolve,invoke,builtin,Sem.run_bind,Sem.run_pure,Result.andThen_ok,vD,List.map_cons,List.map_nil,hs,hx,hr];exact hK _ _ (h v' w' h2 h3 h5)
theorem aR8 (s:ByteArray):Lib.strCells s=Lib.byteCells s.data.toList:=by
 simp [Lib.strCells,Lib.byteCells]
theorem ay4 (l m:List UInt8):Lib.byteCells l++Lib.byteCells m=Lib.byteCells (l++m):=by simp [Lib.byteCells]
theorem an2 (l:List UInt8):(Lib.byteCells l).length=l.length:=by simp [Lib.byteCells]
theorem bm7 {w w1 w2:World} {B b n m:Nat} {O:Option Nat} {v v':Value} {l:List UInt8} (hk:Keep (fun x=>x=b) w w1) (hl:l.length=n+m) (hB:B<=b) (hb1:w1.heap[b]?=some (.cells #[.pointer (some ⟨b,0,none⟩),v] 266 (0,0)))
  (hO:v.ownBlock=O) (hne:O≠some b) (hown:w2.ownsRow B 5 1 v' (n+m) (Lib.byteCells l)) (hgrow:w1.grownBy w2 v.ownBlock) (hat:v'.ownBlock=v.ownBlock\/∃ g,v'.ownBlock=some g/\w1.heap.size<=g) :
  Wrote w (w2.setCell ⟨b,1,none⟩ v') B b (n+m) O:=by
 have hlt:b<w1.heap.size:=by
  rcases wU b w1.heap.size with h' | h'
  ·exact h'
  ·simp [wQ h'] at hb1
 have hb2:w2.heap[b]?=some (.cells #[.pointer (some ⟨b,0,none⟩),v] 266 (0,0)):=by
  rw [hgrow.block b hlt (fun e=>hne (hO ▸ e.symm))];exact hb1
 have hne':v'.ownBlock≠some b:=by
  rcases hat with h|⟨g,h,hg⟩
  ·rw [h,hO];exact hne
  ·rw [h];intro e;cases e;omega
 refine⟨?_,v'.ownBlock,⟨l,_,v',hl,.inr rfl,hB,?_,?_,rfl,hne'⟩,?_⟩
 ·have h1:Keep (fun x=>x=b\/some x=O) w w1:=hk.mono (fun x _ h=>.inl h);have h2:Keep (fun x=>x=b\/some x=O) w w2:=h1.grown hgrow (fun k e=>.inr (.inr (by rw [← hO,e])));exact h2.setCell (p:=⟨b,1,none⟩) (.inr (.inl rfl)) _
 ·simp only [World.setCell,Array.getElem?_modify,if_true,hb2]
  rfl
 ·rw [hl];exact ownsRow_setCell_other hown hne' _
 ·rcases hat with h|⟨g,h,hg⟩
  ·exact .inl (h.trans hO)
  ·exact .inr ⟨g,h,xH hk.size hg⟩
theorem ax2 {w:World} {b:Nat} {o:Obj} (h:w.heap[b]?=some o):b<w.heap.size:=by
 rcases wU b w.heap.size with h' | h'
 ·exact h'
 ·simp [wQ h'] at h
theorem al3 {w:World} {B b n:Nat} {O:Option Nat} (h:Bld w B b n O) (s:ByteArray) (hn:n+s.size<=140737488355328) :
  Calls prog 163 #[.pointer (some ⟨b,0,none⟩),.string s] w fun e w'=>e = .returned (.tuple #[.int .i64 s.size,.nilIface])/\Wrote w w' B b (n+s.size) O:=by
 have HC:=Lib.hid (aG0 h);have hBw:=h.le
 go_enter func163,ntmps163
 go_wp2_with (go_at_call 205;refine HC.out.mono ?_)
 rintro e w1 ⟨rfl,hk,l,v,hl,hB,hb1,hown,hO,hne⟩;have HB:=Lib.hid hb1;have HL:=Lib.hid hl;have HO:=Lib.hid hO;have c0:w1.cell? ⟨b,0,none⟩=some (.pointer (some ⟨b,0,none⟩)):=by simp [World.cell?,hb1]
 have c1:w1.cell? ⟨b,1,none⟩=some v:=by simp [World.cell?,hb1]
 clear hb1 hl hO;have hsz:=hk.size
 go_wp2_with (at_builtin;refine aG7 rfl _ _ rfl B v _ _ rfl hown s rfl (by rw [HL.out];exact hn) (by omega) ?_)
 intro v' w2 hown' hgrow hat;have hb2:w2.heap[b]?=some (.cells #[.pointer (some ⟨b,0,none⟩),v] 266 (0,0)):=by
  rw [hgrow.block b (ax2 HB.out) (fun e=>hne (HO.out ▸ e.symm))];exact HB.out
 have d1:w2.cell? ⟨b,1,none⟩=some v:=by simp [World.cell?,hb2]
 have d0:w2.cell? ⟨b,0,none⟩=some (.pointer (some ⟨b,0,none⟩)):=by simp [World.cell?,hb2]
 have f1:w2.frozen? ⟨b,1,none⟩=false:=by simp [World.frozen?,hb2]
 clear hb2;have HW:Hid (Wrote w (w2.setCell ⟨b,1,none⟩ v') B b (n+s.size) O):=by
  refine bm7 (l:=l++s.data.toList) hk ?_ hB HB.out HO.out hne ?_ hgrow ?_
  ·rw [zI,HL.out];rfl
  ·rw [← ay4,← aR8,← HL.out];exact hown'
  ·rcases hat with h|h
   ·exact .inl h
   ·exact .inr ⟨_,h,zT _⟩
 obtain⟨ao,n',cap,rfl⟩:∃ ao n' cap,v' = .slice ao n' cap:=by
  rcases hown'.2 with ⟨hv,h0⟩|⟨g,cap,cur,hv,_⟩
  ·exact⟨_,_,_,hv⟩
  ·exact⟨_,_,_,hv⟩
 clear hown hown' hgrow hat
 go_wp2
 go_ret2
 exact⟨rfl,HW.out⟩
theorem aV7 {w:World} {B b n:Nat} {O:Option Nat} (h:Bld w B b n O) (c:UInt8) (hn:n+1<=140737488355328) :
  Calls prog 259 #[.pointer (some ⟨b,0,none⟩),.int .u8 c.toNat] w fun e w'=>e = .returned .nilIface/\Wrote w w' B b (n+1) O:=by
 have HC:=Lib.hid (aG0 h);have hBw:=h.le;obtain⟨i0,hi,hz0,hz1,hz2⟩:=info_parts infoByte
 go_enter func259,ntmps259
 go_wp2_with (go_at_call 205;refine HC.out.mono ?_)
 rintro e w1 ⟨rfl,hk,l,v,hl,hB,hb1,hown,hO,hne⟩;have HB:=Lib.hid hb1;have HL:=Lib.hid hl;have HO:=Lib.hid hO;have c0:w1.cell? ⟨b,0,none⟩=some (.pointer (some ⟨b,0,none⟩)):=by simp [World.cell?,hb1]
 have c1:w1.cell? ⟨b,1,none⟩=some v:=by simp [World.cell?,hb1]
 have hlt:=ax2 hb1;clear hb1 hl hO;have hsz:=hk.size
 go_wp2_with (at_builtin;refine wpList_append_own_at _ rfl _ _ 23 rfl B 5 i0 (.int .u8 0) 1 1 underlying23 hi hz0 hz1 hz2 rfl (by decide) v _ _ rfl (hown.alloc _) ⟨w1.heap.size,0,none⟩ 1 1 [.int .u8 c.toNat] rfl rfl ?c1 ?c2 ?c3 ?c4 ?c5 ?_)
 case c1=>exact cell_one_new _ _ _
 case c2=>simp [Value.oneCell']
 case c3=>unfold maxLen;rw [HL.out];omega
 case c4=>rw [HL.out];omega
 case c5=>simp;omega
 intro v' w2 hown' hgrow _ hat;have hb1':(w1.alloc (.cells #[.int .u8 c.toNat] 5)).heap[b]?=some (.cells #[.pointer (some ⟨b,0,none⟩),v] 266 (0,0)):=by
  rw [Below.heap_alloc _ _ _ hlt];exact HB.out
 have hb2:w2.heap[b]?=some (.cells #[.pointer (some ⟨b,0,none⟩),v] 266 (0,0)):=by
  rw [hgrow.block b (ax2 hb1') (fun e=>hne (HO.out ▸ e.symm))];exact hb1'
 have d1:w2.cell? ⟨b,1,none⟩=some v:=by simp [World.cell?,hb2]
 have d0:w2.cell? ⟨b,0,none⟩=some (.pointer (some ⟨b,0,none⟩)):=by simp [World.cell?,hb2]
 have f1:w2.frozen? ⟨b,1,none⟩=false:=by simp [World.frozen?,hb2]
 clear hb2;have HW:Hid (Wrote w (w2.setCell ⟨b,1,none⟩ v') B b (n+1) O):=by
  refine bm7 (l:=l++[c]) (hk.alloc _) ?_ hB hb1' HO.out hne ?_ hgrow ?_
  ·rw [zI,HL.out];rfl
  ·rw [← ay4,← HL.out];exact hown'
  ·rcases hat with h|h
   ·exact .inl h
   ·exact .inr ⟨_,h,by simp⟩
 clear hb1';obtain⟨ao,n',cap,rfl⟩:∃ ao n' cap,v' = .slice ao n' cap:=by
  rcases hown'.2 with ⟨hv,h0⟩|⟨g,cap,cur,hv,_⟩
  ·exact⟨_,_,_,hv⟩
  ·exact⟨_,_,_,hv⟩
 clear hown hown' hgrow hat
 go_wp2
 go_ret
 exact⟨rfl,HW.out⟩
theorem aM6 {w:World} {B b n:Nat} {O:Option Nat} (h:Bld w B b n O) (hn:n+1<=140737488355328) :
  Calls prog 259 #[.pointer (some ⟨b,0,none⟩),.int .u8 32] w fun e w'=>e = .returned .nilIface/\Wrote w w' B b (n+1) O:=aV7 h 32 hn
end
end Go.Proofs.YtlcfiilejnnlnaaGreatDoor
namespace Go.Proofs
open Tryz YtlcfiilejnnlnaaGreatDoor
open Go.Shelf
def lays169_ren:Go.Shelf.Ren:=⟨fun | 169=>164|n=>n,fun | 70=>264 | 9=>9 | 0=>0 | 72=>266 | 37=>23 | 127=>307 | 3=>3 | 5=>5|n=>n,fun|n=>n⟩
theorem lays169:Go.Proofs.Lays.n169 prog lays169_ren:={
 mixed:=by kernel_rfl
 f169:=func164.trans (zM some (by kernel_rfl))
 t0:=underlying0
 a0:=isAgg0
 z0:=sizeOf0
 v0:=zeroValue0
 t3:=underlying3
 a3:=isAgg3
 z3:=sizeOf3
 v3:=zeroValue3
 t9:=underlying9
 a9:=isAgg9
 z9:=sizeOf9
 v9:=zeroValue9
 t37:=underlying23
 a37:=isAgg23
 z37:=sizeOf23
 v37:=zeroValue23
 t70:=underlying264
 a70:=isAgg264
 z70:=sizeOf264
 v70:=zeroValue264
 t72:=underlying266
 a72:=isAgg266
 z72:=sizeOf266
 v72:=zeroValue266
 t127:=underlying307
 a127:=isAgg307
 z127:=sizeOf307
 v127:=zeroValue307 }
theorem Builder_Extra_169:Builder.Extra prog lays169_ren:={
 sizeBuilder:=by kernel_rfl
 liesBuilder:=by kernel_rfl
 t5:=underlying5
 a5:=isAgg5
 z5:=sizeOf5
 v5:=zeroValue5
 infoByte:=by kernel_rfl
 cellsByte:=by kernel_rfl
 sizeByte:=by kernel_rfl
 neB5:=by decide }
open Go.RowKit in
theorem Builder_String_any (B b:Nat) (l:List UInt8) (w:World) (h:Lib.IsBuilder 266 5 B b (Lib.byteCells l) w) (hBw:B<=w.heap.size) :
  Calls prog 164 #[.pointer (some ⟨b,0,none⟩)] w fun e w'=>e = .returned (.string ⟨l.toArray⟩)/\Below B w w':=Any.Builder_String_any lays169 Builder_Extra_169 B b l w h hBw
def laysM246_ren:Go.Shelf.Ren:=⟨fun | 246=>265 | 283=>266 | 284=>267 | 285=>268 | 286=>269 | 129=>271 | 317=>270 | 318=>272 | 319=>273 | 320=>274 | 337=>275 | 338=>276|n=>n,fun | 2=>2 | 3=>3 | 9=>9 | 4=>4 | 171=>341 | 0=>0 | 53=>167 | 37=>23 | 5=>5 | 173=>344 | 212=>347 | 51=>168 | 20=>20 | 213=>348 | 46=>180 | 232=>176 | 233=>170|n=>n,fun | 17=>5 | 18=>6 | 19=>7|n=>n⟩
def laysM243_ren:Go.Shelf.Ren:=⟨fun | 243=>264 | 246=>265 | 283=>266 | 284=>267 | 285=>268 | 286=>269 | 129=>271 | 317=>270 | 318=>272 | 319=>273 | 320=>274 | 337=>275 | 338=>276|n=>n,fun | 3=>3 | 9=>9 | 2=>2 | 4=>4 | 171=>341 | 0=>0 | 53=>167 | 37=>23 | 5=>5 | 173=>344 | 212=>347 | 51=>168 | 20=>20 | 213=>348 | 46=>180 | 232=>176 | 233=>170|n=>n,fun | 17=>5 | 18=>6 | 19=>7|n=>n⟩
def laysM171_ren:Go.Shelf.Ren:=⟨fun | 171=>260 | 243=>264 | 246=>265 | 283=>266 | 284=>267 | 285=>268 | 286=>269 | 129=>271 | 317=>270 | 318=>272 | 319=>273 | 320=>274 | 337=>275 | 338=>276|n=>n,fun | 3=>3 | 9=>9 | 2=>2 | 4=>4 | 171=>341 | 0=>0 | 53=>167 | 37=>23 | 5=>5 | 173=>344 | 212=>347 | 51=>168 | 20=>20 | 213=>348 | 46=>180 | 232=>176 | 233=>170|n=>n,fun | 17=>5 | 18=>6 | 19=>7|n=>n⟩
theorem laysM171:Go.Proofs.LaysM.n171 prog laysM171_ren:={
 mixed:=by kernel_rfl
 f129:=func271.trans (zM some (by kernel_rfl))
 f171:=func260.trans (zM some (by kernel_rfl))
 f243:=func264.trans (zM some (by kernel_rfl))
 f246:=func265.trans (zM some (by kernel_rfl))
 f283:=func266.trans (zM some (by kernel_rfl))
 f284:=func267.trans (zM some (by kernel_rfl))
 f285:=func268.trans (zM some (by kernel_rfl))
 f286:=func269.trans (zM some (by kernel_rfl))
 f317:=func270.trans (zM some (by kernel_rfl))
 f318:=func272.trans (zM some (by kernel_rfl))
 f319:=func273.trans (zM some (by kernel_rfl))
 f320:=func274.trans (zM some (by kernel_rfl))
 f337:=func275.trans (zM some (by kernel_rfl))
 f338:=func276.trans (zM some (by kernel_rfl))
 t0:=underlying0
 a0:=isAgg0
 z0:=sizeOf0
 v0:=zeroValue0
 t2:=underlying2
 a2:=isAgg2
 z2:=sizeOf2
 v2:=zeroValue2
 t3:=underlying3
 a3:=isAgg3
 z3:=sizeOf3
 v3:=zeroValue3
 t4:=underlying4
 a4:=isAgg4
 z4:=sizeOf4
 v4:=zeroValue4
 t5:=underlying5
 a5:=isAgg5
 z5:=sizeOf5
 v5:=zeroValue5
 t9:=underlying9
 a9:=isAgg9
 z9:=sizeOf9
 v9:=zeroValue9
 t20:=underlying20
 a20:=isAgg20
 z20:=sizeOf20
 v20:=zeroValue20
 t37:=underlying23
 a37:=isAgg23
 z37:=sizeOf23
 v37:=zeroValue23
 t46:=underlying180
 a46:=isAgg180
 z46:=sizeOf180
 v46:=zeroValue180
 t51:=underlying168
 a51:=isAgg168
 z51:=sizeOf168
 v51:=zeroValue168
 t53:=underlying167
 a53:=isAgg167
 z53:=sizeOf167
 v53:=zeroValue167
 t171:=underlying341
 a171:=isAgg341
 z171:=sizeOf341
 v171:=zeroValue341
 t173:=underlying344
 a173:=isAgg344
 z173:=sizeOf344
 v173:=zeroValue344
 t212:=underlying347
 a212:=isAgg347
 z212:=sizeOf347
 v212:=zeroValue347
 t213:=underlying348
 a213:=isAgg348
 z213:=sizeOf348
 t232:=underlying176
 a232:=isAgg176
 z232:=sizeOf176
 v232:=zeroValue176
 t233:=underlying170
 a233:=isAgg170
 z233:=sizeOf170
 v233:=zeroValue170
 g17:=by kernel_rfl
 g18:=by kernel_rfl
 g19:=by kernel_rfl
 i0:=by kernel_rfl
 i2:=by kernel_rfl
 i3:=by kernel_rfl
 i4:=by kernel_rfl
 i5:=by kernel_rfl
 i9:=by kernel_rfl
 i20:=by kernel_rfl
 i37:=by kernel_rfl
 i46:=by kernel_rfl
 i51:=by kernel_rfl
 i53:=by kernel_rfl
 i171:=by kernel_rfl
 i173:=by kernel_rfl
 i212:=by kernel_rfl
 i232:=by kernel_rfl
 i233:=by kernel_rfl
 m17:=by kernel_rfl
 m18:=by kernel_rfl
 m19:=by kernel_rfl }
open Go.RowKit Go.Sort Go.Lib in
theorem strconv_Itoa (n:Int) (h0:-9223372036854775808<=n) (h1:n<=9223372036854775807) (w:World) (htab:Lib.TabIs prog w "internal/strconv.uint64pow10" .u64 Lib.pow10Tab) :
  Calls prog 260 #[.int .i64 n] w fun e w'=>e = .returned (.string ⟨(Lib.itoa n).toArray⟩)/\∃ k os,w'=grow (w.drewN k) os:=Any.strconv_Itoa laysM171 n h0 h1 w htab
def lays212_ren:Go.Shelf.Ren:=⟨fun | 212=>117 | 263=>160 | 264=>161|n=>n,fun | 46=>180 | 51=>168 | 146=>260 | 53=>167 | 148=>262|n=>n,fun|n=>n⟩
theorem lays212:Go.Proofs.Lays.n212 prog lays212_ren:={
 mixed:=by kernel_rfl
 f212:=func117.trans (zM some (by kernel_rfl))
 f263:=func160.trans (zM some (by kernel_rfl))
 f264:=func161.trans (zM some (by kernel_rfl))
 t46:=underlying180
 a46:=isAgg180
 z46:=sizeOf180
 v46:=zeroValue180
 t51:=underlying168
 a51:=isAgg168
 z51:=sizeOf168
 v51:=zeroValue168
 t53:=underlying167
 a53:=isAgg167
 z53:=sizeOf167
 v53:=zeroValue167
 t146:=underlying260
 a146:=isAgg260
 z146:=sizeOf260
 v146:=zeroValue260
 t148:=underlying262
 a148:=isAgg262
 z148:=sizeOf262
 v148:=zeroValue262 }
open Go.RowKit Go.Lib in
theorem bits_Mul (x y:Nat) (hx:x<18446744073709551616) (hy:y<18446744073709551616) (w:World) :
  Calls prog 117 #[.int .u64 x,.int .u64 y] w fun e w'=>e = .returned (.tuple #[.int .u64 ((x*y/18446744073709551616:Nat):Int),.int .u64 ((x*y%18446744073709551616:Nat):Int)])/\w'=w:=Any.bits_Mul lays212 x y hx hy w
end Go.Proofs
namespace Go.Proofs.YtlcfiilejnnlnaaGreatDoor
open Tryz
section
open Go.RowKit Go.Shelf Go.Sort
theorem ck4 {w w':World} (he:Ex w w') {P:Program} {n:String} {cs:Array Value} (h:w.var? P n=some cs):w'.var? P n=some cs:=by
 unfold World.var? at h ⊢
 cases hg:P.globalNamed n with
 | none=>simp [hg] at h
 | some g=>
  simp only [hg,Option.bind_some] at h ⊢;have hlt:g<w.heap.size:=by
   rcases wU g w.heap.size with h' | h'
   ·exact h'
   ·simp [wQ h'] at h
  rw [he.block g hlt];exact h
theorem Pow10.ex {w w':World} (h:Pow10 w) (he:Ex w w'):Pow10 w':=ck4 he h
theorem cf1 (w:World) (k:Nat) (os:Array Obj):Ex w (grow (w.drewN k) os):=
 ⟨rfl,rfl,rfl,by simp [grow,Array.size_append],fun b hb _=>by
  show (w.heap++os)[b]?=_;rw [vV hb]⟩
theorem bF9 (n:Int) (hn:I64 n):(Lib.itoa n).length<=intB n:=by
 unfold intB;split
 ·by_cases hneg:n<0
  ·obtain⟨u,rfl⟩:∃ u:Nat,n = -(u:Int):=⟨n.natAbs,by omega⟩
   rw [Lib.itoa_neg u (by omega),List.length_cons,Lib.decDigits_length];have:=aP5 u (by omega);omega
  ·obtain⟨u,rfl⟩:∃ u:Nat,n=u:=⟨n.toNat,by omega⟩
   rw [Lib.itoa_nonneg,Lib.decDigits_length];have:=aP5 u (by omega);omega
 ·exact Lib.itoa_length_le n hn.1 hn.2
theorem bP5 (n:Int) (hn:I64 n) (w:World) (hp:Pow10 w) :
  Calls prog 260 #[.int .i64 n] w fun e w'=>∃ s:ByteArray,e = .returned (.string s)/\s.size<=intB n/\Ex w w':=by
 refine (strconv_Itoa n hn.1 hn.2 w hp).mono ?_;rintro e w' ⟨rfl,k,os,rfl⟩;refine⟨_,rfl,?_,cf1 w k os⟩;have:=bF9 n hn
 simpa [ByteArray.size] using this
def RAny (x:Int ⊕ ByteArray) (vs:List Value):Prop:=
 match x with
 | .inl n=>vs=[.iface 3 (.int .i64 n)]/\I64 n
 | .inr s=>vs=[.iface 9 (.string s)]
def au0:Int ⊕ ByteArray->Nat
 | .inl n=>1+intB n
 | .inr s=>1+s.size
def ac0 (l:List (Int ⊕ ByteArray)):Nat:=(l.map au0).sum
theorem bk6 (l:List (Int ⊕ ByteArray)) (j:Nat) (x:Int ⊕ ByteArray) (h:l[j]?=some x):ac0 (l.take (j+1))=ac0 (l.take j)+au0 x:=by
 simp [ac0,xC,h,vO]
theorem bf2 (l:List (Int ⊕ ByteArray)):∀ j,ac0 (l.take j)<=ac0 l:=by
 induction l with
 | nil=>intro j;simp [ac0]
 | cons x l ih=>
  intro j
  cases j with
  | zero=>simp [ac0]
  | succ j=>have:=ih j;simp only [ac0,List.take_succ_cons,List.map_cons,List.sum_cons] at *;omega
theorem Wrote.ex {w wr w':World} {b n n':Nat} {O:Option Nat} (he:Ex w wr) (hb:Bld wr w.heap.size b n O) (hw:Wrote wr w' w.heap.size b n' O):Ex w w':=by
 obtain⟨hk,_⟩:=hw;obtain⟨l,p,v,_,_,hB,_,hown,hO,_⟩:=hb;refine⟨hk.os.trans (Keep.os he),hk.tape.trans (Keep.tape he),hk.output.trans (Keep.output he),xH he.size hk.size,fun x hx _=>?_⟩;rw [hk.block x (yI hx he.size) ?_]
 ·exact he.block x hx
 ·rintro (rfl|h)
  ·omega
  ·have:=(hown.lt x (by rw [hO,h])).1;omega
theorem Wrote.bld {w w':World} {B b n:Nat} {O:Option Nat} (hw:Wrote w w' B b n O):∃ O',Bld w' B b n O':=by obtain⟨_,O',h,_⟩:=hw;exact⟨O',h⟩
theorem bJ9 {w w':World} {F:Nat->Prop} {xs:List (Int ⊕ ByteArray)} {a:Option Addr} {cap:Nat} (h:Row 1 RAny w F xs a cap) (hex:Same F w w') {i:Nat} (hi:i<xs.length) :
  ∃ x b off v,Hid (xs[i]?=some x)/\a=some ⟨b,off,none⟩/\F b/\w'.cell? ⟨b,off+i,none⟩=some v/\Hid (RAny x [v]):=by
 obtain⟨b,off,ha,hb,vs,hl,hr,hc⟩:=h.at_ i xs[i] (zD hi);obtain⟨v,rfl⟩:∃ v,vs=[v]:=by
  match vs,hl with
  | [v],_=>exact⟨v,rfl⟩
 exact⟨xs[i],b,off,v,Lib.hid (zD hi),ha,hb,hex.cell (p:=⟨b,off+i,none⟩) (by have:=hc 0 _ rfl;simpa using this) hb,hr⟩
theorem cv9 (q:Int) (w:World):(Instr.typeAssert (.iface 3 (.int .i64 q)) 20 3 true).run prog w = .ok (.tuple #[.int .i64 q,.bool true]) w:=by kernel_rfl
theorem cv8 (q:ByteArray) (w:World):(Instr.typeAssert (.iface 9 (.string q)) 20 3 true).run prog w = .ok (.tuple #[.int .i64 0,.bool false]) w:=by kernel_rfl
theorem cv7 (q:ByteArray) (w:World):(Instr.typeAssert (.iface 9 (.string q)) 20 9 true).run prog w = .ok (.tuple #[.string q,.bool true]) w:=by kernel_rfl
theorem ba3 (word:ByteArray) (items:List (Int ⊕ ByteArray)) (w:World) {F:Nat->Prop} {a:Option Addr} {cap:Nat} (h:Row 1 RAny w F items a cap) (hp:Pow10 w) (hl:items.length<=1000000) (hm:word.size+ac0 items<=1000000000) :
  Calls prog 234 #[.string word,.slice a items.length cap] w fun e w'=>∃ s:ByteArray,e = .returned (.string s)/\s.size<=word.size+ac0 items+1/\Ex w w':=by
 have t1:=cv9;have t2:=cv8;have t3:=cv7;have hbd:=Bld.fresh w w.heap.size (zT _)
 go_enter func234,ntmps234
 go_wp2_with (go_at_call 163;refine (al3 hbd _ (by omega)).mono ?_;rintro e w1 ⟨rfl,hwr⟩)
 have hex:=Wrote.ex (Ex.refl w).alloc hbd hwr;obtain⟨O,hbd1⟩:=hwr.bld;clear hwr hbd;rw [xD] at hbd1
 go_wp2
 go_loopw [14] (fun i wr=>∃ (j n:Nat) (O:Option Nat),j<=items.length/\i = .int .i64 j/\Ex w wr/\Bld wr w.heap.size w.heap.size n O/\n<=word.size+ac0 (items.take j)) (fun i _=>items.length-(intOf i).toNat)
 case atStart=>exact⟨0,_,O,by omega,rfl,hex,hbd1,by simp [ac0]⟩
 case round=>
  obtain⟨j,n,O',hj,rfl,hex',hbd,hn⟩:=hrel;clear hex hbd1;have hle:=bf2 items j;by_cases hlt:j<items.length
  ·obtain⟨x,b,off,v,hx,rfl,_,c0,hr⟩:=bJ9 h hex'.same hlt;have Ht:=Lib.hid (bk6 items j x hx.out);have hle1:=bf2 items (j+1);have Hle1:=Lib.hid hle1;clear hle1
   cases x with
   | inl q=>
    obtain⟨hv,hq⟩:=hr.out
    cases hv
    clear hr;have hsum:n+1+intB q<=1000000000:=by have h1:=Ht.out;have h2:=Hle1.out;simp only [au0] at h1;omega
    go_wp2_with fail
    refine (aM6 hbd (by omega)).mono ?_;rintro e w1 ⟨rfl,hwr⟩;have hex1:=Wrote.ex hex' hbd hwr;obtain⟨O1,hbd1⟩:=hwr.bld;clear hwr c0
    go_wp2_with fail
    refine (bP5 q hq _ (hp.ex hex1)).mono ?_;rintro e w2 ⟨s,rfl,hs,he2⟩;have hbd2:=hbd1.ex he2;have hex2:=hex1.trans he2;clear hbd1 he2
    go_wp2_with fail
    refine (al3 hbd2 s (by omega)).mono ?_;rintro e w3 ⟨rfl,hwr⟩;have hex3:=Wrote.ex hex2 hbd2 hwr;obtain⟨O3,hbd3⟩:=hwr.bld;clear hwr hbd2
    go_wp2
    go_roundw
    case rel=>exact⟨j+1,_,O3,by omega,by go_num,hex3,hbd3,by have h1:=Ht.out;simp only [au0] at h1;omega⟩
    case measure=>simp [intOf];omega
   | inr q=>
    have hv:=hr.out
    cases hv
    clear hr;have hsum:n+1+q.size<=1000000000:=by have h1:=Ht.out;have h2:=Hle1.out;simp only [au0] at h1;omega
    go_wp2_with fail
    refine (aM6 hbd (by omega)).mono ?_;rintro e w1 ⟨rfl,hwr⟩;have hex1:=Wrote.ex hex' hbd hwr;obtain⟨O1,hbd1⟩:=hwr.bld;clear hwr c0
    go_wp2_with fail
    refine (al3 hbd1 q (by omega)).mono ?_;rintro e w3 ⟨rfl,hwr⟩;have hex3:=Wrote.ex hex1 hbd1 hwr;obtain⟨O3,hbd3⟩:=hwr.bld;clear hwr hbd1
    go_wp2
    go_roundw
    case rel=>exact⟨j+1,_,O3,by omega,by go_num,hex3,hbd3,by have h1:=Ht.out;simp only [au0] at h1;omega⟩
    case measure=>simp [intOf];omega
  ·have hj':items.take j=items:=yL (by omega);rw [hj'] at hn;clear hj';obtain⟨l,p,v,hl',hpp,hB,hbk,hown,hO,hne⟩:=hbd;have hib:Lib.IsBuilder 266 5 w.heap.size w.heap.size (Lib.byteCells l) wr:=by
    rcases hpp with rfl|rfl
    ·exact .inl ⟨hB,v,hbk,by rw [an2];exact hown,by rw [hO];exact hne⟩
    ·exact .inr ⟨hB,v,hbk,by rw [an2];exact hown,by rw [hO];exact hne⟩
   have HSt:=Lib.hid (Builder_String_any w.heap.size w.heap.size l wr hib (by have:=hex'.size;omega));have HL:=Lib.hid hl';clear hbk hown hO hib hpp hl';have hsz:l.length<=1000000000:=by have:=HL.out;omega
   go_wp2_with fail
   refine HSt.out.mono ?_;rintro e w2 ⟨rfl,hb2⟩;have hex2:Ex w w2:=pA0 ⟨hb2.os.trans (Keep.os hex'),hb2.tape.trans (Keep.tape hex'),hb2.output.trans (Keep.output hex'),xH hex'.size hb2.size,fun k hk=>(hb2.block k hk).trans (hex'.block k hk)⟩;have hss:(⟨l.toArray⟩:ByteArray).size=l.length:=by simp [ByteArray.size]
   generalize (⟨l.toArray⟩:ByteArray)=st at hss ⊢;have HSS:=Lib.hid hss;have hst:st.size<=1000000000:=by omega
   clear hss
   go_wp2
   go_ret
   refine⟨_,rfl,?_,hex2⟩;rw [yU,HSS.out];have:=HL.out
   show l.length+1<=_;omega
end
end Go.Proofs.YtlcfiilejnnlnaaGreatDoor
