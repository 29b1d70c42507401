/- A part of the proof. -/
import Derived.Test.YtilnpcolgcmofaaGreatDoorC03
import Derived.Deep.OwnRows
set_option maxRecDepth 100000
set_option maxHeartbeats 20000000
set_option linter.all false
namespace Go.Proofs.YtilnpcolgcmofaaGreatDoor
open Tryz
section
open Go Go.RowKit Go.Shelf
section
variable {P:Program} {r:Option Nat} {n:Nat} {df:Nat} {ops:Array Oper} {Q:fG} {a:List D} {σ:ae} {w:World} {X:Nat->Prop} {ρ:Operand->D}
def bD8(s:ByteArray)(j:Nat):s[j]?=(bytes s)[j]?:=by
 unfold bytes;by_cases h:j<s.size
 .have a:j<s.data.toList.length:=by simpa using h
  rw[zD a,getElem?_pos s j h]
  rfl
 .have a:¬j<s.data.toList.length:=by simpa using h
  rw[List.getElem?_eq_none (by omega),getElem?_neg s j h]
variable{o:Oper}{t:TypeId}{x:Operand}{s:ByteArray}{k:IntKind}{j:Int}{i:TI}
def ai9{T:TypeId->Option TI}(q:∀t i,T t=some i->aH P t=some i){a:Operand}{c:UInt8}(b:o.op= .index t x a)(hx:ρ x= .v (.string s))(m:ρ a= .v (.int k j))(e:T t=some i)(l:i.str=true)
  (n:(bytes s)[j.toNat]?=some c) (z:0<=j):Yd P o ρ σ (.v (.int .u8 c.toNat)):=by
 intro w X η h f;obtain⟨dst,op,B,pos,A,g⟩:=o;simp only at b;subst b;have y:=(h x (by simp[Op.operands])).val hx;have r:=(h a (by simp[Op.operands])).val m;have d:=qj (q t i e) l;refine ev (s:=Instr.index t (η x) (η a)) (u:=.int .u8 c.toNat) ?_ (Ex.refl w) (.v _);rw[y,r];have p:s[j.toNat]?=some c:=by rw[bD8];exact n
 simp only[Instr.index,asIntOf,Sem.run_bind,Sem.run_pure,Result.andThen,run_underlying d,if_pos z,p]
variable{y:Operand}
def aj2{T:TypeId->Option TI}(l:∀t i,T t=some i->aH P t=some i)(a:o.op= .slice t x none (some y) none)(hx:ρ x= .v (.string s))(f:ρ y= .v (.int k j))(c:T t=some i)(e:i.str=true)
  (p:0<=j/\j<=s.size):Yd P o ρ σ (.v (.string (s.extract 0 j.toNat))):=by
 intro w X η h d;obtain⟨dst,op,r,pos,q,g⟩:=o;simp only at a;subst a;have n:=(h x (by simp[Op.operands])).val hx;have m:=(h y (by simp[Op.operands])).val f;have b:=qj (l t i c) e;refine ev (s:=Instr.sliceAt t (η x) ((none:Option Operand).map η) ((some y).map η) ((none:Option Operand).map η)) (u:=.string (s.extract 0 j.toNat)) ?_ (Ex.refl w) (.v _);rw[n];simp[Instr.sliceAt,run_underlying b,Result.andThen,Instr.slice,Instr.sliceBounds,Instr.sliceBound,m,asIntOf,p]
def xG:=@List.mem_of_mem_take
def ai8{T:TypeId->Option TI}(N:∀t i,T t=some i->aH P t=some i){k:Nat}{xs:List (List D)}{n:IntKind}{p:Nat×Bool×Nat×Nat}(f:o.op= .slice t x none (some y) none)(hx:ρ x= .sl k xs)(L:ρ y= .v (.int n j))(F:T t=some i)(H:i.sl=some p)
  (R:0<=j/\j<=xs.length):Yd P o ρ σ (.sl k (xs.take j.toNat)):=by
 intro w X η b G;obtain⟨dst,op,V,pos,U,g⟩:=o;simp only at f;subst f;obtain⟨e,W,r,S⟩:=p;have m:=b x (by simp[Op.operands]);rw[hx]at m;have Q:=(b y (by simp[Op.operands])).val L;obtain⟨E,z,_⟩:=sq (N t i F) H;have A:=(sj z w).2;obtain⟨a,c,vs,C,l,K,M,I⟩:=m.sl_inv;have d:j<=c:=by omega
 refine ev (s:=Instr.sliceAt t (η x) ((none:Option Operand).map η) ((some y).map η) ((none:Option Operand).map η)) (u:=.slice a j.toNat c) ?_ (Ex.refl w) ?_
 .rw[C];have e0:(if c=0 then a else a.map (·.add (0*r)))=a:=by
   split
   .rfl
   .cases a<;>simp[Addr.add]
  simp[Instr.sliceAt,run_underlying E,Result.andThen,Instr.slice,Instr.sliceBounds,Instr.sliceBound,Q,asIntOf,R.1,d,A]at e0⊢;exact e0
 .have J:(xs.take j.toNat).length=j.toNat:=by simp;omega
  have:=Rd.sl (w:=w) (O:=ay σ X) k (xs.take j.toNat) a c vs (by omega) (λy B=>K y (xG B)) (λq y h=>M q y (by
   rw[yX]at h;split at h
   .exact h
   .cases h)) (λq y h=>I q y (by
   rw[yX]at h;split at h
   .exact h
   .cases h))
  rw[J]at this;exact this
def Of{f:FuncId}{cap:Array Operand}(a:o.op= .makeFunc (.func f) #[] cap):Yd P o ρ σ (.clo f (cap.toList.map ρ)):=by
 intro w X η h t;obtain⟨dst,op,y,pos,b,g⟩:=o;simp only at a;subst a;have:=lN (w:=w) (O:=ay σ X) (ρ:=ρ) (η:=η) cap.toList (λx hx=>h x (by simp[Op.operands];simpa using hx));have r:=Rd.clo (w:=w) (O:=ay σ X) f _ _ this.len this.at_;refine ev (s:=Instr.makeFunc (.func f) ((#[]:Array Operand).map η) (cap.map η)) (w':=w) ?_ (Ex.refl w) r;rw[show(List.map η cap.toList).toArray=Array.map η cap by apply wJ;simp];simp[Instr.makeFunc]
def Zy{p:Prop}(h:p:=by
 intro w X η hη hst;obtain⟨dst,op,ty,pos,aft,g⟩:=o;simp only at ho;subst ho;have h1:=(hη x (by simp[Op.operands,Call.operands])).val hx;have h2:=(hη y (by simp[Op.operands,Call.operands])).val hy;simp only[execOp,resolve,invoke,builtin,Sem.run_bind,Sem.run_pure,Result.andThen,vD,List.map_cons,List.map_nil,h1,h2];exact⟨Ex.refl w,.v _⟩):p:=h
variable{ts:Array TypeId}
def am9{p q:Int}(ho:o.op= .call { callee:=.builtin .min,args:=#[x,y],argTypes:=ts })(hx:ρ x= .v (.int k p))(hy:ρ y= .v (.int k q)):Yd P o ρ σ (.v (.int k (if q<p then q else p))):=Zy
def an0{p q:Int}(ho:o.op= .call { callee:=.builtin .max,args:=#[x,y],argTypes:=ts })(hx:ρ x= .v (.int k p))(hy:ρ y= .v (.int k q)):Yd P o ρ σ (.v (.int k (if p<q then q else p))):=Zy
def yy{T:TypeId->Option TI}(H:∀t i,T t=some i->aH P t=some i){g:List Oper}{e:TypeId}{j:TI}{ag:Bool}{d m:Nat}{z:ZV}(R:gK ops a o=some true)(G:o.op= .makeSlice t x y)(hx:iy a x= .v (.int .i64 m))(N:iy a y= .v (.int .i64 m))
  (U:T t=some i) (W:i.sl=some (e,ag,1,d)) (Y:T e=some j) (E:j.zero=[z]) (F:j.size=1) (u:d*m<=281474976710656) (hm:m<=1000000000)
  (k:∀b,bW P r n df ops Q g (aK a o.dst (.v (.slice (some ⟨b,0,none⟩) m m))) ((b,.cells e (List.replicate m (.v (zv z))))::σ)):bW P r n df ops Q (o::g) a σ:=by
 refine nc R (by rw[G];rfl) λw X J c=>?_;have h1:=(c.fr.eval x).val hx;have Z:=(c.fr.eval y).val N;obtain⟨S,V,B⟩:=sq (H t i U) W;obtain⟨f,l,D,M,L,K⟩:=sS (H e j Y) (by rw[E,F];rfl) (by omega);have A:l.cells= #[zv z]:=by apply wJ;rw[K,E];rfl
 have C:f.bytes=d:=by rw[←B];simp[Program.bytesOf,D]
 have p:=run_make (P:=P) w t e f l S D M .i64 .i64 m m (by omega) (Int.le_refl _) (by rw[C];have h:((d*m:Nat):Int)<=281474976710656:=(by omega);rwa [Int.natCast_mul]at h) (by omega);have s:(madeCells l.cells ((m:Int).toNat*f.size)).toList=List.replicate m (zv z):=by
  rw[A,L,F,Nat.mul_one,Int.toNat_natCast];apply xY;intro q;by_cases hq:q<m
  .simp[madeCells,hq,Nat.mod_one]
  .simp[madeCells,hq]
 have ee:(execOp J.eval o).run P w= .ok (.value (.slice (some ⟨w.heap.size,0,none⟩) m m)) (w.alloc (.cells (madeCells l.cells ((m:Int).toNat*f.size)) e)):=by
  simp only[execOp,G,Sem.run_bind,h1,Z,p,Result.andThen,Sem.run_pure,Int.toNat_natCast]
 rw[ee];obtain⟨g1,g2,I⟩:=c.st.new (.cells (madeCells l.cells ((m:Int).toNat*f.size)) e) (.cells e (List.replicate m (.v (zv z)))) ⟨_,by rw[Array.toArray_toList],by rw[s];have:=My (w:=w) (O:=ay σ X) (List.replicate m (zv z));rw[List.map_replicate]at this;exact this⟩;exact⟨_,_,g2,(⟨c.fr.keep (by simp) I (λb u _=>((Ex.refl w).alloc).block b u),g1,c.df.keep (by simp) I (λb u _=>((Ex.refl w).alloc).block b u)⟩:St _ X df a _ J).put (.v _) o.dst,k _⟩
def YJ:Op->Bool
 |.store _ _ _=>true
 |.alloc _=>true
 |.makeSlice _ _ _=>true
 |.makeMap _ _=>true
 |.mapUpdate _ _ _ _=>true
 |.mapEntry _ _ _=>true
 |.entryStore _ _ _ _=>true
 |.call { callee:=.builtin .append,.. }=>true
 |.call { callee:=.builtin .copy,.. }=>true
 |_=>false
def EN:List Oper->Option Nat
 |[]=>none
 |o::l=>bif YJ o.op then some 0 else(match EN l with|some m=>some (m+1)|none=>none)
end
end
section
open Go Go.RowKit Go.Shelf
section
variable {P:Program} {r:Option Nat} {n:Nat} {df:Nat} {ops:Array Oper} {Q:fG} {a:List D} {σ:ae} {w:World} {X:Nat->Prop} {ρ:Operand->D}
variable{τ:ae}
def aN2(h:σ.Perm τ)(b:Nat):ay σ X b↔ay τ X b:=by
 have:b∈aT σ↔b∈aT τ:=(h.map Prod.fst).mem_iff;simp only[ay,this]
def aW.perm(h:σ.Perm τ)(s:aW w X σ):aW w X τ:=
 ⟨(h.map Prod.fst).nodup_iff.1 s.nodup,λb k m=>by
  obtain⟨e,o,d,c⟩:=s.at_ b k (h.mem_iff.2 m);exact⟨e,o,d,tK (zT _) (λx _ n=>by rw[←aN2 h];exact n) (λ_ _ _=>rfl) c⟩,s.xlt,s.gok.mono (λx a=>(aN2 h x).2 a)⟩
variable{fr:Act}
def St.perm(h:σ.Perm τ)(s:St w X df a σ fr):St w X df a τ fr:=
 ⟨s.fr.keep (zT _) (λx _ n=>by rw[←aN2 h];exact n) (λ_ _ _=>rfl),s.st.perm h,s.df.keep (zT _) (λx _ n=>by rw[←aN2 h];exact n) (λ_ _ _=>rfl)⟩
def Pw.perm(h:σ.Perm τ){e:Exit}{w':World}(p:Pw w X df τ Q e fr w'):Pw w X df σ Q e fr w':=by
 obtain⟨d,s,c,b,a⟩:=p;have k:∀x,x∈aT τ->x∈aT σ:=λx hx=>(h.map Prod.fst).mem_iff.2 hx;exact⟨d,s,c,b,⟨a.keep.mono (λx _ hx=>k x hx),λx hx=>(a.new x hx).imp (k x) id⟩⟩
def FJ{l:List Oper}(h:σ.Perm τ)(k:bW P r n df ops Q l a τ):bW P r n df ops Q l a σ:=
 ⟨λw X f s=>K7 (λ_ _ _ p=>Pw.perm h p) _ _ _ (k.run w X f (s.perm h))⟩
end
end
section
open Go
abbrev TO:=Option TI
def QE{t n:Nat}(h:¬t<n):Nat.blt t n=false:=by
 rw[Bool.eq_false_iff];intro b;rw[wT]at b;exact h b
def g8:TO:=some ⟨false,1,[],none,none,[],false⟩
def aY:TO:=some ⟨false,1,[],none,none,[.fn],false⟩
def tt2:TO:=some ⟨false,1,[],none,none,[.int .i64],false⟩
def tt3:TO:=some ⟨false,1,[],none,none,[.bool],false⟩
def tt4:TO:=some ⟨false,1,[],none,none,[.int .u8],false⟩
def tt5:TO:=some ⟨true,4,[(0,false,1),(1,false,1),(2,false,1),(3,false,1)],none,none,[.int .i64,.int .i64,.bool,.int .u8],false⟩
def tt6:TO:=some ⟨false,1,[],none,none,[.str],true⟩
def tt7:TO:=some ⟨false,1,[],none,none,[.int .u64],false⟩
def tt8:TO:=some ⟨true,2,[(0,false,1),(1,false,1)],none,none,[.str,.int .u64],false⟩
def RG:TO:=some ⟨false,1,[],none,none,[.ptr],false⟩
def SZ:TO:=some ⟨true,1,[(0,false,1)],none,none,[.ptr],false⟩
def AW:TO:=some ⟨false,1,[],none,none,[.ifc],false⟩
def Oz:TO:=some ⟨false,1,[],none,none,[.int .i32],false⟩
def bp0:TO:=some ⟨false,1,[],some (3,false,1,8),none,[.sl],false⟩
def bo9:TO:=some ⟨false,1,[],some (78,true,4,56),none,[.sl],false⟩
def bo8:TO:=some ⟨false,1,[],some (93,true,3,64),none,[.sl],false⟩
def bo7:TO:=some ⟨false,1,[],some (96,true,5,72),none,[.sl],false⟩
def SY:TO:=some ⟨true,4,[(0,false,1),(1,false,1),(2,false,1),(3,false,1)],none,none,[.int .i64,.sl,.sl,.sl],false⟩
def bo6:TO:=some ⟨false,1,[],some (150,true,5,56),none,[.sl],false⟩
def Hz:TO:=some ⟨true,3,[(0,false,1),(1,false,1),(2,false,1)],none,none,[.str,.sl,.sl],false⟩
def SX:TO:=some ⟨false,1,[],some (70,false,1,24),none,[.sl],false⟩
def bo5:TO:=some ⟨false,1,[],some (33,false,1,24),none,[.sl],false⟩
def bo4:TO:=some ⟨false,1,[],some (27,true,4,80),none,[.sl],false⟩
def bo3:TO:=some ⟨false,1,[],some (107,true,4,32),none,[.sl],false⟩
def bo2:TO:=some ⟨false,1,[],some (108,true,4,32),none,[.sl],false⟩
def bo1:TO:=some ⟨true,3,[],none,some (3,false,1),[.int .i64,.int .i64,.int .i64],false⟩
def bo0:TO:=some ⟨false,1,[],some (83,true,4,32),none,[.sl],false⟩
def bn9:TO:=some ⟨false,1,[],some (50,false,1,24),none,[.sl],false⟩
def Oy:TO:=some ⟨true,3,[(0,false,1),(1,false,1),(2,false,1)],none,none,[.bool,.int .i64,.int .i64],false⟩
def SW:TO:=some ⟨false,1,[],some (136,true,4,32),none,[.sl],false⟩
def SV:TO:=some ⟨true,1,[(0,false,1)],none,none,[.sl],false⟩
def bn8:TO:=some ⟨false,1,[],some (49,true,3,24),none,[.sl],false⟩
def bn7:TO:=some ⟨false,1,[],some (22,false,1,24),none,[.sl],false⟩
def bn6:TO:=some ⟨false,1,[],some (81,true,8,120),none,[.sl],false⟩
def SU:TO:=some ⟨true,4,[(0,false,1),(1,false,1),(2,false,1),(3,false,1)],none,none,[.str,.int .i64,.int .i64,.sl],false⟩
def bn5:TO:=some ⟨false,1,[],some (9,false,1,16),none,[.sl],false⟩
def SS:TO:=some ⟨true,8,[(0,false,1),(1,false,1),(2,false,1),(3,false,1),(4,false,1),(5,false,1),(6,false,1),(7,false,1)],none,none,[.str,.str,.str,.int .i64,.int .i64,.int .i64,.sl,.sl],false⟩
def nu:TO:=some ⟨true,4,[(0,false,1),(1,false,1),(2,false,1),(3,false,1)],none,none,[.int .i64,.int .i64,.int .i64,.int .i64],false⟩
def SR:TO:=some ⟨true,2,[(0,false,1),(1,false,1)],none,none,[.sl,.int .i64],false⟩
def bn4:TO:=some ⟨false,1,[],some (94,true,2,16),none,[.sl],false⟩
def bn3:TO:=some ⟨true,2,[],none,some (2,false,1),[.int .i64,.int .i64],false⟩
def bn2:TO:=some ⟨true,5,[(0,false,1),(1,false,1),(2,false,1),(3,false,1),(4,false,1)],none,none,[.str,.str,.str,.str,.int .i64],false⟩
def Hy:TO:=some ⟨false,1,[],none,none,[.map],false⟩
def bn1:TO:=some ⟨false,1,[],some (124,true,3,24),none,[.sl],false⟩
def SQ:TO:=some ⟨true,9,[(0,true,4),(4,false,1),(5,false,1),(6,false,1),(7,false,1),(8,false,1)],none,none,[.int .i64,.sl,.sl,.sl,.sl,.sl,.map,.map,.sl],false⟩
def Hx:TO:=some ⟨true,3,[(0,false,1),(1,false,1),(2,false,1)],none,none,[.int .i64,.int .i64,.int .i64],false⟩
def bn0:TO:=some ⟨false,1,[],some (128,true,4,32),none,[.sl],false⟩
def AV:TO:=some ⟨true,2,[(0,false,1),(1,false,1)],none,none,[.int .i64,.int .i64],false⟩
def bm9:TO:=some ⟨false,1,[],some (5,false,1,1),none,[.sl],false⟩
def SP:TO:=some ⟨true,5,[(0,false,1),(1,false,1),(2,false,1),(3,false,1),(4,false,1)],none,none,[.str,.str,.int .i64,.int .i64,.int .i64],false⟩
def bm8:TO:=some ⟨false,1,[],some (156,true,4,32),none,[.sl],false⟩
def bm7:TO:=some ⟨false,1,[],some (57,false,1,8),none,[.sl],false⟩
def bm6:TO:=some ⟨false,1,[],some (4,false,1,1),none,[.sl],false⟩
def bm5:TO:=some ⟨false,1,[],some (250,true,4,32),none,[.sl],false⟩
def bm4:TO:=some ⟨false,1,[],some (255,true,3,24),none,[.sl],false⟩
def SO:TO:=some ⟨true,2,[(0,false,1),(1,false,1)],none,none,[.bool,.int .i64],false⟩
def bm3:TO:=some ⟨true,1,[(0,false,1)],none,none,[.fn],false⟩
def SN:TO:=some ⟨true,14,[(0,true,4),(4,false,1),(5,false,1),(6,true,8)],none,none,[.int .i64,.sl,.sl,.sl,.int .i64,.int .i64,.str,.str,.str,.int .i64,.int .i64,.int .i64,.sl,.sl],false⟩
def SM:TO:=some ⟨true,12,[],none,some (12,false,1),[.bool,.bool,.bool,.bool,.bool,.bool,.bool,.bool,.bool,.bool,.bool,.bool],false⟩
def bm2:TO:=some ⟨true,8,[],none,some (8,false,1),[.int .i64,.int .i64,.int .i64,.int .i64,.int .i64,.int .i64,.int .i64,.int .i64],false⟩
def SL:TO:=some ⟨true,4,[(0,false,1),(1,false,1),(2,false,1),(3,false,1)],none,none,[.int .i64,.int .i64,.int .i64,.bool],false⟩
def Hw:TO:=some ⟨true,6,[(0,false,1),(1,false,1),(2,false,1),(3,false,1),(4,false,1),(5,false,1)],none,none,[.str,.sl,.int .i64,.int .i64,.int .i64,.int .i64],false⟩
def bm1:TO:=some ⟨false,1,[],some (211,true,2,16),none,[.sl],false⟩
def bm0:TO:=some ⟨true,4,[(0,false,1),(1,true,3)],none,none,[.str,.int .i64,.int .i64,.int .i64],false⟩
def bl9:TO:=some ⟨true,36,[],none,some (9,true,4),[.str,.int .i64,.int .i64,.int .i64,.str,.int .i64,.int .i64,.int .i64,.str,.int .i64,.int .i64,.int .i64,.str,.int .i64,.int .i64,.int .i64,.str,.int .i64,.int .i64,.int .i64,.str,.int .i64,.int .i64,.int .i64,.str,.int .i64,.int .i64,.int .i64,.str,.int .i64,.int .i64,.int .i64,.str,.int .i64,.int .i64,.int .i64],false⟩
def bl8:TO:=some ⟨true,2,[(0,false,1),(1,false,1)],none,none,[.ptr,.sl],false⟩
def bl7:TO:=some ⟨false,1,[],some (20,false,1,16),none,[.sl],false⟩
def bl6:TO:=some ⟨true,9,[],none,some (9,false,1),[.str,.str,.str,.str,.str,.str,.str,.str,.str],false⟩
def bl5:TO:=some ⟨true,16,[],none,some (16,false,1),[.int .u8,.int .u8,.int .u8,.int .u8,.int .u8,.int .u8,.int .u8,.int .u8,.int .u8,.int .u8,.int .u8,.int .u8,.int .u8,.int .u8,.int .u8,.int .u8],false⟩
def bl4:TO:=some ⟨true,32,[],none,some (32,false,1),[.int .u8,.int .u8,.int .u8,.int .u8,.int .u8,.int .u8,.int .u8,.int .u8,.int .u8,.int .u8,.int .u8,.int .u8,.int .u8,.int .u8,.int .u8,.int .u8,.int .u8,.int .u8,.int .u8,.int .u8,.int .u8,.int .u8,.int .u8,.int .u8,.int .u8,.int .u8,.int .u8,.int .u8,.int .u8,.int .u8,.int .u8,.int .u8],false⟩
def bl3:TO:=some ⟨true,24,[],none,some (24,false,1),[.int .u8,.int .u8,.int .u8,.int .u8,.int .u8,.int .u8,.int .u8,.int .u8,.int .u8,.int .u8,.int .u8,.int .u8,.int .u8,.int .u8,.int .u8,.int .u8,.int .u8,.int .u8,.int .u8,.int .u8,.int .u8,.int .u8,.int .u8,.int .u8],false⟩
def bl2:TO:=some ⟨false,1,[],none,none,[.int .u32],false⟩
def bl1:TO:=some ⟨true,8,[],none,some (8,false,1),[.int .u32,.int .u32,.int .u32,.int .u32,.int .u32,.int .u32,.int .u32,.int .u32],false⟩
def bl0:TO:=some ⟨true,64,[],none,some (64,false,1),[.int .u32,.int .u32,.int .u32,.int .u32,.int .u32,.int .u32,.int .u32,.int .u32,.int .u32,.int .u32,.int .u32,.int .u32,.int .u32,.int .u32,.int .u32,.int .u32,.int .u32,.int .u32,.int .u32,.int .u32,.int .u32,.int .u32,.int .u32,.int .u32,.int .u32,.int .u32,.int .u32,.int .u32,.int .u32,.int .u32,.int .u32,.int .u32,.int .u32,.int .u32,.int .u32,.int .u32,.int .u32,.int .u32,.int .u32,.int .u32,.int .u32,.int .u32,.int .u32,.int .u32,.int .u32,.int .u32,.int .u32,.int .u32,.int .u32,.int .u32,.int .u32,.int .u32,.int .u32,.int .u32,.int .u32,.int .u32,.int .u32,.int .u32,.int .u32,.int .u32,.int .u32,.int .u32,.int .u32,.int .u32],false⟩
def bk9:TO:=some ⟨true,20,[],none,some (20,false,1),[.int .u64,.int .u64,.int .u64,.int .u64,.int .u64,.int .u64,.int .u64,.int .u64,.int .u64,.int .u64,.int .u64,.int .u64,.int .u64,.int .u64,.int .u64,.int .u64,.int .u64,.int .u64,.int .u64,.int .u64],false⟩
def bk8:TO:=some ⟨true,65,[],none,some (65,false,1),[.int .u8,.int .u8,.int .u8,.int .u8,.int .u8,.int .u8,.int .u8,.int .u8,.int .u8,.int .u8,.int .u8,.int .u8,.int .u8,.int .u8,.int .u8,.int .u8,.int .u8,.int .u8,.int .u8,.int .u8,.int .u8,.int .u8,.int .u8,.int .u8,.int .u8,.int .u8,.int .u8,.int .u8,.int .u8,.int .u8,.int .u8,.int .u8,.int .u8,.int .u8,.int .u8,.int .u8,.int .u8,.int .u8,.int .u8,.int .u8,.int .u8,.int .u8,.int .u8,.int .u8,.int .u8,.int .u8,.int .u8,.int .u8,.int .u8,.int .u8,.int .u8,.int .u8,.int .u8,.int .u8,.int .u8,.int .u8,.int .u8,.int .u8,.int .u8,.int .u8,.int .u8,.int .u8,.int .u8,.int .u8,.int .u8],false⟩
def bk7:TO:=some ⟨true,64,[],none,some (64,false,1),[.int .u8,.int .u8,.int .u8,.int .u8,.int .u8,.int .u8,.int .u8,.int .u8,.int .u8,.int .u8,.int .u8,.int .u8,.int .u8,.int .u8,.int .u8,.int .u8,.int .u8,.int .u8,.int .u8,.int .u8,.int .u8,.int .u8,.int .u8,.int .u8,.int .u8,.int .u8,.int .u8,.int .u8,.int .u8,.int .u8,.int .u8,.int .u8,.int .u8,.int .u8,.int .u8,.int .u8,.int .u8,.int .u8,.int .u8,.int .u8,.int .u8,.int .u8,.int .u8,.int .u8,.int .u8,.int .u8,.int .u8,.int .u8,.int .u8,.int .u8,.int .u8,.int .u8,.int .u8,.int .u8,.int .u8,.int .u8,.int .u8,.int .u8,.int .u8,.int .u8,.int .u8,.int .u8,.int .u8,.int .u8],false⟩
def SK:TO:=some ⟨true,4,[(0,false,1),(1,false,1),(2,false,1),(3,false,1)],none,none,[.ptr,.ptr,.ptr,.str],false⟩
def bk6:TO:=some ⟨true,0,[],none,some (0,false,1),[],false⟩
def SJ:TO:=some ⟨true,0,[(0,true,0)],none,none,[],false⟩
def SI:TO:=some ⟨true,11,[(0,false,1),(1,false,1),(2,false,1),(3,false,1),(4,false,1),(5,false,1),(6,false,1),(7,false,1),(8,false,1),(9,false,1),(10,false,1)],none,none,[.int .u64,.int .u64,.int .u32,.int .u8,.int .u8,.int .u8,.int .u8,.fn,.ptr,.int .i32,.int .i32],false⟩
def A2(t:Nat):TO:=bif Nat.blt t 399 then(bif Nat.blt t 199 then(bif Nat.blt t 99 then(bif Nat.blt t 49 then(bif Nat.blt t 24 then(bif Nat.blt t 12 then(bif Nat.blt t 6 then(bif Nat.blt t 3 then(bif Nat.blt t 1 then(g8)else(bif Nat.blt t 2 then(aY)else(tt2)))else(bif Nat.blt t 4 then(tt2)else(bif Nat.blt t 5 then(tt3)else(tt4))))else(bif Nat.blt t 9 then(bif Nat.blt t 7 then(tt4)else(tt5))else(tt6)))else(bif Nat.blt t 18 then(bif Nat.blt t 15 then(bif Nat.blt t 13 then(tt7)else(tt8))else(RG))else(bif Nat.blt t 21 then(bif Nat.blt t 19 then(SZ)else(bif Nat.blt t 20 then(SZ)else(AW)))else(bif Nat.blt t 22 then(Oz)else(bif Nat.blt t 23 then(bp0)else(bo9))))))else(bif Nat.blt t 36 then(bif Nat.blt t 30 then(bif Nat.blt t 27 then(bif Nat.blt t 25 then(bo8)else(bif Nat.blt t 26 then(bo7)else(SY)))else(bif Nat.blt t 28 then(SY)else(bif Nat.blt t 29 then(aY)else(bo6))))else(bif Nat.blt t 33 then(bif Nat.blt t 31 then(Hz)else(bif Nat.blt t 32 then(Hz)else(SX)))else(bif Nat.blt t 34 then(SX)else(bif Nat.blt t 35 then(g8)else(aY)))))else(bif Nat.blt t 42 then(bif Nat.blt t 39 then(bif Nat.blt t 37 then(aY)else(bif Nat.blt t 38 then(aY)else(bo5)))else(bif Nat.blt t 40 then(aY)else(bif Nat.blt t 41 then(bo4)else(aY))))else(bif Nat.blt t 45 then(bif Nat.blt t 43 then(bo3)else(bif Nat.blt t 44 then(aY)else(bo2)))else(aY)))))else(bif Nat.blt t 74 then(bif Nat.blt t 61 then(bif Nat.blt t 55 then(bif Nat.blt t 52 then(bif Nat.blt t 50 then(bo1)else(bif Nat.blt t 51 then(bo0)else(aY)))else(bif Nat.blt t 53 then(aY)else(bif Nat.blt t 54 then(bn9)else(aY))))else(bif Nat.blt t 58 then(bif Nat.blt t 56 then(Oy)else(bif Nat.blt t 57 then(Oy)else(tt2)))else(bif Nat.blt t 59 then(g8)else(bif Nat.blt t 60 then(aY)else(SW)))))else(bif Nat.blt t 67 then(bif Nat.blt t 64 then(bif Nat.blt t 62 then(SW)else(bif Nat.blt t 63 then(aY)else(Oy)))else(bif Nat.blt t 65 then(g8)else(aY)))else(bif Nat.blt t 70 then(bif Nat.blt t 68 then(SV)else(bif Nat.blt t 69 then(SV)else(bn8)))else(bif Nat.blt t 72 then(bif Nat.blt t 71 then(bn7)else(aY))else(aY)))))else(bif Nat.blt t 86 then(bif Nat.blt t 80 then(bif Nat.blt t 77 then(bif Nat.blt t 75 then(aY)else(bif Nat.blt t 76 then(aY)else(bn6)))else(bif Nat.blt t 78 then(SU)else(bif Nat.blt t 79 then(SU)else(bn5))))else(bif Nat.blt t 83 then(bif Nat.blt t 81 then(SS)else(bif Nat.blt t 82 then(SS)else(nu)))else(bif Nat.blt t 84 then(nu)else(aY))))else(bif Nat.blt t 92 then(bif Nat.blt t 89 then(bif Nat.blt t 87 then(aY)else(bif Nat.blt t 88 then(RG)else(SR)))else(bif Nat.blt t 90 then(SR)else(bif Nat.blt t 91 then(aY)else(bn4))))else(bif Nat.blt t 95 then(bif Nat.blt t 93 then(Hz)else(bif Nat.blt t 94 then(Hz)else(bn3)))else(bif Nat.blt t 97 then(bn2)else(bif Nat.blt t 98 then(g8)else(aY))))))))else(bif Nat.blt t 149 then(bif Nat.blt t 124 then(bif Nat.blt t 111 then(bif Nat.blt t 105 then(bif Nat.blt t 102 then(bif Nat.blt t 100 then(g8)else(aY))else(bif Nat.blt t 103 then(g8)else(aY)))else(bif Nat.blt t 108 then(bif Nat.blt t 106 then(aY)else(nu))else(bif Nat.blt t 109 then(nu)else(bif Nat.blt t 110 then(RG)else(g8)))))else(bif Nat.blt t 117 then(bif Nat.blt t 114 then(aY)else(bif Nat.blt t 115 then(Hy)else(aY)))else(bif Nat.blt t 120 then(bif Nat.blt t 118 then(aY)else(bif Nat.blt t 119 then(bn1)else(Hy)))else(bif Nat.blt t 122 then(bif Nat.blt t 121 then(Hy)else(SQ))else(bif Nat.blt t 123 then(SQ)else(Hx))))))else(bif Nat.blt t 136 then(bif Nat.blt t 130 then(bif Nat.blt t 127 then(bif Nat.blt t 125 then(Hx)else(bif Nat.blt t 126 then(bn0)else(aY)))else(bif Nat.blt t 128 then(nu)else(bif Nat.blt t 129 then(nu)else(aY))))else(aY))else(bif Nat.blt t 142 then(bif Nat.blt t 139 then(bif Nat.blt t 137 then(nu)else(bif Nat.blt t 138 then(aY)else(AV)))else(bif Nat.blt t 140 then(AV)else(bif Nat.blt t 141 then(g8)else(aY))))else(bif Nat.blt t 145 then(aY)else(bif Nat.blt t 147 then(bif Nat.blt t 146 then(g8)else(aY))else(bif Nat.blt t 148 then(bm9)else(aY)))))))else(bif Nat.blt t 174 then(bif Nat.blt t 161 then(bif Nat.blt t 155 then(bif Nat.blt t 152 then(bif Nat.blt t 150 then(SP)else(bif Nat.blt t 151 then(SP)else(aY)))else(bif Nat.blt t 153 then(aY)else(bif Nat.blt t 154 then(aY)else(bm8))))else(bif Nat.blt t 158 then(bif Nat.blt t 156 then(aY)else(bif Nat.blt t 157 then(nu)else(aY)))else(aY)))else(bif Nat.blt t 167 then(bif Nat.blt t 164 then(aY)else(bif Nat.blt t 165 then(bm7)else(bif Nat.blt t 166 then(aY)else(bm6))))else(bif Nat.blt t 170 then(aY)else(bif Nat.blt t 172 then(bif Nat.blt t 171 then(g8)else(aY))else(aY)))))else(bif Nat.blt t 186 then(bif Nat.blt t 180 then(aY)else(bif Nat.blt t 183 then(aY)else(bif Nat.blt t 184 then(AW)else(bif Nat.blt t 185 then(AW)else(AV)))))else(bif Nat.blt t 192 then(bif Nat.blt t 189 then(bif Nat.blt t 187 then(g8)else(aY))else(bif Nat.blt t 190 then(aY)else(bif Nat.blt t 191 then(g8)else(aY))))else(bif Nat.blt t 195 then(bif Nat.blt t 193 then(bm5)else(bif Nat.blt t 194 then(g8)else(aY)))else(aY)))))))else(bif Nat.blt t 299 then(bif Nat.blt t 249 then(bif Nat.blt t 224 then(bif Nat.blt t 211 then(bif Nat.blt t 205 then(bif Nat.blt t 202 then(bif Nat.blt t 200 then(aY)else(bif Nat.blt t 201 then(aY)else(g8)))else(bif Nat.blt t 203 then(aY)else(bif Nat.blt t 204 then(bm4)else(aY))))else(bif Nat.blt t 208 then(aY)else(bif Nat.blt t 209 then(aY)else(bif Nat.blt t 210 then(aY)else(SO)))))else(bif Nat.blt t 217 then(bif Nat.blt t 214 then(bif Nat.blt t 212 then(SO)else(bif Nat.blt t 213 then(aY)else(bm3)))else(bif Nat.blt t 215 then(g8)else(bif Nat.blt t 216 then(Hy)else(SN))))else(bif Nat.blt t 220 then(bif Nat.blt t 218 then(SN)else(bif Nat.blt t 219 then(g8)else(aY)))else(aY))))else(bif Nat.blt t 236 then(bif Nat.blt t 230 then(bif Nat.blt t 227 then(bif Nat.blt t 225 then(aY)else(bif Nat.blt t 226 then(aY)else(SM)))else(bif Nat.blt t 228 then(SM)else(aY)))else(bif Nat.blt t 233 then(aY)else(bif Nat.blt t 234 then(aY)else(bif Nat.blt t 235 then(aY)else(g8)))))else(bif Nat.blt t 242 then(aY)else(bif Nat.blt t 245 then(bif Nat.blt t 243 then(aY)else(bif Nat.blt t 244 then(bm2)else(aY)))else(aY)))))else(bif Nat.blt t 274 then(bif Nat.blt t 261 then(bif Nat.blt t 255 then(bif Nat.blt t 252 then(bif Nat.blt t 250 then(SL)else(bif Nat.blt t 251 then(SL)else(aY)))else(bif Nat.blt t 253 then(aY)else(bif Nat.blt t 254 then(aY)else(Hx))))else(bif Nat.blt t 258 then(bif Nat.blt t 256 then(Hx)else(bif Nat.blt t 257 then(g8)else(aY)))else(bif Nat.blt t 259 then(g8)else(bif Nat.blt t 260 then(aY)else(Hw)))))else(bif Nat.blt t 267 then(bif Nat.blt t 264 then(bif Nat.blt t 262 then(Hw)else(aY))else(bif Nat.blt t 265 then(aY)else(bif Nat.blt t 266 then(aY)else(Hw))))else(bif Nat.blt t 270 then(bif Nat.blt t 268 then(Hw)else(aY))else(bif Nat.blt t 272 then(aY)else(bif Nat.blt t 273 then(bm1)else(aY))))))else(bif Nat.blt t 286 then(bif Nat.blt t 280 then(aY)else(bif Nat.blt t 283 then(bif Nat.blt t 281 then(aY)else(bif Nat.blt t 282 then(aY)else(g8)))else(bif Nat.blt t 284 then(aY)else(bif Nat.blt t 285 then(aY)else(bm0)))))else(bif Nat.blt t 292 then(bif Nat.blt t 289 then(bif Nat.blt t 287 then(bl9)else(aY))else(aY))else(aY)))))else(bif Nat.blt t 349 then(bif Nat.blt t 324 then(bif Nat.blt t 311 then(bif Nat.blt t 305 then(bif Nat.blt t 302 then(bif Nat.blt t 300 then(g8)else(bif Nat.blt t 301 then(aY)else(AV)))else(bif Nat.blt t 303 then(AV)else(aY)))else(aY))else(bif Nat.blt t 317 then(bif Nat.blt t 314 then(aY)else(bif Nat.blt t 315 then(RG)else(bl8)))else(bif Nat.blt t 320 then(bif Nat.blt t 318 then(AW)else(bif Nat.blt t 319 then(AW)else(g8)))else(bif Nat.blt t 322 then(aY)else(bif Nat.blt t 323 then(bl7)else(aY))))))else(bif Nat.blt t 336 then(bif Nat.blt t 330 then(bif Nat.blt t 327 then(aY)else(bif Nat.blt t 328 then(g8)else(aY)))else(aY))else(bif Nat.blt t 342 then(bif Nat.blt t 339 then(bif Nat.blt t 337 then(g8)else(aY))else(aY))else(bif Nat.blt t 345 then(aY)else(bif Nat.blt t 347 then(bif Nat.blt t 346 then(aY)else(bl6))else(bif Nat.blt t 348 then(aY)else(RG)))))))else(bif Nat.blt t 374 then(bif Nat.blt t 361 then(bif Nat.blt t 355 then(bif Nat.blt t 352 then(bif Nat.blt t 350 then(aY)else(bl5))else(aY))else(bif Nat.blt t 358 then(bif Nat.blt t 356 then(aY)else(bif Nat.blt t 357 then(aY)else(RG)))else(aY)))else(bif Nat.blt t 367 then(bif Nat.blt t 364 then(bif Nat.blt t 362 then(aY)else(bif Nat.blt t 363 then(aY)else(bl4)))else(bif Nat.blt t 365 then(aY)else(bif Nat.blt t 366 then(aY)else(bl3))))else(bif Nat.blt t 370 then(bif Nat.blt t 368 then(tt7)else(aY))else(bif Nat.blt t 372 then(bif Nat.blt t 371 then(g8)else(aY))else(bif Nat.blt t 373 then(bl2)else(bl1))))))else(bif Nat.blt t 386 then(bif Nat.blt t 380 then(bif Nat.blt t 377 then(bif Nat.blt t 375 then(aY)else(bif Nat.blt t 376 then(bl0)else(aY)))else(bif Nat.blt t 378 then(aY)else(bif Nat.blt t 379 then(aY)else(bk9))))else(bif Nat.blt t 383 then(bif Nat.blt t 381 then(bk8)else(bif Nat.blt t 382 then(tt7)else(aY)))else(bif Nat.blt t 384 then(aY)else(bif Nat.blt t 385 then(bk7)else(SK)))))else(bif Nat.blt t 392 then(bif Nat.blt t 389 then(bif Nat.blt t 387 then(SK)else(bif Nat.blt t 388 then(bk6)else(SJ)))else(bif Nat.blt t 390 then(SJ)else(bif Nat.blt t 391 then(aY)else(tt4))))else(bif Nat.blt t 395 then(bif Nat.blt t 393 then(tt4)else(bif Nat.blt t 394 then(aY)else(Oz)))else(bif Nat.blt t 397 then(bif Nat.blt t 396 then(Oz)else(SI))else(bif Nat.blt t 398 then(SI)else(aY))))))))))else none
def H8:((List.range 399).all λt=>decide (aH prog t=A2 t))=true:=by kernel_rfl
def wY:=@of_decide_eq_true
def ai(t:TypeId)(i:TI)(h:A2 t=some i):aH prog t=some i:=by
 by_cases ht:t<399
 .have:=yA.1 H8 t (xT.2 ht);rw[wY this];exact h
 .unfold A2 at h;rw[QE ht]at h
  cases h
def mixed:prog.follows .mixedOrders=true:=by kernel_rfl
end
section
open Go
def bi(x:ak)(n:ByteArray):Int:=idx (λk=>seq k.name n) x.kz
def bb(k:aq)(n:ByteArray):Int:=idx (λf=>seq f.name n) k.fields
def dN(x:ak)(i:Int):Option aq:=if 0<=i then x.kz[i.toNat]? else none
def fieldAt(x:ak)(i j:Int):Option an:=match dN x i with|some k=>if 0<=j then k.fields[j.toNat]? else none|none=>none
def refUp(x:ak)(i:Int)(f:an):Int:=if bi x f.of<i then bi x f.of else -1
def Fs(u j:Int):Option an->Option an
 |some g=>if u<j/\g.kind=1 then some g else none
 |none=>none
def Sj(x:ak)(i j:Int)(f:an):Option an:=
 match dN x i with
 |none=>none
 |some k=>Fs (bb k f.up) j (fieldAt x i (bb k f.up))
def yt(x:ak)(i:Int):Option an->Int
 |some g=>refUp x i g
 |none=>-1
def aG(x:ak)(i j:Int):Int:=
 match fieldAt x i j with
 |none=>-1
 |some f=>if f.kind=7\/f.kind=8 then yt x i (Sj x i j f)else if f.kind=1 then refUp x i f else -1
def Ai(x:ak)(i:Int)(f:an):List Int:=
 match dN x (bi x f.of)with
 |none=>[]
 |some k=>((List.range k.fields.length).filter λ(j:Nat)=>match k.fields[j]? with|some g=>decide (g.kind=7)&&seq g.of f.name&&decide (aG x (bi x f.of) j=i)|none=>false).map (λ(j:Nat)=>(j:Int))
def KM(x:ak)(i:Int)(f:an):Bool:=!decide (f.kind=6)||decide (bi x f.of<=i)
end
section
open Go
abbrev iD(n:Int):D:=.v (.int .i64 n)
abbrev bD(b:Bool):D:=.v (.bool b)
abbrev sD(s:ByteArray):D:=.v (.string s)
def bv(xs:List Int):D:=.sl 1 (xs.map λx=>[iD x])
def gr(xs:List ByteArray):D:=.sl 1 (xs.map λx=>[sD x])
def aA(f:an):List D:=[sD f.name,sD f.of,sD f.up,iD f.kind,iD f.lo,iD f.hi,gr f.words,bv f.wz]
def mV(xs:List an):D:=.sl 8 (xs.map aA)
def aD(k:aq):List D:=[sD k.name,iD k.lo,iD k.hi,mV k.fields]
def kq(xs:List aq):D:=.sl 4 (xs.map aD)
def cE(m:Int×Int):List D:=[iD m.1,iD m.2]
def bX(x:bG):List D:=[sD x.name,gr x.tz,.sl 2 (x.mz.map cE)]
def iM(xs:List bG):D:=.sl 3 (xs.map bX)
def cX(x:cH):List D:=[sD x.name,sD x.kind,sD x.a,sD x.b,iD x.n]
def jI(xs:List cH):D:=.sl 5 (xs.map cX)
def du(x:ak):List D:=[iD x.vz,kq x.kz,iM x.lz,jI x.rules]
abbrev aw(x:ak):D:=.agg (du x)
abbrev fP(x:aq):D:=.agg (aD x)
abbrev bT(x:an):D:=.agg (aA x)
abbrev cZ(x:bG):D:=.agg (bX x)
abbrev eR(x:cH):D:=.agg (cX x)
end
section
open Go Go.RowKit Go.Shelf
section
variable {P:Program} {r:Option Nat} {n:Nat} {df:Nat} {ops:Array Oper} {Q:fG} {a:List D} {σ:ae} {w:World} {X:Nat->Prop} {ρ:Operand->D}
def Le(d d':D):Prop:=∀(w:World)(O:Nat->Prop)(v:Value),Rd w O d v->Rd w O d' v
inductive gH:List D->List D->Prop
 |nil:gH [] []
 |cons {d d':D} {ds ds':List D} (h:Le d d') (t:gH ds ds'):gH (d::ds) (d'::ds')
def Le.refl(d:D):Le d d:=λ_ _ _ h=>h
def gC(k:Nat):Le (.v (.slice none 0 0)) (.sl k []):=λw O v h=>by
 have:=h.val rfl;subst this;exact .sl k [] none 0 (λ_ _=>undef) (zT _) (by simp) (λi x hx=>by simp at hx) (λi x hx=>by simp at hx)
variable{s:List D}
def gH.rd{a:List D}(h:gH s a){O:Nat->Prop}:∀{vs:List Value},bj w O s vs->bj w O a vs:=by
 induction h with
 |nil=>exact λh=>h
 |cons h t i=>
  intro vs b
  cases vs with
  |nil=>have:=b.len;simp at this
  |cons v vs=>
   exact .cons (h _ _ _ (b.at_ 0 _ _ rfl rfl)) (i ⟨by have:=b.len;simpa using this,λj d u e c=>b.at_ (j+1) d u (by simpa using e) (by simpa using c)⟩)
def DX{d:List D}(h:gH s d):Le (.agg s) (.agg d):=λw O v a=>by
 obtain⟨vs,rfl,b⟩:=a.agg_inv;have:=h.rd b;exact .agg _ _ this.len this.at_
def lY{d:List D}(h:gH s d):Le (.tup s) (.tup d):=λw O v a=>by
 obtain⟨vs,rfl,b⟩:=a.tup_inv;have:=h.rd b;exact .tup _ _ this.len this.at_
def BX{n:Func}{i1 i2 i3 i4 i5:Tmp}(h:n.results= #[.tmp i1,.tmp i2,.tmp i3,.tmp i4,.tmp i5]) :
  dW P n a σ (.tup [a.getD i1 (.v undef),a.getD i2 (.v undef),a.getD i3 (.v undef),a.getD i4 (.v undef),a.getD i5 (.v undef)]):=λw X t f _=>by
 refine⟨.tuple #[t.getD i1 undef,t.getD i2 undef,t.getD i3 undef,t.getD i4 undef,t.getD i5 undef],by simp[results,h],?_⟩;have:=bj.cons (lp f i1) (bj.cons (lp f i2) (bj.cons (lp f i3) (bj.cons (lp f i4) (bj.cons (lp f i5) bj.nil))));exact .tup _ _ this.len this.at_
end
end
section
open Go Go.RowKit Go.Shelf
abbrev aP:=List (Nat×D)
def gV:aP->Nat->Option D
 |[],_=>none
 |(i,d)::f,t=>bif Nat.beq i t then some d else gV f t
def aN(f:aP):Operand->D
 |.tmp t=>match gV f t with|some d=>d|none=>.any
 |.const v=>.v v
 |.global g=>.v (.pointer (some ⟨g,0,none⟩))
 |.func f=>.v (.func (.func f) #[] #[])
structure Sp(N:Nat)(a:List D)(f:aP):Prop where
 len:a.length=N
 at_:∀i d,gV f i=some d->d= .any\/a[i]?=some d
section
variable {N:Nat} {a:List D} {f:aP}
def Sp.le(h:Sp N a f)(x:Operand):Le (iy a x) (aN f x):=by
 cases x with
 |tmp t=>
  simp only[aN]
  cases l:gV f t with
  |none=>exact λ_ _ v _=>.any v
  |some d=>
   rcases h.at_ t d l with rfl|b
   .exact λ_ _ v _=>.any v
   .simp only[iy,List.getD_eq_getElem?_getD,b];exact Le.refl _
 |_=>exact Le.refl _
variable{d:D}
def Sp.eq(h:Sp N a f){x:Operand}(e:aN f x=d)(b:d ≠ .any):iy a x=d:=by
 cases x with
 |tmp t=>
  simp only[aN]at e
  cases l:gV f t with
  |none=>rw[l]at e;exact absurd e.symm b
  |some i=>
   rw[l]at e;simp only at e;subst e;rcases h.at_ t i l with g|c
   .exact absurd g b
   .simp[iy,List.getD_eq_getElem?_getD,c]
 |_=>exact e
def Yd.le{P:Program}{o:Oper}{ρ ρ':Operand->D}{σ:ae}(h:∀x,Le (ρ x) (ρ' x))(y:Yd P o ρ' σ d):Yd P o ρ σ d:=
 λw X η a s=>y w X η (λx hx=>h x _ _ _ (a x hx)) s
def aX(N:Nat)(dst:Option Tmp)(d:D)(f:aP)(K:aP->Prop):Prop:=
 match dst with
 |none=>K f
 |some i=>bif Nat.blt i N then K ((i,d)::f)else False
def yH:=@Nat.eq_of_beq_eq_true
def fT{dst:Option Tmp}{K:aP->Prop}(h:aX N dst d f K)(s:Sp N a f):∃m,Sp N (aK a dst d) m/\K m:=by
 cases dst with
 |none=>exact⟨f,s,h⟩
 |some i=>
  simp only[aX]at h
  cases g:Nat.blt i N with
  |false=>rw[g]at h;exact h.elim
  |true=>
   rw[g]at h;rw[wT]at g;refine⟨_,⟨by simp[aK,s.len],λj n b=>?_⟩,h⟩;simp only[gV]at b
   cases c:Nat.beq i j with
   |true=>
    rw[c]at b;simp only[cond_true,xB]at b;have:=yH c;subst this b;exact .inr (by simp[aK,s.len,g])
   |false=>
    rw[c]at b;have k:i≠j:=λe=>by subst e;simp at c
    rcases s.at_ j n b with l|l
    .exact .inl l
    .exact .inr (by simp[aK,xP,k,l])
end
def bY(d:D)(K:D->Prop):Prop:=match d with
 |.v x=>K (.v x)
 |.any=>K .any
 |.sl k s=>K (.sl k s)
 |.ro c=>K (.ro c)
 |.agg c=>K (.agg c)
 |.tup a=>K (.tup a)
 |.clo f c=>K (.clo f c)
 |.gl g=>K (.gl g)
 |.ifc t d=>K (.ifc t d)
 |.mth n d=>K (.mth n d)
variable{d:D}{K:D->Prop}
def mJ(h:bY d K):K d:=by cases d<;>exact h
def m6:List D->(List D->Prop)->Prop
 |[],K=>K []
 |d::s,K=>bY d λd=>m6 s λs=>K (d::s)
def uP:∀{l:List D}{K:List D->Prop},m6 l K->K l
 |[],_,h=>h
 |d::s,K,h=>uP (K:=λs=>K (d::s)) (mJ (K:=λd=>m6 s λs=>K (d::s)) h)
def Rj:List (List D)->(List (List D)->Prop)->Prop
 |[],K=>K []
 |x::s,K=>m6 x λx=>Rj s λs=>K (x::s)
def aX0:∀{l:List (List D)}{K:List (List D)->Prop},Rj l K->K l
 |[],_,h=>h
 |x::s,K,h=>aX0 (K:=λs=>K (x::s)) (uP (K:=λx=>Rj s λs=>K (x::s)) h)
def o4:Nat->List D->(List D->Prop)->Prop
 |0,l,K=>K l
 |_+1,[],K=>K []
 |n+1,_::l,K=>o4 n l K
def aO0:∀{n:Nat}{l:List D}{K:List D->Prop},o4 n l K->K (l.drop n)
 |0,_,_,h=>h
 |_+1,[],_,h=>h
 |n+1,_::l,K,h=>aO0 (n:=n) (l:=l) (K:=K) h
def FV(p:Nat->Option (Nat×Nat)):List (Nat×D)->List D->(List D->Prop)->Prop->Prop
 |[],c,K,_=>K c
 |(i,d)::r,c,K,E=>match p i with
  |none=>E
  |some (o,size)=>bif N4 d&&((gX d).length==size)&&Nat.ble (o+size) c.length then m6 (dQ c o (gX d)) λa=>FV p r a K E else E
def bd0{p:Nat->Option (Nat×Nat)}{K:List D->Prop}{E:Prop}:∀{s:List (Nat×D)}{c:List D},FV p s c K E->(∃o,y8 p c s=some o/\K o)\/E
 |[],c,h=>.inl ⟨c,rfl,h⟩
 |(i,d)::s,c,h=>by
  simp only[FV]at h;simp only[y8];split at h
  .exact .inr h
  .rename_i f size e
   cases a:(N4 d&&((gX d).length==size)&&Nat.ble (f+size) c.length)with
   |false=>rw[a]at h;exact .inr h
   |true=>
    rw[a]at h;simp only[cond_true]at h;simp only[e,a,cond_true];exact bd0 (uP (K:=λb=>FV p s b K E) h)
def UC(a:Bool)(n:Nat)(cs:List D)(K:D->Prop):Prop:=
 match a with
 |true=>bif Nat.beq n cs.length then K (.agg cs)else m6 (cs.take n) λl=>K (.agg l)
 |false=>match cs with|c::_=>bif Nat.beq n 1 then bY c K else False|[]=>False
def yM:=@List.take_length
def DC{a:Bool}{n:Nat}{cs:List D}(h:UC a n cs K):K (oC a (cs.take n)):=by
 unfold UC at h
 cases a with
 |true=>
  simp only at h
  cases b:Nat.beq n cs.length with
  |true=>
   rw[b]at h;have:=yH b;rw[this,yM];exact h
  |false=>rw[b]at h;exact uP (K:=λl=>K (.agg l)) h
 |false=>
  cases cs with
  |nil=>exact h.elim
  |cons c cs=>
   simp only at h
   cases b:Nat.beq n 1 with
   |false=>rw[b]at h;exact h.elim
   |true=>rw[b]at h;have:=yH b;subst this;exact mJ h
structure Br(t:Bool)(A B:Prop):Prop where
 yes:t=true->A
 no:t=false->B
structure Bc(t:Bool)(A B C:Prop):Prop where
 run:Br t A B\/C
structure Bx(A B:Prop):Prop where
 run:A\/B
structure Sd(s A:Prop):Prop where
 s:s
 k:A
structure Ck(b:Bool)(A:Prop):Prop where
 s:b=true
 k:A
structure Ix(xs:List (List D))(j:Int)(K:List D->Prop):Prop where
 run:0<=j/\∃cs,xs[j.toNat]?=some cs/\K cs
structure Ld(P:Program)(o:Oper)(ρ:Operand->D)(σ:ae)(b off:Nat)(ag:Bool)(sz:Nat)(K:D->Prop):Prop where
 run:(∃(j:Nat)(tb:TypeId)(cs:List D),σ[j]?=some (b,.cells tb cs)/\off+sz<=cs.length/\K (oC ag ((cs.drop off).take sz)))\/∃d,Yd P o ρ σ d/\K d
structure Ot(P:Program)(o:Oper)(ρ:Operand->D)(σ:ae)(K:D->Prop):Prop where
 run:∃d,Yd P o ρ σ d/\K d
structure iK(P:Program)(f:FuncId)(args:List D)(σ:ae)(d:D):Prop where
 ent:Enters P f
 run:∀(w:World)(X:Nat->Prop)(vs:List Value),bj w (ay σ X) args vs->aW w X σ ->
  Calls P f vs.toArray w λe w'=>∃u,e= .returned u/\Rd w' (ay σ X) d u/\Ex w w'
def APure.pk{P:Program}{f:FuncId}{args:List D}{σ:ae}(h:APure P f args d):iK P f args σ d:=
 ⟨h.ent,λw X vs v s=>h.run w _ vs v s.gok⟩
def SA{P:Program}{σ:ae}{o:Oper}{ρ:Operand->D}{f:FuncId}{s:List D}(h:la o.op ρ=some (f,s))(p:iK P f s σ d):Yd P o ρ σ d:=by
 intro w X η a t;obtain⟨vs,c,b⟩:=pg (P:=P) (w:=w) h p.ent a;rw[b];exact⟨rfl,(p.run w X vs c t).mono λe k⟨u,j,i,g⟩=>⟨u,j,g,i⟩⟩
structure Cp(P:Program)(f:FuncId)(args:List D)(σ:ae)(K:D->Prop):Prop where
 run:∃d,iK P f args σ d/\K d
def BI:BinOp->Value->Bool
 |.add,_=>true|.sub,_=>true|.mul,_=>true|.rem,_=>true|.quo,_=>true
 |_,_=>false
def BH{b:BinOp}{x y u:Value}{s:Prop}(h:vj b x y=some (s,u))(a:BI b x=false):s:=by
 unfold vj at h;split at h<;>cases h<;>first|trivial|cases a
def gR(P:Program)(T:TypeId->Option TI)(o:Oper)(f:aP)(σ:ae)(K:D->Prop):Prop:=
 match o.op with
 |.move x=>bY (aN f x) K
 |.assign x=>bY (aN f x) K
 |.pick c x y=>match aN f c with
  |.v (.bool t)=>Br t (bY (aN f x) K) (bY (aN f y) K)
  |_=>Ot P o (aN f) σ (λd=>bY d K)
 |.box _ x=>match aN f x with
  |.any=>Ot P o (aN f) σ (λd=>bY d K)
  |.agg h=>K (.ro h)
  |.v (.agg vs)=>m6 (vs.toList.map .v) λl=>K (.ro l)
  |d=>K (.ro [d])
 |.nilCheck x=>match aN f x with
  |.ro h=>K (.ro h)
  |.clo g h=>K (.clo g h)
  |.v (.pointer (some p))=>K (.v (.pointer (some p)))
  |.v (.func (.func g) u v)=>K (.v (.func (.func g) u v))
  |_=>Ot P o (aN f) σ (λd=>bY d K)
 |.binOp b _ x y _=>match aN f x with
  |.v u=>match aN f y with
   |.v v=>match vj b u v with
    |some (s,r)=>bif BI b u then Bx (Sd s (K (.v r))) (Ot P o (aN f) σ (λd=>bY d K))else K (.v r)
    |none=>Ot P o (aN f) σ (λd=>bY d K)
   |_=>Ot P o (aN f) σ (λd=>bY d K)
  |_=>Ot P o (aN f) σ (λd=>bY d K)
 |.unOp b _ x=>match aN f x with
  |.v u=>match vUn b u with
   |some (s,r)=>(match b with|.not=>Sd s (K (.v r))|_=>Sd s (K (.v r)))
   |none=>Ot P o (aN f) σ (λd=>bY d K)
  |_=>Ot P o (aN f) σ (λd=>bY d K)
 |.load t x=>match T t with
  |none=>Ot P o (aN f) σ (λd=>bY d K)
  |some i=>match aN f x with
   |.ro h=>bif Nat.ble i.size h.length&&(i.agg||i.size==1)then UC i.agg i.size h K else False
   |.v (.pointer (some ⟨b,a,none⟩))=>bif i.agg||i.size==1 then Ld P o (aN f) σ b a i.agg i.size (λd=>bY d K)else False
   |_=>Ot P o (aN f) σ (λd=>bY d K)
 |.fieldAddr s x F=>match T s with
  |none=>Ot P o (aN f) σ (λd=>bY d K)
  |some i=>match i.fs[F]? with
   |none=>Ot P o (aN f) σ (λd=>bY d K)
   |some (a,_,n)=>match aN f x with
    |.ro h=>bif Nat.ble a h.length && !(n==0)then o4 a h λl=>K (.ro l)else False
    |.v (.pointer (some ⟨b,o,none⟩))=>bif !(n==0)then K (.v (.pointer (some ⟨b,o+a,none⟩)))else False
    |_=>Ot P o (aN f) σ (λd=>bY d K)
 |.field s x F=>match T s with
  |none=>Ot P o (aN f) σ (λd=>bY d K)
  |some i=>match i.fs[F]? with
   |none=>Ot P o (aN f) σ (λd=>bY d K)
   |some (a,H,n)=>match aN f x with
    |.agg h=>bif Nat.ble (a+n) h.length&&(H||n==1)then o4 a h λl=>UC H n l K else False
    |_=>Ot P o (aN f) σ (λd=>bY d K)
 |.extract x i=>match aN f x with
  |.tup B=>match B[i]? with|some d=>bY d K|none=>Ot P o (aN f) σ (λd=>bY d K)
  |.v (.tuple vs)=>match vs[i]? with|some d=>K (.v d)|none=>Ot P o (aN f) σ (λd=>bY d K)
  |_=>Ot P o (aN f) σ (λd=>bY d K)
 |.indexAddr t x J=>match T t with
  |none=>Ot P o (aN f) σ (λd=>bY d K)
  |some i=>match aN f J with
   |.v (.int L j)=>match aN f x with
    |.sl k C=>match i.sl with
     |some (_,_,I,_)=>bif Nat.beq I k then Ix C j (λh=>K (.ro h))else False
     |none=>Ot P o (aN f) σ (λd=>bY d K)
    |.v (.slice (some ⟨b,a,none⟩) n _)=>match i.sl with
     |some (_,_,k,_)=>Sd (0<=j/\j<n) (K (.v (.pointer (some ⟨b,a+j.toNat*k,none⟩))))
     |none=>Ot P o (aN f) σ (λd=>bY d K)
    |.ro h=>match j with
     |.ofNat m=>match i.arr with
      |some (n,_,k)=>bif Nat.blt m n&&Nat.ble (m*k) h.length then o4 (m*k) h λl=>K (.ro l)else False
      |none=>Ot P o (aN f) σ (λd=>bY d K)
     |_=>Ot P o (aN f) σ (λd=>bY d K)
    |_=>Ot P o (aN f) σ (λd=>bY d K)
   |_=>Ot P o (aN f) σ (λd=>bY d K)
 |.build t E=>match T t with
  |none=>Ot P o (aN f) σ (λd=>bY d K)
  |some i=>bif Nat.beq i.zero.length i.size&&Nat.blt 0 i.size&&(i.arr.isSome || !i.fs.isEmpty)then
    (m6 (i.zero.map λz=>.v (zv z)) λz=>FV (Ms i) (E.toList.map λp=>(p.1,aN f p.2)) z (λl=>K (.agg l)) (Ot P o (aN f) σ (λd=>bY d K)))else False
 |.buildSlice t m E=>match T t with
  |none=>Ot P o (aN f) σ (λd=>bY d K)
  |some i=>match i.sl with
   |none=>Ot P o (aN f) σ (λd=>bY d K)
   |some (e,_,k,_)=>match T e with
    |none=>Ot P o (aN f) σ (λd=>bY d K)
    |some j=>bif Nat.beq j.zero.length j.size&&Nat.beq j.size k&&Nat.blt 0 k&&Nat.ble (m*k) 1000 then
      (m6 (GP j.zero k m) λz=>FV (λq=>some (q*k,k)) (E.toList.map λp=>(p.1,aN f p.2)) z (λA=>bif A.length==m*k then Rj (Aq k m A) λl=>K (.sl k l)else False) (Ot P o (aN f) σ (λd=>bY d K)))else False
 |.makeFunc (.func g) w G=>bif w.toList.isEmpty then m6 (G.toList.map (aN f)) λl=>K (.clo g l)else False
 |.call c=>match c.callee with
  |.builtin .len=>match c.args.toList,c.argTypes.toList with
   |[x],[t]=>match T t with
    |none=>Ot P o (aN f) σ (λd=>bY d K)
    |some i=>match aN f x with
     |.sl _ C=>bif i.sl.isSome then K (.v (.int .i64 C.length))else False
     |.v (.slice _ n _)=>bif i.sl.isSome then K (.v (.int .i64 n))else False
     |.v (.string s)=>bif i.str then K (.v (.int .i64 s.size))else False
     |_=>Ot P o (aN f) σ (λd=>bY d K)
   |_,_=>Ot P o (aN f) σ (λd=>bY d K)
  |.value _=>match la o.op (aN f)with
   |some (g,B)=>m6 B λB=>Cp P g B σ λd=>bY d K
   |none=>Ot P o (aN f) σ (λd=>bY d K)
  |_=>Ot P o (aN f) σ (λd=>bY d K)
 |_=>Ot P o (aN f) σ (λd=>bY d K)
section
variable {P:Program} {N:Nat} {σ:ae} {a:List D} {f:aP} {T:TypeId->Option TI}
def iH{c:Bool}{A:Prop}(h:bif c then A else False):c=true/\A:=by cases c;exact h.elim;exact⟨rfl,h⟩
variable{p:Prop}
def cl0(h:p:=by simp only[ho,iQ,F7,hc,e2,e3,hi,hx,F6,h1,cond_true];try rfl):p:=h
def uw(h:p:=by
 rename_i hx;exact go (by simp only[ho,iQ,hx,Rh];try rfl) trivial h):p:=h
def N2(O:∀t i,T t=some i->aH P t=some i){o:Oper}{K:D->Prop}(h:gR P T o f σ K):∃d,Yd P o (aN f) σ d/\K d:=by
 have go:∀{s d},iQ T o.op (aN f)=some (s,d)->s->K d->∃d,Yd P o (aN f) σ d/\K d:=λh1 w C=>⟨_,Oi O h1 w,C⟩
 have a:Ot P o (aN f) σ (λd=>bY d K)->∃d,Yd P o (aN f) σ d/\K d:=λh=>let ⟨d,h1,w⟩:=h.run;⟨d,h1,mJ w⟩;unfold gR at h;split at h
 .rename_i x ho;exact go (by simp only[ho,iQ];try rfl) trivial (mJ h)
 .rename_i x ho;exact go (by simp only[ho,iQ];try rfl) trivial (mJ h)
 .rename_i c x y ho;split at h
  .rename_i t Y
   cases t with
   |true=>exact go (by simp only[ho,iQ,Y,uR];try rfl) trivial (mJ (h.yes rfl))
   |false=>exact go (by simp only[ho,iQ,Y,uR];try rfl) trivial (mJ (h.no rfl))
  .exact a h
 .rename_i t x ho;split at h
  .exact a h
  .rename_i F hx;exact go (by simp only[ho,iQ,hx,zi];try rfl) trivial h
  .rename_i vs hx;have:=uP (K:=λl=>K (.ro l)) h;exact go (by simp only[ho,iQ,hx,zi];try rfl) trivial this
  .rename_i d h1 w C;have hc:gX (aN f x)=[aN f x]:=by
    unfold gX;split
    .rename_i F e;exact absurd e (w F)
    .rename_i vs e;exact absurd e (C vs)
    .rfl
   have L:zi (aN f x)=some (True,.ro (gX (aN f x))):=by
    unfold zi;split
    .rename_i e;exact absurd e h1
    .rfl
   exact go (by simp only[ho,iQ];exact L) trivial (by rw[hc];exact h)
 .rename_i x ho;split at h
  .exact uw
  .exact uw
  .exact uw
  .exact uw
  .exact a h
 .rename_i b t x y t' ho;split at h
  .rename_i u U;split at h
   .rename_i v hv;split at h
    .rename_i s r R;have L:iQ T o.op (aN f)=some (s,.v r):=by simp only[ho,iQ,U,hv,Rp,R,Option.map_some]
     cases A:BI b u with
     |true=>
      rw[A]at h;rcases h.run with h|h
      .exact go L h.s h.k
      .exact a h
     |false=>rw[A]at h;exact go L (BH R A) h
    .exact a h
   .exact a h
  .exact a h
 .rename_i b t x ho;split at h
  .rename_i u U;split at h
   .rename_i s r R;have L:iQ T o.op (aN f)=some (s,.v r):=by simp only[ho,iQ,U,aUn,R,Option.map_some]
    split at h<;>exact go L h.s h.k
   .exact a h
  .exact a h
 .rename_i t x ho;split at h
  .exact a h
  .rename_i i hi;split at h
   .rename_i F hx;obtain⟨h1,w⟩:=iH h;exact go (by simp only[ho,iQ,hx,hi,uS,h1,cond_true];try rfl) trivial (DC w)
   .rename_i b G hx;obtain⟨h1,w⟩:=iH h;rcases w.run with⟨j,tb,F,I,H,W⟩|⟨d,I,H⟩
    .exact⟨_,Oe O ho hi hx I H (by simpa using h1),mJ W⟩
    .exact⟨d,I,mJ H⟩
   .exact a h
 .rename_i s x fl ho;split at h
  .exact a h
  .rename_i i hi;split at h
   .exact a h
   .rename_i G M n E;split at h
    .rename_i F hx;obtain⟨h1,w⟩:=iH h;exact go (by simp only[ho,iQ,hx,hi,Lv,E,h1,cond_true];try rfl) trivial (aO0 (K:=λl=>K (.ro l)) w)
    .rename_i b oo hx;obtain⟨h1,w⟩:=iH h;exact go (by simp only[ho,iQ,hx,hi,Lv,E,h1,cond_true];try rfl) trivial w
    .exact a h
 .rename_i s x fl ho;split at h
  .exact a h
  .rename_i i hi;split at h
   .exact a h
   .rename_i G M n E;split at h
    .rename_i F hx;obtain⟨h1,w⟩:=iH h;exact go (by simp only[ho,iQ,hx,hi,jD,E,h1,cond_true];try rfl) trivial (DC (aO0 (K:=λl=>UC M n l K) w))
    .exact a h
 .rename_i x i ho;split at h
  .rename_i X hx;split at h
   .rename_i d V;exact go (by simp only[ho,iQ,hx,LA,V];try rfl) trivial (mJ h)
   .exact a h
  .rename_i vs hx;split at h
   .rename_i d V;exact go (by simp only[ho,iQ,hx,LA,V];try rfl) trivial h
   .exact a h
  .exact a h
 .rename_i t x ix ho;split at h
  .exact a h
  .rename_i i hi;split at h
   .rename_i kk j N;split at h
    .rename_i k Z hx;split at h
     .rename_i e M k' Q A;obtain⟨h1,w⟩:=iH h;obtain⟨I,F,H,W⟩:=w.run;exact⟨_,AB O ho hx N hi A (yH h1) H I,W⟩
     .exact a h
    .rename_i b G n c hx;split at h
     .rename_i e M k Q A;exact go (by simp only[ho,iQ,hx,hi,N,za,A];try rfl) h.s h.k
     .exact a h
    .rename_i F hx;split at h
     .rename_i m;split at h
      .rename_i n M k A;obtain⟨h1,w⟩:=iH h;exact go (by simp only[ho,iQ,hx,hi,N,za,A,h1,cond_true];try rfl) trivial (aO0 (K:=λl=>K (.ro l)) w)
      .exact a h
     .exact a h
    .exact a h
   .exact a h
 .rename_i t S ho;split at h
  .exact a h
  .rename_i i hi;obtain⟨h1,w⟩:=iH h;simp only[zJ]at h1;rcases bd0 (uP (K:=λz=>FV (Ms i) (S.toList.map λp=>(p.1,aN f p.2)) z (λl=>K (.agg l)) (Ot P o (aN f) σ (λd=>bY d K))) w)with⟨B,E,C⟩|C
   .exact⟨_,AC O ho hi (yH h1.1.1) h1.1.2 h1.2 E,C⟩
   .exact a C
 .rename_i t m S ho;split at h
  .exact a h
  .rename_i i hi;split at h
   .exact a h
   .rename_i e M k Q A;split at h
    .exact a h
    .rename_i j N;obtain⟨h1,w⟩:=iH h;simp only[zJ]at h1;rcases bd0 (uP (K:=λz=>FV (λq=>some (q*k,k)) (S.toList.map λp=>(p.1,aN f p.2)) z (λB=>bif B.length==m*k then Rj (Aq k m B) λl=>K (.sl k l)else False) (Ot P o (aN f) σ (λd=>bY d K))) w)with⟨B,E,w⟩|w
     .obtain⟨C,h4⟩:=iH w;exact⟨_,Oh O ho hi A N (yH h1.1.1.1) (yH h1.1.1.2) h1.1.2 h1.2 E C,aX0 (K:=λl=>K (.sl k l)) h4⟩
     .exact a w
 .rename_i g J cap ho
  obtain⟨h1,w⟩:=iH h;have h0:J= #[]:=by simpa using h1
  subst h0;exact⟨_,Of ho,uP (K:=λl=>K (.clo g l)) w⟩
 .rename_i c ho;split at h
  .rename_i hc;split at h
   .rename_i x t e2 e3;split at h
    .exact a h
    .rename_i i hi;split at h
     .rename_i k Z hx;obtain⟨h1,w⟩:=iH h;exact go cl0 trivial w
     .rename_i ad n cc hx;obtain⟨h1,w⟩:=iH h;exact go cl0 trivial w
     .rename_i s hx;obtain⟨h1,w⟩:=iH h;exact go cl0 trivial w
     .exact a h
   .exact a h
  .split at h
   .rename_i g X hc;obtain⟨d,I,H⟩:=(uP (K:=λX=>Cp P g X σ λd=>bY d K) h).run;exact⟨d,SA hc I,mJ H⟩
   .exact a h
  .exact a h
 .exact a h
end
end
end Go.Proofs.YtilnpcolgcmofaaGreatDoor
