/- A part of the proof: Tab TySpec Dat TyQ Probs R10 Cs Cd Ha Hb. -/
import Derived.Test.YtjbbmjjildhfbaaGreatDoorW08
import Derived.Test.YtjbbmjjildhfbaaGreatDoorProg
set_option maxRecDepth 100000
set_option maxHeartbeats 4000000
set_option linter.unusedVariables false
set_option linter.unusedSimpArgs false
namespace Go.Proofs.YtjbbmjjildhfbaaGreatDoor
section
open Go
abbrev TO:=Option TI
theorem blt_no {t n:Nat} (h:¬ t<n):Nat.blt t n=false:=by
 rw [Bool.eq_false_iff];intro hb;rw [Nat.blt_eq] at hb;exact h hb
def tt0:TO:=some ⟨false,1,[],none,none,[],false⟩
def tt1:TO:=some ⟨false,1,[],none,none,[.fn],false⟩
def tt2:TO:=some ⟨false,1,[],none,none,[.int .i64],false⟩
def tt3:TO:=some ⟨false,1,[],none,none,[.bool],false⟩
def tt4:TO:=some ⟨false,1,[],none,none,[.int .u8],false⟩
def tt5:TO:=some ⟨true,4,[(0,false,1),(1,false,1),(2,false,1),(3,false,1)],none,none,[.int .i64,.int .i64,.bool,.int .u8],false⟩
def tt6:TO:=some ⟨false,1,[],none,none,[.str],true⟩
def tt7:TO:=some ⟨false,1,[],none,none,[.int .u64],false⟩
def tt8:TO:=some ⟨true,2,[(0,false,1),(1,false,1)],none,none,[.str,.int .u64],false⟩
def tt9:TO:=some ⟨false,1,[],none,none,[.ptr],false⟩
def tt10:TO:=some ⟨true,1,[(0,false,1)],none,none,[.ptr],false⟩
def tt11:TO:=some ⟨false,1,[],none,none,[.ifc],false⟩
def tt12:TO:=some ⟨false,1,[],none,none,[.int .i32],false⟩
def tt13:TO:=some ⟨false,1,[],some (3,false,1,8),none,[.sl],false⟩
def tt14:TO:=some ⟨false,1,[],some (43,true,4,80),none,[.sl],false⟩
def tt15:TO:=some ⟨false,1,[],some (30,false,1,24),none,[.sl],false⟩
def tt16:TO:=some ⟨false,1,[],some (34,false,1,24),none,[.sl],false⟩
def tt17:TO:=some ⟨false,1,[],some (75,false,1,24),none,[.sl],false⟩
def tt18:TO:=some ⟨true,2,[(0,false,1),(1,false,1)],none,none,[.int .i64,.int .i64],false⟩
def tt19:TO:=some ⟨false,1,[],some (62,false,1,24),none,[.sl],false⟩
def tt20:TO:=some ⟨false,1,[],some (97,true,4,56),none,[.sl],false⟩
def tt21:TO:=some ⟨false,1,[],some (102,true,3,64),none,[.sl],false⟩
def tt22:TO:=some ⟨false,1,[],some (105,true,5,72),none,[.sl],false⟩
def tt23:TO:=some ⟨true,4,[(0,false,1),(1,false,1),(2,false,1),(3,false,1)],none,none,[.int .i64,.sl,.sl,.sl],false⟩
def tt24:TO:=some ⟨false,1,[],some (33,true,2,16),none,[.sl],false⟩
def tt25:TO:=some ⟨false,1,[],some (4,false,1,1),none,[.sl],false⟩
def tt26:TO:=some ⟨false,1,[],some (22,false,1,24),none,[.sl],false⟩
def tt27:TO:=some ⟨true,2,[(0,false,1),(1,false,1)],none,none,[.sl,.int .i64],false⟩
def tt28:TO:=some ⟨false,1,[],some (111,true,8,120),none,[.sl],false⟩
def tt29:TO:=some ⟨true,4,[(0,false,1),(1,false,1),(2,false,1),(3,false,1)],none,none,[.str,.int .i64,.int .i64,.sl],false⟩
def tt30:TO:=some ⟨false,1,[],some (9,false,1,16),none,[.sl],false⟩
def tt31:TO:=some ⟨false,1,[],some (103,true,2,16),none,[.sl],false⟩
def tt32:TO:=some ⟨true,3,[(0,false,1),(1,false,1),(2,false,1)],none,none,[.str,.sl,.sl],false⟩
def tt33:TO:=some ⟨true,2,[],none,some (2,false,1),[.int .i64,.int .i64],false⟩
def tt34:TO:=some ⟨true,5,[(0,false,1),(1,false,1),(2,false,1),(3,false,1),(4,false,1)],none,none,[.str,.str,.str,.str,.int .i64],false⟩
def tt35:TO:=some ⟨true,8,[(0,false,1),(1,false,1),(2,false,1),(3,false,1),(4,false,1),(5,false,1),(6,false,1),(7,false,1)],none,none,[.str,.str,.str,.int .i64,.int .i64,.int .i64,.sl,.sl],false⟩
def tt36:TO:=some ⟨false,1,[],none,none,[.map],false⟩
def tt37:TO:=some ⟨false,1,[],some (121,true,4,32),none,[.sl],false⟩
def tt38:TO:=some ⟨true,4,[(0,false,1),(1,false,1),(2,false,1),(3,false,1)],none,none,[.int .i64,.int .i64,.int .i64,.int .i64],false⟩
def tt39:TO:=some ⟨false,1,[],some (125,true,4,32),none,[.sl],false⟩
def tt40:TO:=some ⟨true,4,[],none,some (4,false,1),[.int .i64,.int .i64,.int .i64,.int .i64],false⟩
def tt41:TO:=some ⟨false,1,[],some (150,true,4,32),none,[.sl],false⟩
def tt42:TO:=some ⟨true,4,[(0,false,1),(1,false,1),(2,false,1),(3,false,1)],none,none,[.sl,.sl,.sl,.map],false⟩
def tt43:TO:=some ⟨false,1,[],some (194,true,4,32),none,[.sl],false⟩
def tt44:TO:=some ⟨true,2,[(0,false,1),(1,false,1)],none,none,[.bool,.int .i64],false⟩
def tt45:TO:=some ⟨true,1,[(0,false,1)],none,none,[.fn],false⟩
def tt46:TO:=some ⟨true,14,[(0,true,4),(4,false,1),(5,false,1),(6,true,8)],none,none,[.int .i64,.sl,.sl,.sl,.int .i64,.int .i64,.str,.str,.str,.int .i64,.int .i64,.int .i64,.sl,.sl],false⟩
def tt47:TO:=some ⟨false,1,[],none,none,[.int .u32],false⟩
def tt48:TO:=some ⟨false,1,[],some (156,true,2,16),none,[.sl],false⟩
def tt49:TO:=some ⟨false,1,[],some (5,false,1,1),none,[.sl],false⟩
def tt50:TO:=some ⟨true,2,[(0,false,1),(1,false,1)],none,none,[.ptr,.sl],false⟩
def tt51:TO:=some ⟨false,1,[],some (20,false,1,16),none,[.sl],false⟩
def tt52:TO:=some ⟨true,9,[],none,some (9,false,1),[.str,.str,.str,.str,.str,.str,.str,.str,.str],false⟩
def tt53:TO:=some ⟨true,24,[],none,some (24,false,1),[.int .u8,.int .u8,.int .u8,.int .u8,.int .u8,.int .u8,.int .u8,.int .u8,.int .u8,.int .u8,.int .u8,.int .u8,.int .u8,.int .u8,.int .u8,.int .u8,.int .u8,.int .u8,.int .u8,.int .u8,.int .u8,.int .u8,.int .u8,.int .u8],false⟩
def tt54:TO:=some ⟨true,20,[],none,some (20,false,1),[.int .u64,.int .u64,.int .u64,.int .u64,.int .u64,.int .u64,.int .u64,.int .u64,.int .u64,.int .u64,.int .u64,.int .u64,.int .u64,.int .u64,.int .u64,.int .u64,.int .u64,.int .u64,.int .u64,.int .u64],false⟩
def tt55:TO:=some ⟨true,65,[],none,some (65,false,1),[.int .u8,.int .u8,.int .u8,.int .u8,.int .u8,.int .u8,.int .u8,.int .u8,.int .u8,.int .u8,.int .u8,.int .u8,.int .u8,.int .u8,.int .u8,.int .u8,.int .u8,.int .u8,.int .u8,.int .u8,.int .u8,.int .u8,.int .u8,.int .u8,.int .u8,.int .u8,.int .u8,.int .u8,.int .u8,.int .u8,.int .u8,.int .u8,.int .u8,.int .u8,.int .u8,.int .u8,.int .u8,.int .u8,.int .u8,.int .u8,.int .u8,.int .u8,.int .u8,.int .u8,.int .u8,.int .u8,.int .u8,.int .u8,.int .u8,.int .u8,.int .u8,.int .u8,.int .u8,.int .u8,.int .u8,.int .u8,.int .u8,.int .u8,.int .u8,.int .u8,.int .u8,.int .u8,.int .u8,.int .u8,.int .u8],false⟩
def tt56:TO:=some ⟨true,32,[],none,some (32,false,1),[.int .u8,.int .u8,.int .u8,.int .u8,.int .u8,.int .u8,.int .u8,.int .u8,.int .u8,.int .u8,.int .u8,.int .u8,.int .u8,.int .u8,.int .u8,.int .u8,.int .u8,.int .u8,.int .u8,.int .u8,.int .u8,.int .u8,.int .u8,.int .u8,.int .u8,.int .u8,.int .u8,.int .u8,.int .u8,.int .u8,.int .u8,.int .u8],false⟩
def tt57:TO:=some ⟨true,64,[],none,some (64,false,1),[.int .u8,.int .u8,.int .u8,.int .u8,.int .u8,.int .u8,.int .u8,.int .u8,.int .u8,.int .u8,.int .u8,.int .u8,.int .u8,.int .u8,.int .u8,.int .u8,.int .u8,.int .u8,.int .u8,.int .u8,.int .u8,.int .u8,.int .u8,.int .u8,.int .u8,.int .u8,.int .u8,.int .u8,.int .u8,.int .u8,.int .u8,.int .u8,.int .u8,.int .u8,.int .u8,.int .u8,.int .u8,.int .u8,.int .u8,.int .u8,.int .u8,.int .u8,.int .u8,.int .u8,.int .u8,.int .u8,.int .u8,.int .u8,.int .u8,.int .u8,.int .u8,.int .u8,.int .u8,.int .u8,.int .u8,.int .u8,.int .u8,.int .u8,.int .u8,.int .u8,.int .u8,.int .u8,.int .u8,.int .u8],false⟩
def tt58:TO:=some ⟨true,4,[(0,false,1),(1,false,1),(2,false,1),(3,false,1)],none,none,[.ptr,.ptr,.ptr,.str],false⟩
def tt59:TO:=some ⟨true,0,[],none,some (0,false,1),[],false⟩
def tt60:TO:=some ⟨true,0,[(0,true,0)],none,none,[],false⟩
def tt61:TO:=some ⟨true,11,[(0,false,1),(1,false,1),(2,false,1),(3,false,1),(4,false,1),(5,false,1),(6,false,1),(7,false,1),(8,false,1),(9,false,1),(10,false,1)],none,none,[.int .u64,.int .u64,.int .u32,.int .u8,.int .u8,.int .u8,.int .u8,.fn,.ptr,.int .i32,.int .i32],false⟩
def tget (t:Nat):TO:=bif Nat.blt t 268 then (bif Nat.blt t 134 then (bif Nat.blt t 67 then (bif Nat.blt t 33 then (bif Nat.blt t 16 then (bif Nat.blt t 8 then (bif Nat.blt t 4 then (bif Nat.blt t 2 then (bif Nat.blt t 1 then (tt0) else (tt1)) else (tt2)) else (bif Nat.blt t 6 then (bif Nat.blt t 5 then (tt3) else (tt4)) else (bif Nat.blt t 7 then (tt4) else (tt5)))) else (bif Nat.blt t 12 then (bif Nat.blt t 10 then (bif Nat.blt t 9 then (tt5) else (tt6)) else (tt6)) else (bif Nat.blt t 14 then (bif Nat.blt t 13 then (tt7) else (tt8)) else (bif Nat.blt t 15 then (tt8) else (tt9))))) else (bif Nat.blt t 24 then (bif Nat.blt t 20 then (bif Nat.blt t 18 then (tt9) else (tt10)) else (bif Nat.blt t 22 then (bif Nat.blt t 21 then (tt11) else (tt12)) else (bif Nat.blt t 23 then (tt13) else (tt14)))) else (bif Nat.blt t 28 then (bif Nat.blt t 26 then (bif Nat.blt t 25 then (tt15) else (tt0)) else (bif Nat.blt t 27 then (tt1) else (tt16))) else (bif Nat.blt t 30 then (bif Nat.blt t 29 then (tt1) else (tt17)) else (bif Nat.blt t 31 then (tt17) else (bif Nat.blt t 32 then (tt1) else (tt18))))))) else (bif Nat.blt t 50 then (bif Nat.blt t 41 then (bif Nat.blt t 37 then (bif Nat.blt t 35 then (bif Nat.blt t 34 then (tt18) else (tt19)) else (bif Nat.blt t 36 then (tt19) else (tt2))) else (bif Nat.blt t 39 then (bif Nat.blt t 38 then (tt0) else (tt1)) else (bif Nat.blt t 40 then (tt20) else (tt21)))) else (bif Nat.blt t 45 then (bif Nat.blt t 43 then (bif Nat.blt t 42 then (tt22) else (tt23)) else (bif Nat.blt t 44 then (tt23) else (tt0))) else (bif Nat.blt t 47 then (bif Nat.blt t 46 then (tt1) else (tt24)) else (bif Nat.blt t 48 then (tt0) else (tt1))))) else (bif Nat.blt t 58 then (tt1) else (bif Nat.blt t 62 then (tt1) else (bif Nat.blt t 64 then (bif Nat.blt t 63 then (tt25) else (tt1)) else (tt1)))))) else (bif Nat.blt t 100 then (bif Nat.blt t 83 then (bif Nat.blt t 75 then (bif Nat.blt t 71 then (bif Nat.blt t 69 then (tt1) else (bif Nat.blt t 70 then (tt1) else (tt0))) else (tt1)) else (bif Nat.blt t 79 then (bif Nat.blt t 77 then (bif Nat.blt t 76 then (tt26) else (tt1)) else (bif Nat.blt t 78 then (tt1) else (tt9))) else (tt1))) else (bif Nat.blt t 91 then (bif Nat.blt t 87 then (tt1) else (bif Nat.blt t 89 then (bif Nat.blt t 88 then (tt1) else (tt0)) else (tt1))) else (bif Nat.blt t 95 then (bif Nat.blt t 93 then (bif Nat.blt t 92 then (tt9) else (tt27)) else (bif Nat.blt t 94 then (tt27) else (tt1))) else (bif Nat.blt t 97 then (bif Nat.blt t 96 then (tt28) else (tt29)) else (bif Nat.blt t 98 then (tt29) else (bif Nat.blt t 99 then (tt1) else (tt30))))))) else (bif Nat.blt t 117 then (bif Nat.blt t 108 then (bif Nat.blt t 104 then (bif Nat.blt t 102 then (bif Nat.blt t 101 then (tt31) else (tt32)) else (bif Nat.blt t 103 then (tt32) else (tt33))) else (bif Nat.blt t 106 then (tt34) else (bif Nat.blt t 107 then (tt0) else (tt1)))) else (bif Nat.blt t 112 then (bif Nat.blt t 110 then (tt1) else (tt35)) else (bif Nat.blt t 114 then (tt1) else (bif Nat.blt t 115 then (tt1) else (bif Nat.blt t 116 then (tt1) else (tt36)))))) else (bif Nat.blt t 125 then (bif Nat.blt t 121 then (bif Nat.blt t 119 then (bif Nat.blt t 118 then (tt1) else (tt37)) else (bif Nat.blt t 120 then (tt1) else (tt38))) else (bif Nat.blt t 123 then (bif Nat.blt t 122 then (tt38) else (tt1)) else (bif Nat.blt t 124 then (tt39) else (tt1)))) else (bif Nat.blt t 129 then (bif Nat.blt t 127 then (bif Nat.blt t 126 then (tt40) else (tt1)) else (bif Nat.blt t 128 then (tt1) else (tt41))) else (bif Nat.blt t 131 then (tt1) else (bif Nat.blt t 132 then (tt1) else (bif Nat.blt t 133 then (tt36) else (tt42))))))))) else (bif Nat.blt t 201 then (bif Nat.blt t 167 then (bif Nat.blt t 150 then (bif Nat.blt t 142 then (bif Nat.blt t 138 then (bif Nat.blt t 136 then (bif Nat.blt t 135 then (tt42) else (tt43)) else (tt1)) else (tt1)) else (bif Nat.blt t 146 then (bif Nat.blt t 144 then (bif Nat.blt t 143 then (tt1) else (tt7)) else (bif Nat.blt t 145 then (tt0) else (tt1))) else (bif Nat.blt t 148 then (bif Nat.blt t 147 then (tt0) else (tt1)) else (bif Nat.blt t 149 then (tt1) else (tt38))))) else (bif Nat.blt t 158 then (bif Nat.blt t 154 then (bif Nat.blt t 152 then (bif Nat.blt t 151 then (tt38) else (tt1)) else (tt1)) else (bif Nat.blt t 156 then (bif Nat.blt t 155 then (tt1) else (tt44)) else (bif Nat.blt t 157 then (tt44) else (tt1)))) else (bif Nat.blt t 162 then (bif Nat.blt t 160 then (bif Nat.blt t 159 then (tt1) else (tt45)) else (bif Nat.blt t 161 then (tt0) else (tt36))) else (bif Nat.blt t 164 then (tt46) else (tt1))))) else (bif Nat.blt t 184 then (bif Nat.blt t 175 then (bif Nat.blt t 171 then (tt1) else (bif Nat.blt t 173 then (bif Nat.blt t 172 then (tt1) else (tt47)) else (bif Nat.blt t 174 then (tt0) else (tt1)))) else (bif Nat.blt t 179 then (bif Nat.blt t 177 then (bif Nat.blt t 176 then (tt7) else (tt0)) else (bif Nat.blt t 178 then (tt1) else (tt0))) else (bif Nat.blt t 181 then (bif Nat.blt t 180 then (tt1) else (tt0)) else (tt1)))) else (bif Nat.blt t 192 then (tt1) else (bif Nat.blt t 196 then (bif Nat.blt t 194 then (bif Nat.blt t 193 then (tt48) else (tt1)) else (bif Nat.blt t 195 then (tt38) else (tt1))) else (tt1))))) else (bif Nat.blt t 234 then (bif Nat.blt t 217 then (bif Nat.blt t 209 then (bif Nat.blt t 205 then (bif Nat.blt t 203 then (tt1) else (bif Nat.blt t 204 then (tt9) else (tt49))) else (bif Nat.blt t 207 then (tt50) else (tt11))) else (bif Nat.blt t 213 then (bif Nat.blt t 211 then (bif Nat.blt t 210 then (tt0) else (tt1)) else (tt1)) else (bif Nat.blt t 215 then (bif Nat.blt t 214 then (tt51) else (tt1)) else (tt1)))) else (bif Nat.blt t 225 then (bif Nat.blt t 221 then (bif Nat.blt t 219 then (tt1) else (bif Nat.blt t 220 then (tt0) else (tt1))) else (tt1)) else (bif Nat.blt t 229 then (bif Nat.blt t 227 then (tt1) else (bif Nat.blt t 228 then (tt1) else (tt52))) else (bif Nat.blt t 231 then (bif Nat.blt t 230 then (tt1) else (tt9)) else (bif Nat.blt t 232 then (tt0) else (tt1)))))) else (bif Nat.blt t 251 then (bif Nat.blt t 242 then (bif Nat.blt t 238 then (tt1) else (bif Nat.blt t 240 then (bif Nat.blt t 239 then (tt9) else (tt1)) else (bif Nat.blt t 241 then (tt1) else (tt53)))) else (bif Nat.blt t 246 then (bif Nat.blt t 244 then (tt1) else (bif Nat.blt t 245 then (tt0) else (tt1))) else (bif Nat.blt t 248 then (bif Nat.blt t 247 then (tt1) else (tt54)) else (bif Nat.blt t 249 then (tt55) else (tt1))))) else (bif Nat.blt t 259 then (bif Nat.blt t 255 then (bif Nat.blt t 253 then (bif Nat.blt t 252 then (tt1) else (tt56)) else (bif Nat.blt t 254 then (tt57) else (tt58))) else (bif Nat.blt t 257 then (bif Nat.blt t 256 then (tt58) else (tt59)) else (tt60))) else (bif Nat.blt t 263 then (bif Nat.blt t 261 then (bif Nat.blt t 260 then (tt1) else (tt4)) else (bif Nat.blt t 262 then (tt4) else (tt1))) else (bif Nat.blt t 265 then (tt12) else (bif Nat.blt t 266 then (tt61) else (bif Nat.blt t 267 then (tt61) else (tt1)))))))))) else none
theorem tab_all:((List.range 268).all fun t=>decide (tiOf Tryz.prog t=tget t))=true:=by kernel_rfl
theorem aa0 (t:TypeId) (i:TI) (h:tget t=some i):tiOf Tryz.prog t=some i:=by
 by_cases ht:t<268
 ·have:=List.all_eq_true.1 tab_all t (List.mem_range.2 ht)
  rw [of_decide_eq_true this];exact h
 ·unfold tget at h
  rw [blt_no ht] at h
  cases h
theorem mixed:Tryz.prog.follows .mixedOrders=true:=by kernel_rfl
end
section
open Go
def ab3 (x:Sch) (n:ByteArray):Int:=idx (fun k=>seq k.name n) x.kinds
def ab7 (k:Knd) (n:ByteArray):Int:=idx (fun f=>seq f.name n) k.fields
def af0 (x:Sch) (i:Int):Option Knd:=if 0≤i then x.kinds[i.toNat]? else none
def fieldAt (x:Sch) (i j:Int):Option Fld:=match af0 x i with|some k=>if 0≤j then k.fields[j.toNat]? else none|none=>none
def refUp (x:Sch) (i:Int) (f:Fld):Int:=if ab3 x f.of<i then ab3 x f.of else -1
def aF4 (u j:Int):Option Fld→Option Fld
 | some g=>if u<j∧g.kind=1 then some g else none
 | none=>none
def upField (x:Sch) (i j:Int) (f:Fld):Option Fld:=
 match af0 x i with
 | none=>none
 | some k=>aF4 (ab7 k f.up) j (fieldAt x i (ab7 k f.up))
def aw9 (x:Sch) (i:Int):Option Fld→Int
 | some g=>refUp x i g
 | none=>-1
def upIx (x:Sch) (i j:Int):Int:=
 match fieldAt x i j with
 | none=>-1
 | some f=>if f.kind=7∨f.kind=8 then aw9 x i (upField x i j f) else if f.kind=1 then refUp x i f else -1
def as0 (x:Sch) (i:Int) (f:Fld):List Int:=
 match af0 x (ab3 x f.of) with
 | none=>[]
 | some k=>((List.range k.fields.length).filter fun (j:Nat)=>match k.fields[j]? with|some g=>decide (g.kind=7) && seq g.of f.name && decide (upIx x (ab3 x f.of) j=i)|none=>false).map (fun (j:Nat)=>(j:Int))
def ak4 (x:Sch) (i:Int) (f:Fld):Bool:=!decide (f.kind=6) || decide (ab3 x f.of≤i)
end
section
open Go
abbrev iD (n:Int):D:=.v (.int .i64 n)
abbrev bD (b:Bool):D:=.v (.bool b)
abbrev sD (s:ByteArray):D:=.v (.string s)
def slI (xs:List Int):D:=.sl 1 (xs.map fun x=>[iD x])
def slS (xs:List ByteArray):D:=.sl 1 (xs.map fun x=>[sD x])
def fldC (f:Fld):List D:=[sD f.name,sD f.of,sD f.up,iD f.kind,iD f.lo,iD f.hi,slS f.words,slI f.weights]
def slF (xs:List Fld):D:=.sl 8 (xs.map fldC)
def kndC (k:Knd):List D:=[sD k.name,iD k.lo,iD k.hi,slF k.fields]
def slK (xs:List Knd):D:=.sl 4 (xs.map kndC)
def movC (m:Int × Int):List D:=[iD m.1,iD m.2]
def lifC (x:Lif):List D:=[sD x.name,slS x.states,.sl 2 (x.moves.map movC)]
def slL (xs:List Lif):D:=.sl 3 (xs.map lifC)
def rulC (x:Rul):List D:=[sD x.name,sD x.kind,sD x.a,sD x.b,iD x.n]
def slR (xs:List Rul):D:=.sl 5 (xs.map rulC)
def schC (x:Sch):List D:=[iD x.version,slK x.kinds,slL x.lives,slR x.rules]
abbrev schD (x:Sch):D:=.agg (schC x)
abbrev kndD (x:Knd):D:=.agg (kndC x)
abbrev fldD (x:Fld):D:=.agg (fldC x)
abbrev lifD (x:Lif):D:=.agg (lifC x)
abbrev rulD (x:Rul):D:=.agg (rulC x)
end
section
open Go
def at9 (x:Sch) (o i:Int) (f:Fld) (g:Fld) (j:Nat):Bool:=decide (g.kind=7) && seq g.of f.name && decide (upIx x o j=i)
def aj4 (x:Sch) (o i:Int) (f:Fld) (fs:List Fld) (n:Nat):List Int:=
 ((List.range n).filter fun (j:Nat)=>match fs[j]? with|some g=>at9 x o i f g j|none=>false).map (fun (j:Nat)=>(j:Int))
theorem ar9 (x:Sch) (o i:Int) (f:Fld) (fs:List Fld) (n:Nat) (g:Fld) (h:fs[n]?=some g):aj4 x o i f fs (n+1)=aj4 x o i f fs n ++ (if at9 x o i f g n then [(n:Int)] else []):=by
 simp only [aj4,List.range_succ,List.filter_append,List.map_append]
 congr 1
 simp only [List.filter_cons,h,List.filter_nil]
 split <;> simp_all
theorem aJ3 (x:Sch) (o i:Int) (f:Fld) (fs:List Fld) (n:Nat):(aj4 x o i f fs n).length≤n:=by
 simp only [aj4,List.length_map]
 exact Nat.le_trans (List.length_filter_le _ _) (by simp)
theorem sharesOf_eq (x:Sch) (i:Int) (f:Fld) (k:Knd) (hk:af0 x (ab3 x f.of)=some k):as0 x i f=aj4 x (ab3 x f.of) i f k.fields k.fields.length:=by
 simp only [as0,hk,aj4,at9] <;> rfl
theorem bh5 (x:Sch) (n:ByteArray) (h:0≤ab3 x n):∃ (o:Nat) (k:Knd),ab3 x n=o∧x.kinds[o]?=some k∧seq k.name n=true:=by
 unfold ab3 idx at *
 split at h
 ·rename_i o ho
  obtain ⟨h1,h2,_⟩:=List.findIdx?_eq_some_iff_getElem.1 ho
  exact ⟨o,x.kinds[o],by simp [ho],List.getElem?_eq_getElem h1,h2⟩
 ·omega
theorem refUp_at (x:Sch) (i:Int) (f:Fld) (h:0≤refUp x i f):∃ (o:Nat) (k:Knd),refUp x i f=o∧x.kinds[o]?=some k:=by
 unfold refUp at *
 split at h
 ·obtain ⟨o,k,h1,h2,_⟩:=bh5 x f.of h
  exact ⟨o,k,by rw [if_pos (by assumption)];exact h1,h2⟩
 ·omega
theorem upIx_at (x:Sch) (i j:Int) (h:0≤upIx x i j):∃ (o:Nat) (k:Knd),upIx x i j=o∧x.kinds[o]?=some k:=by
 unfold upIx at *
 cases hf:fieldAt x i j with
 | none=>simp [hf] at h
 | some f=>
  simp only [hf] at h ⊢
  split at h
  ·rename_i h7
   simp only [h7,if_true]
   unfold aw9 at *
   split at h
   ·rename_i g hg;exact refUp_at x i g h
   ·omega
  ·rename_i h7
   simp only [h7,if_false]
   split at h
   ·rename_i h1;simp only [h1,if_true];exact refUp_at x i f h
   ·omega
def topF (x:Sch) (i j:Int) (f:Fld):Option Fld:=
 if upIx x i j<0 then none else match af0 x (upIx x i j) with|some k=>fieldAt x (upIx x i j) (ab7 k f.of)|none=>none
def aM7:Fld:=⟨⟨#[]⟩,⟨#[]⟩,⟨#[]⟩,0,0,0,[],[]⟩
def topR (x:Sch) (i j:Int) (f:Fld):Fld × Bool:=match topF x i j f with|some g=>(g,true)|none=>(aM7,false)
def atR (x:Sch) (i j:Int):Fld × Bool:=match fieldAt x i j with|some g=>(g,true)|none=>(aM7,false)
def ao4:List (Bool × Int)→Int
 | []=>0
 | (true,c) :: _=>c
 | (false,_) :: l=>ao4 l
def ai6 (x:Sch) (k:Knd) (o:Int) (n:ByteArray):Bool:=!isE n && !(atR x o (ab7 k n)).2
def ae8 (x:Sch) (k:Knd) (o:Int) (n:ByteArray):Bool:=!isE n && ((atR x o (ab7 k n)).1.kind != 2 && (atR x o (ab7 k n)).1.kind != 4)
def ai2 (x:Sch) (i:Nat) (r:Rul):Bool:=(x.rules.take i).any (fun s=>seq s.name r.name)
def az8 (x:Sch) (i:Nat) (r:Rul):Int:=
 match af0 x (ab3 x r.kind) with
 | none=>ao4 [(ai2 x i r,7),(true,12),(false,13),(seq r.a r.b,1)]
 | some k=>ao4 [(ai2 x i r,7),(ai6 x k (ab3 x r.kind) r.a || ai6 x k (ab3 x r.kind) r.b,12),(ae8 x k (ab3 x r.kind) r.a || ae8 x k (ab3 x r.kind) r.b,13),(seq r.a r.b,1)]
theorem aD9:∀ (fs:List (Bool × Int)) (n:Nat),(∀ (j:Nat) x,j<n→fs[j]?=some x→x.1=false)→ao4 (fs.drop n)=ao4 fs
 | fs,0,_=>by simp
 | [],n+1,_=>by simp
 | (b,c) :: l,n+1,h=>by
  have hb:b=false:=h 0 (b,c) (by omega) rfl
  subst hb
  have:=aD9 l n (fun j x hj hx=>h (j+1) x (by omega) (by simpa using hx))
  simpa [ao4] using this
theorem firstC_at {fs:List (Bool × Int)} {n:Nat} {x:Bool × Int} (h:∀ (j:Nat) x,j<n→fs[j]?=some x→x.1=false) (hx:fs[n]?=some x) (hb:x.1=true):ao4 fs=x.2:=by
 rw [← aD9 fs n h]
 have hlt:=(List.getElem?_eq_some_iff.1 hx).1
 have he:=(List.getElem?_eq_some_iff.1 hx).2
 rw [List.drop_eq_getElem_cons hlt,he]
 obtain ⟨b,c⟩:=x
 simp only at hb;subst hb;rfl
theorem firstC_none {fs:List (Bool × Int)} (h:∀ (j:Nat) x,fs[j]?=some x→x.1=false):ao4 fs=0:=by
 rw [← aD9 fs fs.length (fun j x _ hx=>h j x hx),List.drop_length];rfl
end
section
open Go
abbrev Prb:=Int × Int × Int × Int
def one (k f r e:Int):List Prb:=if e=0 then [] else [(k,f,r,e)]
theorem aA0 (k f r e:Int):(one k f r e).length≤1:=by unfold one;split <;> simp
theorem one0 (k f r:Int):one k f r 0=[]:=by simp [one]
def upTo {α:Type} (q:Nat) (g:Nat→List α):List α:=(List.range q).flatMap g
theorem ac8 {α:Type} (q:Nat) (g:Nat→List α):upTo (q+1) g=upTo q g ++ g q:=by simp [upTo,List.range_succ,List.flatMap_append]
theorem af6 {α:Type} {g:Nat→List α} {m:Nat} (h:∀ i,(g i).length≤m):∀ q,(upTo q g).length≤q*m
 | 0=>by simp [upTo]
 | q+1=>by rw [ac8,List.length_append,Nat.add_mul];have:=af6 h q;have:=h q;omega
def am0 (x:Sch) (i:Int) (f:Fld):Int × List Int:=if ak4 x i f then (-1,[]) else (ab3 x f.of,as0 x i f)
def abvR (x:Sch) (i j:Int) (f:Fld):Int × Fld:=match topF x i j f with
 | none=>(-1,aM7)
 | some g=>(g.kind,g)
def aR7 (x:Sch) (i j:Int) (f:Fld) (up:Int):Int:=
 if up<0 then 12
 else if f.kind=7 then (if (abvR x i j f).1=6∧ab3 x (abvR x i j f).2.of=i then 0 else 13)
 else if (abvR x i j f).1<0∨(abvR x i j f).1=0∨(abvR x i j f).1=1∨(abvR x i j f).1=6∨(abvR x i j f).1=7 then 13 else 0
def dayE (x:Sch) (i j:Int) (f:Fld):Int:=match af0 x i with
 | none=>0
 | some k=>if isE f.of then 0 else if ab7 k f.of<0∨j≤ab7 k f.of then 12 else match k.fields[(ab7 k f.of).toNat]? with|some g=>if g.kind=4 then 0 else 12|none=>12
def ac2 (x:Sch) (i j:Int) (f:Fld):Int:=
 if f.kind=0∧0<j then 13
 else if f.kind=0∨f.kind=2∨f.kind=3 then 0
 else if f.kind=1 then (if upIx x i j<0 then 12 else 0)
 else if f.kind=4 then dayE x i j f
 else if f.kind=5 then (if x.lives.any (fun l=>seq l.name f.of) then 0 else 12)
 else if f.kind=6 then (if (am0 x i f).1<0 then 12 else if (am0 x i f).2.length=1 then 0 else 11)
 else aR7 x i j f (upIx x i j)
def bh6 (fs:List Fld):Bool:=match fs with | []=>false|f :: _=>decide (f.kind=0)
def aq2 (x:Sch) (i:Nat) (l:Lif):Bool:=(x.lives.take i).any (fun m=>seq m.name l.name)
def aA2 (x:Sch) (i:Nat):List Prb:=match x.lives[i]? with|some l=>one (-1) i (-1) (if aq2 x i l then 7 else 0)|none=>[]
def af8 (x:Sch) (i:Nat) (k:Knd):Int:=if ab3 x k.name<i then 7 else if bh6 k.fields then 0 else 11
def al1 (x:Sch) (i:Nat) (k:Knd) (j:Nat) (f:Fld):Int:=if ab7 k f.name<j then 7 else ac2 x i j f
def ac5 (x:Sch) (i:Nat) (k:Knd) (j:Nat):List Prb:=match k.fields[j]? with|some f=>one i j (-1) (al1 x i k j f)|none=>[]
def ae5 (x:Sch) (i:Nat):List Prb:=match x.kinds[i]? with|some k=>one i (-1) (-1) (af8 x i k) ++ upTo k.fields.length (ac5 x i k)|none=>[]
def aD1 (x:Sch) (i:Nat):List Prb:=match x.rules[i]? with|some r=>one (-1) (-1) i (az8 x i r)|none=>[]
def ac9 (x:Sch):Int:=if ag5 x then 0 else 1
def ap8 (x:Sch):List Prb:=if ac9 x=0 then upTo x.lives.length (aA2 x) ++ upTo x.kinds.length (ae5 x) ++ upTo x.rules.length (aD1 x) else [(-1,-1,-1,ac9 x)]
theorem aG1 (x:Sch) (i:Nat):(aA2 x i).length≤1:=by unfold aA2;split;exact aA0 _ _ _ _;simp
theorem ax8 (x:Sch) (i:Nat) (k:Knd) (j:Nat):(ac5 x i k j).length≤1:=by unfold ac5;split;exact aA0 _ _ _ _;simp
theorem bd7 (x:Sch) (i:Nat):(aD1 x i).length≤1:=by unfold aD1;split;exact aA0 _ _ _ _;simp
theorem bh4 (x:Sch) (i:Nat) (h:∀ k∈x.kinds,k.fields.length≤10):(ae5 x i).length≤11:=by
 unfold ae5
 split
 ·rename_i k hk
  rw [List.length_append]
  have h1:=af6 (ax8 x i k) k.fields.length
  have h2:=h k (List.mem_of_getElem? hk)
  have h3:=aA0 i (-1) (-1) (af8 x i k)
  omega
 ·simp
structure Vld (x:Sch):Prop where
 nk:x.kinds.length≤6
 nl:x.lives.length≤6
 nr:x.rules.length≤16
 nf:∀ k∈x.kinds,k.fields.length≤10
 kinds:∀ k∈x.kinds,ag2 k=true
 lives:∀ l∈x.lives,ag7 l=true
 rules:∀ r∈x.rules,an3 r=true
theorem vld_of {x:Sch} (h:ag5 x=true):Vld x:=by
 simp only [ag5,Bool.and_eq_true,decide_eq_true_eq,List.all_eq_true] at h
 obtain ⟨⟨⟨⟨⟨⟨_,h2⟩,h3⟩,h4⟩,h5⟩,h6⟩,h7⟩:=h
 exact ⟨h2,h3,h4,fun k hk=>by have:=h5 k hk;simp only [ag2,Bool.and_eq_true,decide_eq_true_eq] at this;exact this.1.2,h5,h6,h7⟩
theorem vld_of0 {x:Sch} (h:ac9 x=0):Vld x:=by
 unfold ac9 at h
 split at h
 ·exact vld_of (by assumption)
 ·omega
end
section
open Go
theorem sb0 {A B:Prop} (k:B) (h:Hd7 B→A:=by intro hk7q;(first|((with_reducible refine W.mk ?_);(conv=>whnf))|(with_reducible refine Br.tt ?_)|(with_reducible refine Br.ff ?_)|(with_reducible refine Br.n ?_)|((with_reducible refine' Br.eq ?h ?_);(case h=>(simp only [List.length_map,List.length_take,List.length_append,List.length_cons,List.length_nil,List.length_replicate,Nat.reduceAdd];exact rfl)))|((with_reducible refine Sd.go ?qs7 ?_);(case qs7=>first|trivial|(constructor <;> omega)|omega|assumption|((try simp only [List.length_map,List.length_take,List.length_append,List.length_cons,List.length_nil,List.length_replicate,Nat.reduceAdd] at *);first|(constructor <;> omega)|omega)))|((with_reducible refine Ck.go ?qs7 ?_);(case qs7=>kernel_rfl))|((with_reducible refine' Ix.mapAt ?hy ?h0 ?_);(case hy=>assumption);(case h0=>omega))|((with_reducible refine' Ix.at ?hy ?h0 ?_);(case hy=>exact rfl);(case h0=>omega))|((with_reducible refine Ix.mapM ?h0 ?_);(case h0=>first|omega|(simp only [List.length_map,List.length_take,List.length_append,List.length_cons,List.length_nil,List.length_replicate,Nat.reduceAdd] at *;omega)))|((with_reducible refine' Ld.at 0 ?h1 ?h2 ?h3 ?_);(case h1=>exact rfl);(case h2=>exact rfl);(case h3=>exact rfl))|((with_reducible refine' Ld.at 1 ?h1 ?h2 ?h3 ?_);(case h1=>exact rfl);(case h2=>exact rfl);(case h3=>exact rfl))|((with_reducible refine' Ld.at 2 ?h1 ?h2 ?h3 ?_);(case h1=>exact rfl);(case h2=>exact rfl);(case h3=>exact rfl))|((with_reducible refine' Sv.at 0 ?h1 ?h2 ?h3 ?h4 ?h5 ?_);(case h1=>exact rfl);(case h2=>exact rfl);(case h3=>exact rfl);(case h4=>exact rfl);(case h5=>exact (by first|(simp only [List.set_cons_succ,List.set_cons_zero,spl,ah8,mkD,List.take_succ_cons,List.take_zero,List.drop_succ_cons,List.drop_zero,List.length_cons,List.length_nil,List.nil_append,List.cons_append,Nat.reduceAdd,Nat.zero_add,List.append_nil,List.map_cons,List.map_nil];rfl)|rfl)))|((with_reducible refine' Sv.at 1 ?h1 ?h2 ?h3 ?h4 ?h5 ?_);(case h1=>exact rfl);(case h2=>exact rfl);(case h3=>exact rfl);(case h4=>exact rfl);(case h5=>exact (by first|(simp only [List.set_cons_succ,List.set_cons_zero,spl,ah8,mkD,List.take_succ_cons,List.take_zero,List.drop_succ_cons,List.drop_zero,List.length_cons,List.length_nil,List.nil_append,List.cons_append,Nat.reduceAdd,Nat.zero_add,List.append_nil,List.map_cons,List.map_nil];rfl)|rfl)))|((with_reducible refine' Sv.at 2 ?h1 ?h2 ?h3 ?h4 ?h5 ?_);(case h1=>exact rfl);(case h2=>exact rfl);(case h3=>exact rfl);(case h4=>exact rfl);(case h5=>exact (by first|(simp only [List.set_cons_succ,List.set_cons_zero,spl,ah8,mkD,List.take_succ_cons,List.take_zero,List.drop_succ_cons,List.drop_zero,List.length_cons,List.length_nil,List.nil_append,List.cons_append,Nat.reduceAdd,Nat.zero_add,List.append_nil,List.map_cons,List.map_nil];rfl)|rfl)))|((with_reducible refine' Ot.yd ?hyd ?_);(case hyd=>first|(refine' yd_sidx aa0 rfl rfl rfl rfl rfl ?hc ?h0;(case hc=>assumption);(case h0=>omega))|(refine yd_slto aa0 rfl rfl rfl rfl rfl ?_;first|omega|(simp only [List.length_map,List.length_take,List.length_append,List.length_cons,List.length_nil,List.length_replicate,Nat.reduceAdd];omega))|(refine aV7 aa0 rfl rfl rfl rfl rfl ?_;omega)|exact yd_bne rfl rfl rfl Tryz.underlying4|exact yd_min rfl rfl rfl|exact yd_max rfl rfl rfl))|((with_reducible refine' Rs.tc aa0 (m:=0) ?h ?hi ?hj ?hb ?ht ?hag ?hs ?_);(case h=>exact rfl);(case hi=>exact rfl);(case hj=>exact rfl);(case hb=>exact rfl);(case ht=>exact rfl);(case hag=>exact rfl);(case hs=>exact rfl))|((with_reducible refine' Rs.ct aa0 (m:=0) ?h ?hi ?hj ?hb ?ht ?hag ?hs ?_);(case h=>exact rfl);(case hi=>exact rfl);(case hj=>exact rfl);(case hb=>exact rfl);(case ht=>exact rfl);(case hag=>exact rfl);(case hs=>exact rfl))|((with_reducible refine' Rs.c aa0 (m:=0) ?h ?hj ?hb ?ht ?hag ?hs ?_);(case h=>exact rfl);(case hj=>exact rfl);(case hb=>exact rfl);(case ht=>exact rfl);(case hag=>exact rfl);(case hs=>exact rfl))|((with_reducible refine Br.dt ?h ?_);(case h=>omega))|((with_reducible refine Br.df ?h ?_);(case h=>omega))|((with_reducible refine Br.t ?h ?_);(case h=>assumption))|((with_reducible refine Br.f ?h ?_);(case h=>assumption))|((with_reducible refine Br.t ?h ?_);(case h=>(refine decide_eq_true ?_;omega)))|((with_reducible refine Br.f ?h ?_);(case h=>(refine decide_eq_false ?_;omega))));exact hk7q.run):A:=h ⟨k⟩
theorem sb1 {A B:Prop} (k:B) (h:Hd7 B→A:=by intro hk7q;(first|(with_reducible refine Bc.l ?_)|(with_reducible refine Bx.l ?_)|((with_reducible refine Dr.l ?h ?_);(case h=>decide +kernel))|(with_reducible refine Dr.r ?_)|((with_reducible refine Dm.l ?h ?_);(case h=>decide +kernel))|((with_reducible refine Cb.go ?h ?_);(case h=>decide +kernel)));exact hk7q.run):A:=h ⟨k⟩
theorem sk2 {A B:Prop} (k:B) (h:Hd7 B→A:=by intro hk7q;(first|refine sb0 ?_|refine sb1 ?_|((with_reducible refine' Cp.by ?hc ?_);(case hc=>fail))|((with_reducible refine' CE.pure ?hc ?_);(case hc=>fail)));exact hk7q.run):A:=h ⟨k⟩
theorem al7 (x:Sch) (nm:ByteArray) (hl:x.kinds.length≤1000000):APure Tryz.prog 75 [schD x,sD nm] (iD (ab3 x nm)):=by
 refine APure.of_call (aa3 mixed aa0 Tryz.func75 (by kernel_rfl) rfl Tryz.ntmps75 rfl ?_);intro BB
 repeat' (first|refine sk2 ?_|(intro b;conv=>whnf)|refine IxM.mk fun y hy=>?_)
 refine ae3 mixed aa0 (γ:=Nat) (fun k=>[(5,iD k)]) (fun _=>[]) (fun k=>k≤x.kinds.length∧∀ i y,i<k→x.kinds[i]?=some y→seq y.name nm=false) (fun k=>x.kinds.length - k) 0 rfl rfl ⟨by omega,by omega⟩ ?_
 rintro k ⟨hk,hno⟩
 repeat' (first|refine sk2 ?_|(intro b;conv=>whnf)|refine IxM.mk fun y hy=>?_|(with_reducible refine Br.d (fun hc=>?_) (fun hc=>?_))|(with_reducible refine Br.b (fun hc=>?_) (fun hc=>?_)))
 ·refine Rt.pure (congrArg iD ?_)
  exact (ae6 hy ‹_› hno).symm
 ·exact ⟨k+1,rfl,rfl,⟨by omega,fun i z hi hz=>by
   by_cases e:i=k
   ·subst e;rw [show ((i:Int)).toNat=i from rfl,hz] at hy;cases hy;assumption
   ·exact hno i z (by omega) hz⟩,by omega⟩
 ·refine Rt.pure (congrArg iD ?_)
  exact (ap2 fun i y hy=>hno i y (by have:=(List.getElem?_eq_some_iff.1 hy).1;omega) hy).symm
def hasB (x:Sch) (i j:Int):Bool:=(fieldAt x i j).isSome
theorem ak8 {x:Sch} {i j:Int} (h:i<0∨(x.kinds.length:Int)≤i∨j<0):fieldAt x i j=none:=by
 unfold fieldAt af0
 by_cases hi:0≤i
 ·rw [if_pos hi]
  cases hk:x.kinds[i.toNat]? with
  | none=>rfl
  | some k=>
   have:=(List.getElem?_eq_some_iff.1 hk).1
   simp only
   rw [if_neg (by omega)]
 ·rw [if_neg hi]
theorem af3 {x:Sch} {i j:Int} {k:Knd} (h0:0≤i) (h1:0≤j) (hk:x.kinds[i.toNat]?=some k):fieldAt x i j=k.fields[j.toNat]?:=by
 unfold fieldAt af0
 rw [if_pos h0,hk]
 simp only
 rw [if_pos h1]
theorem ai3 (k:Knd) (nm:ByteArray) (hl:k.fields.length≤1000000):APure Tryz.prog 74 [kndD k,sD nm] (iD (ab7 k nm)):=by
 refine APure.of_call (aa3 mixed aa0 Tryz.func74 (by kernel_rfl) rfl Tryz.ntmps74 rfl ?_);intro BB
 repeat' (first|refine sk2 ?_|(intro b;conv=>whnf)|refine IxM.mk fun y hy=>?_)
 refine ae3 mixed aa0 (γ:=Nat) (fun q=>[(5,iD q)]) (fun _=>[]) (fun q=>q≤k.fields.length∧∀ i y,i<q→k.fields[i]?=some y→seq y.name nm=false) (fun q=>k.fields.length - q) 0 rfl rfl ⟨by omega,by omega⟩ ?_
 rintro q ⟨hq,hno⟩
 repeat' (first|refine sk2 ?_|(intro b;conv=>whnf)|refine IxM.mk fun y hy=>?_|(with_reducible refine Br.d (fun hc=>?_) (fun hc=>?_))|(with_reducible refine Br.b (fun hc=>?_) (fun hc=>?_)))
 ·refine Rt.pure (congrArg iD ?_)
  exact (ae6 hy ‹_› hno).symm
 ·exact ⟨q+1,rfl,rfl,⟨by omega,fun i z hi hz=>by
   by_cases e:i=q
   ·subst e;rw [show ((i:Int)).toNat=i from rfl,hz] at hy;cases hy;assumption
   ·exact hno i z (by omega) hz⟩,by omega⟩
 ·refine Rt.pure (congrArg iD ?_)
  exact (ap2 fun i y hy=>hno i y (by have:=(List.getElem?_eq_some_iff.1 hy).1;omega) hy).symm
theorem aI1 (x:Sch) (i j:Int):APure Tryz.prog 73 [schD x,iD i,iD j] (bD (hasB x i j)):=by
 refine APure.of_call (aa3 mixed aa0 Tryz.func73 (by kernel_rfl) rfl Tryz.ntmps73 rfl ?_);intro BB
 repeat' (first|refine sk2 ?_|(intro b;conv=>whnf)|refine IxM.mk fun y hy=>?_|(with_reducible refine Br.d (fun hc=>?_) (fun hc=>?_))|(with_reducible refine Br.b (fun hc=>?_) (fun hc=>?_)))
 ·refine Rt.pure (congrArg bD ?_)
  simp [hasB,ak8 (x:=x) (i:=i) (j:=j) (by omega)]
 ·refine Rt.pure (congrArg bD ?_)
  simp [hasB,ak8 (x:=x) (i:=i) (j:=j) (by omega)]
 ·refine Rt.pure (congrArg bD ?_)
  simp [hasB,ak8 (x:=x) (i:=i) (j:=j) (by omega)]
 ·refine Rt.pure (congrArg bD ?_)
  rw [hasB,af3 (by omega) (by omega) hy]
  by_cases hlt:j<y.fields.length
  ·rw [List.getElem?_eq_getElem (by omega)];simpa using hlt
  ·rw [List.getElem?_eq_none (by omega)];simpa using hlt
theorem af7 {x:Sch} {i j:Int} {f:Fld} (h:fieldAt x i j=some f):0≤i∧0≤j∧∃ k,x.kinds[i.toNat]?=some k∧k.fields[j.toNat]?=some f:=by
 unfold fieldAt af0 at h
 by_cases hi:0≤i
 ·rw [if_pos hi] at h
  cases hk:x.kinds[i.toNat]? with
  | none=>simp [hk] at h
  | some k=>
   simp only [hk] at h
   by_cases hj:0≤j
   ·rw [if_pos hj] at h;exact ⟨hi,hj,k,rfl,h⟩
   ·rw [if_neg hj] at h;cases h
 ·rw [if_neg hi] at h;cases h
theorem aH6 {x:Sch} {i j:Int} {f:Fld} {k:Knd} (hfa:fieldAt x i j=some f) (hka:af0 x i=some k):upIx x i j=if f.kind=7∨f.kind=8 then aw9 x i (aF4 (ab7 k f.up) j (fieldAt x i (ab7 k f.up))) else if f.kind=1 then refUp x i f else -1:=by
 simp only [upIx,hfa,upField,hka]
theorem as8 (k:Knd) (nm:ByteArray):ab7 k nm<k.fields.length:=aU7 _ _
theorem aQ0 (x:Sch) (nm:ByteArray):ab3 x nm<x.kinds.length:=aU7 _ _
theorem sk3 {A B:Prop} (k:B) (h:Hd7 B→A:=by intro hk7q;(first|refine sb0 ?_|refine sb1 ?_|((with_reducible refine' Cp.by ?hc ?_);(case hc=>first|exact aI1 _ _ _|exact al7 _ _ (by assumption)|exact ai3 _ _ (by assumption)))|((with_reducible refine' CE.pure ?hc ?_);(case hc=>first|exact aI1 _ _ _|exact al7 _ _ (by assumption)|exact ai3 _ _ (by assumption))));exact hk7q.run):A:=h ⟨k⟩
theorem aE9 (x:Sch) (i j:Int) (hl:x.kinds.length≤1000000) (hf:∀ k∈x.kinds,k.fields.length≤1000000):APure Tryz.prog 53 [schD x,iD i,iD j] (iD (upIx x i j)):=by
 refine APure.of_call (aa3 mixed aa0 Tryz.func53 (by kernel_rfl) rfl Tryz.ntmps53 rfl ?_);intro BB
 cases hfa:fieldAt x i j with
 | none=>
  have hh:hasB x i j=false:=by simp [hasB,hfa]
  repeat' (first|refine sk3 ?_|(intro b;conv=>whnf))
  refine Rt.pure (congrArg iD ?_);simp [upIx,hfa]
 | some f=>
  have hh:hasB x i j=true:=by simp [hasB,hfa]
  obtain ⟨h0,h1,k,hk,hkf⟩:=af7 hfa
  have hfk:=hf k (List.mem_of_getElem? hk)
  have hka:af0 x i=some k:=by simp [af0,h0,hk]
  have hlt:=as8 k f.up
  have hU:=aH6 hfa hka
  cases hg:fieldAt x i (ab7 k f.up) with
  | none=>
   have hneg:ab7 k f.up<0:=by
    refine Int.not_le.1 fun h=>?_
    rw [af3 h0 h hk,List.getElem?_eq_getElem (by omega)] at hg;cases hg
   simp only [hg,aF4,aw9] at hU
   repeat' (first|refine sk3 ?_|(intro b;conv=>whnf)|(with_reducible refine Br.d (fun hc=>?_) (fun hc=>?_))|(with_reducible refine Br.b (fun hc=>?_) (fun hc=>?_)))
   all_goals (refine Rt.pure (congrArg iD ?_);rw [hU];unfold refUp;(repeat' split) <;> first|rfl|omega)
  | some g=>
   obtain ⟨_,hpos,k',hk',hg0⟩:=af7 hg
   obtain rfl:k=k':=by rw [hk] at hk';exact Option.some.inj hk'
   simp only [hg,aF4] at hU
   repeat' (first|refine sk3 ?_|(intro b;conv=>whnf)|(with_reducible refine Br.d (fun hc=>?_) (fun hc=>?_))|(with_reducible refine Br.b (fun hc=>?_) (fun hc=>?_)))
   all_goals (refine Rt.pure (congrArg iD ?_);rw [hU];unfold refUp;(repeat' split) <;> first|rfl|omega|(unfold aw9;simp only;unfold refUp;(repeat' split) <;> first|rfl|omega))
end
section
open Go
abbrev Wd:=List (List (List Int))
abbrev Sb:=List (List Bool)
structure Rf where
 kind:Nat
 field:Nat
 up:Int
 least:Int
def refF (x:Sch) (k:Nat) (kd:Knd) (i:Nat):List Rf:=match kd.fields[i]? with
 | some f=>if f.kind=1 then [⟨k,i,upIx x k i,f.lo⟩] else []
 | none=>[]
def refK (x:Sch) (k:Nat):List Rf:=match x.kinds[k]? with
 | some kd=>upTo kd.fields.length (refF x k kd)
 | none=>[]
def aa7 (x:Sch):List Rf:=upTo x.kinds.length (refK x)
theorem aX4 (x:Sch) (k:Nat) (kd:Knd) (i:Nat):(refF x k kd i).length≤1:=by unfold refF;split <;> (try split) <;> simp
theorem aX3 (x:Sch) (k:Nat) (h:∀ k∈x.kinds,k.fields.length≤1000):(refK x k).length≤1000:=by
 unfold refK
 split
 ·rename_i kd hk
  have h1:=af6 (aX4 x k kd) kd.fields.length
  have h2:=h kd (List.mem_of_getElem? hk)
  omega
 ·simp
theorem aB5 {α:Type} {q:Nat} {g:Nat→List α} {a:α}:a∈upTo q g↔∃ i,i<q∧a∈g i:=by
 unfold upTo;rw [List.mem_flatMap];constructor
 ·rintro ⟨i,hi,ha⟩;exact ⟨i,List.mem_range.1 hi,ha⟩
 ·rintro ⟨i,hi,ha⟩;exact ⟨i,List.mem_range.2 hi,ha⟩
theorem aL9 {x:Sch} {r:Rf} (h:r∈aa7 x):∃ kd f,x.kinds[r.kind]?=some kd∧kd.fields[r.field]?=some f∧f.kind=1∧r.up=upIx x r.kind r.field∧r.least=f.lo:=by
 obtain ⟨k,hk,h⟩:=aB5.1 h
 unfold refK at h
 split at h
 ·rename_i kd hkd
  obtain ⟨i,hi,h⟩:=aB5.1 h
  unfold refF at h
  split at h
  ·rename_i f hf
   split at h
   ·rename_i h1
    rw [List.mem_singleton] at h
    subst h
    exact ⟨kd,f,hkd,hf,h1,rfl,rfl⟩
   ·cases h
  ·cases h
 ·cases h
def aX5 (w:Wd) (k i:Nat):List Int:=(w.getD k []).getD i []
def ay1 (w:Wd) (k i f:Nat):Int:=(aX5 w k i).getD f 0
def keptB (s:Sb) (k i:Nat):Bool:=(s.getD k []).getD i false
def ai5 (s:Sb) (k i:Nat):Sb:=s.set k ((s.getD k []).set i false)
def refOk (w:Wd) (r:Rf) (l:List Int):Bool:=!(decide (l.getD r.field 0<0) || decide ((w.getD r.up.toNat []).length≤l.getD r.field 0))
def lenOk (x:Sch) (k:Nat) (l:List Int):Bool:=decide (l.length=(match x.kinds[k]? with|some kd=>kd.fields.length|none=>0))
def lensB (x:Sch) (w:Wd):Bool:=(List.range w.length).all fun k=>(w.getD k []).all (lenOk x k)
def bd1 (w:Wd):Nat:=(w.map List.length).sum
def aG8 (x:Sch) (w:Wd):Bool:=decide (w.length=x.kinds.length) && lensB x w && (aa7 x).all (fun r=>(w.getD r.kind []).all (refOk w r)) && decide (bd1 w≤512)
def aO1 (w:Wd) (s:Sb):Bool:=decide (w.map List.length=s.map List.length)
def ac0 (x:Sch) (w:Wd) (s:Sb):Int:=if (ap8 x).length≠0 then 1 else if aG8 x w=false then 2 else if aO1 w s=false then 1 else 0
def am8 (s:Sb):Nat:=(s.map (fun l=>l.countP id)).sum
def ad7 (w:Wd) (s:Sb) (r:Rf) (i:Int):Nat:=(List.range (w.getD r.kind []).length).countP fun j=>keptB s r.kind j && decide (ay1 w r.kind j r.field=i)
def au6 (w:Wd) (s:Sb) (k i:Nat) (r:Rf):Bool:=(decide (r.kind=k) && !keptB s r.up.toNat (ay1 w k i r.field).toNat) || (decide (r.up=k) && decide ((ad7 w s r i:Int)<r.least))
def ar4 (x:Sch) (w:Wd) (s:Sb) (k i:Nat):Bool:=(aa7 x).any (au6 w s k i)
def aw7 (s:Sb):List (Nat × Nat):=upTo s.length fun k=>(List.range (s.getD k []).length).map fun i=>(k,i)
def ag1 (s:Sb):List (Nat × Nat):=(aw7 s).filter fun p=>keptB s p.1 p.2
def ae2 (x:Sch) (w:Wd) (t:Sb × Bool) (p:Nat × Nat):Sb × Bool:=if keptB t.1 p.1 p.2 && ar4 x w t.1 p.1 p.2 then (ai5 t.1 p.1 p.2,true) else t
def aj7 (x:Sch) (w:Wd) (s:Sb):Sb × Bool:=(aw7 s).foldl (ae2 x w) (s,false)
def az5 (x:Sch) (w:Wd):Nat→Sb→Sb
 | 0,s=>s
 | n+1,s=>if (aj7 x w s).2 then az5 x w n (aj7 x w s).1 else (aj7 x w s).1
def ao7 (x:Sch) (w:Wd) (s:Sb):Sb:=az5 x w (am8 s+1) s
def ak9 (x:Sch) (w:Wd) (s:Sb):Bool:=decide (ac0 x w s=0) && (aw7 s).all fun p=>!(keptB s p.1 p.2 && ar4 x w s p.1 p.2)
def ag8 (w:Wd):Sb:=w.map fun l=>List.replicate l.length true
def aq3 (s:Sb) (k i:Int):Bool:=decide (0≤k) && decide (0≤i) && keptB s k.toNat i.toNat
def aC5 (x:Sch) (w:Wd) (s:Sb):Sb × Int:=if ac0 x w s≠0 then ([],ac0 x w s) else (ao7 x w s,0)
def ad3 (x:Sch) (w:Wd) (s:Sb) (k i:Int):Sb × Int:=
 if ac0 x w s≠0 then ([],ac0 x w s) else if aq3 s k i=false then ([],6) else (ao7 x w (ai5 s k.toNat i.toNat),0)
def an1 (x:Sch) (w:Wd) (s:Sb) (k i:Int):List (Nat × Nat) × Int:=
 if (ad3 x w s k i).2≠0 then ([],(ad3 x w s k i).2) else ((ag1 s).filter (fun p=>!keptB (ad3 x w s k i).1 p.1 p.2),0)
def sameLens (a b:Sb):Bool:=decide (a.map List.length=b.map List.length)
/-! ### Laws -/
theorem aa4 {α:Type} {l:List α} {i:Nat} {a:α} (h:l[i]?=some a) (d:α):l.getD i d=a:=by simp [List.getD_eq_getElem?_getD,h]
theorem az2 (s:Sb) (k i:Nat):(ai5 s k i).length=s.length:=by simp [ai5]
theorem clearB_row (s:Sb) (k i j:Nat):((ai5 s k i).getD j []).length=(s.getD j []).length:=by
 unfold ai5
 simp only [List.getD_eq_getElem?_getD,List.getElem?_set]
 by_cases h:k=j
 ·subst h
  by_cases hl:k<s.length
  ·simp [hl]
  ·simp [hl]
 ·simp [h]
theorem at8 (s:Sb) (k i k' i':Nat):keptB (ai5 s k i) k' i'=(keptB s k' i' && !(decide (k=k') && decide (i=i'))):=by
 unfold keptB ai5
 simp only [List.getD_eq_getElem?_getD,List.getElem?_set]
 by_cases h:k=k'
 ·subst h
  by_cases hl:k<s.length
  ·simp only [if_pos,hl,Option.getD_some,List.getElem?_set,decide_true,Bool.true_and]
   by_cases hi:i=i'
   ·subst hi
    simp [hl]
    split <;> rfl
   ·simp [hi]
  ·simp [hl]
 ·simp [h]
theorem posOf_clear (s:Sb) (k i:Nat):aw7 (ai5 s k i)=aw7 s:=by
 unfold aw7
 rw [az2]
 unfold upTo
 congr 1
 funext j
 rw [clearB_row]
theorem aP5 {s:Sb} {p:Nat × Nat}:p∈aw7 s↔p.1<s.length∧p.2<(s.getD p.1 []).length:=by
 unfold aw7
 rw [aB5]
 constructor
 ·rintro ⟨k,hk,h⟩
  obtain ⟨i,hi,rfl⟩:=List.mem_map.1 h
  exact ⟨hk,List.mem_range.1 hi⟩
 ·rintro ⟨h1,h2⟩
  exact ⟨p.1,h1,List.mem_map.2 ⟨p.2,List.mem_range.2 h2,rfl⟩⟩
theorem aD4 (s:Sb):(aw7 s).Nodup:=by
 unfold aw7 upTo
 refine List.pairwise_flatMap.2 ⟨fun k _=>?_,?_⟩
 ·exact List.pairwise_map.2 (List.nodup_range.imp fun h e=>h (by cases e;rfl))
 ·refine List.pairwise_iff_getElem.2 fun i j hi hj hij=>?_
  simp only [List.getElem_range]
  intro p h1 q h2 e
  subst e
  obtain ⟨a,_,rfl⟩:=List.mem_map.1 h1
  obtain ⟨b,_,e⟩:=List.mem_map.1 h2
  cases e
  omega
theorem aG5 {s:Sb} {p:Nat × Nat} (h:keptB s p.1 p.2=true):p∈aw7 s:=by
 rw [aP5]
 unfold keptB at h
 simp only [List.getD_eq_getElem?_getD] at h ⊢
 cases h1:s[p.1]? with
 | none=>simp [h1] at h
 | some l=>
  have hl:=(List.getElem?_eq_some_iff.1 h1).1
  simp only [h1,Option.getD_some] at h ⊢
  refine ⟨hl,?_⟩
  cases h2:l[p.2]? with
  | none=>simp [h2] at h
  | some b=>exact (List.getElem?_eq_some_iff.1 h2).1
theorem countP_range {l:List Bool}:l.countP id=(List.range l.length).countP fun i=>l.getD i false:=by
 induction l with
 | nil=>rfl
 | cons b l ih=>
  rw [List.length_cons,List.range_succ_eq_map,List.countP_cons,List.countP_cons,List.countP_map,ih]
  simp [Function.comp_def]
theorem aE8 (s:Sb):am8 s=(ag1 s).length:=by
 unfold am8 ag1
 rw [← List.countP_eq_length_filter]
 unfold aw7 upTo
 rw [List.countP_flatMap]
 congr 1
 apply List.ext_getElem?
 intro k
 simp only [List.getElem?_map]
 by_cases hk:k<s.length
 ·rw [List.getElem?_eq_getElem hk,List.getElem?_range hk]
  simp only [Option.map_some,Option.some.injEq,Function.comp_apply]
  have:s.getD k []=s[k]:=by simp [List.getD_eq_getElem?_getD,hk]
  rw [countP_range,this,List.countP_map]
  simp only [Function.comp_def,keptB,this]
 ·simp [hk]
end
section
open Go
def rfC (r:Rf):List D:=[iD r.kind,iD r.field,iD r.up,iD r.least]
def slRf (l:List Rf):D:=.sl 4 (l.map rfC)
def slW1 (l:List (List Int)):D:=.sl 1 (l.map fun r=>[slI r])
def slW (w:Wd):D:=.sl 1 (w.map fun l=>[slW1 l])
def slB (l:List Bool):D:=.sl 1 (l.map fun b=>[bD b])
def slS2 (s:Sb):D:=.sl 1 (s.map fun l=>[slB l])
def atC (k i:Int):List D:=[iD k,iD i]
abbrev atD (k i:Int):D:=.agg (atC k i)
def slAt (l:List (Nat × Nat)):D:=.sl 2 (l.map fun p=>atC p.1 p.2)
end
section
open Go
def I64n (n:Int):Prop:=-9223372036854775808≤n∧n≤9223372036854775807
def posN (a:Int):Int:=if a<0 then -(a+1) else a
def arE (a n:Int):Int:=if n<1 then 0 else (posN a).tmod n
def atE (xs:List Int) (i n:Int):Int:=if i<0∨xs.length≤i then 0 else arE (xs.getD i.toNat 0) n
theorem aA9 (a n:Int):0≤arE a n∧(1≤n→arE a n<n)∧(n<1→arE a n=0):=by
 unfold arE
 have hp:0≤posN a:=by unfold posN;split <;> omega
 split
 ·exact ⟨by omega,fun h=>by omega,fun _=>rfl⟩
 ·refine ⟨Int.tmod_nonneg _ hp,fun h=>Int.tmod_lt_of_pos _ (by omega),fun h=>by omega⟩
theorem af2 (xs:List Int) (i n:Int):0≤atE xs i n∧(1≤n→atE xs i n<n):=by
 unfold atE
 split
 ·exact ⟨by omega,fun h=>by omega⟩
 ·have:=aA9 (xs.getD i.toNat 0) n
  exact ⟨this.1,this.2.1⟩
theorem aa5 (a n:Int) (ha:I64n a):APure Tryz.prog 11 [iD a,iD n] (iD (arE a n)):=by
 obtain ⟨h1,h2⟩:=ha
 refine APure.of_call (aa3 mixed aa0 Tryz.func11 (by kernel_rfl) rfl Tryz.ntmps11 rfl ?_);intro BB
 repeat' (first|refine sk2 ?_|(intro b;conv=>whnf)|(with_reducible refine Br.d (fun hc=>?_) (fun hc=>?_))|(with_reducible refine Br.b (fun hc=>?_) (fun hc=>?_)))
 all_goals
  refine Rt.pure (congrArg iD ?_)
  unfold arE posN
  simp [*]
def I64s (xs:List Int):Prop:=(∀ x∈xs,I64n x)∧xs.length≤140737488355328
theorem sk4 {A B:Prop} (k:B) (h:Hd7 B→A:=by intro hk7q;(first|refine sb0 ?_|refine sb1 ?_|((with_reducible refine' Cp.by ?hc ?_);(case hc=>exact HA))|((with_reducible refine' CE.pure ?hc ?_);(case hc=>exact HA)));exact hk7q.run):A:=h ⟨k⟩
theorem bf4 (xs:List Int) (hx:I64s xs) (i n:Int):APure Tryz.prog 52 [slI xs,iD i,iD n] (iD (atE xs i n)):=by
 have hxl:=hx.2
 by_cases h0:i<0
 ·have HA:=True.intro
  refine APure.of_call (aa3 mixed aa0 Tryz.func52 (by kernel_rfl) rfl Tryz.ntmps52 rfl ?_);intro BB
  repeat' (first|refine sk4 ?_|(intro b;conv=>whnf))
  refine Rt.pure (congrArg iD ?_)
  unfold atE;rw [if_pos (.inl h0)]
 ·by_cases h1:i.toNat<xs.length
  ·obtain ⟨a,ha⟩:∃ a,xs[i.toNat]?=some a:=⟨_,List.getElem?_eq_getElem h1⟩
   have HA:=aa5 a n (hx.1 a (List.mem_of_getElem? ha))
   refine APure.of_call (aa3 mixed aa0 Tryz.func52 (by kernel_rfl) rfl Tryz.ntmps52 rfl ?_);intro BB
   repeat' (first|refine sk4 ?_|(intro b;conv=>whnf))
   refine Rt.pure (congrArg iD ?_)
   unfold atE;rw [if_neg (by omega)]
   simp [List.getD_eq_getElem?_getD,ha]
  ·have HA:=True.intro
   refine APure.of_call (aa3 mixed aa0 Tryz.func52 (by kernel_rfl) rfl Tryz.ntmps52 rfl ?_);intro BB
   repeat' (first|refine sk4 ?_|(intro b;conv=>whnf))
   refine Rt.pure (congrArg iD ?_)
   unfold atE;rw [if_pos (by omega)]
abbrev mkB (b:Nat) (xs:List Int) (pos:Int):Nat × Blk:=(b,.cells 93 [slI xs,iD pos])
abbrev ptr (b:Nat):D:=.v (.pointer (some ⟨b,0,none⟩))
theorem ACall.imp {P:Program} {f:FuncId} {args:List D} {σ:aa1} {R R':D→aa1→Prop} (h:ACall P f args σ R) (k:∀ d s,R d s→R' d s):ACall P f args σ R':=
 ⟨h.ent,fun w X vs hv hs=>(h.run w X vs hv hs).mono fun e w' ⟨u,d,s,g1,g2,g3⟩=>⟨u,d,s,g1,k d s g2,g3⟩⟩
theorem aa8 (xs:List Int) (hx:I64s xs) (bm:Nat) (pos n:Int) (hp:0≤pos∧pos≤1000000000):ACall Tryz.prog 49 [ptr bm,iD n] [mkB bm xs pos] (fun d σ=>d=iD (atE xs pos n)∧σ=[mkB bm xs (pos+1)]):=by
 have HA:=bf4 xs hx (pos+1 - 1) n
 refine aa3 mixed aa0 Tryz.func49 (by kernel_rfl) rfl Tryz.ntmps49 rfl ?_;intro BB
 repeat' (first|refine sk4 ?_|(intro b;conv=>whnf))
 refine Rt.same ⟨?_,rfl⟩
 rw [show pos+1 - 1=pos by omega]
theorem an2 (xs:List Int) (hx:I64s xs) (bm:Nat) (pos n:Int) (hp:0≤pos∧pos≤1000000000):ACall Tryz.prog 49 [ptr bm,iD n] [mkB bm xs pos] (fun d σ=>∃ r,d=iD r∧(0≤r∧(1≤n→r<n))∧σ=[mkB bm xs (pos+1)]):=
 (aa8 xs hx bm pos n hp).imp fun d s ⟨h1,h2⟩=>⟨_,h1,af2 xs pos n,h2⟩
end
section
open Go
def ao8 (l:List Fld) (nm:ByteArray):Int:=idx (fun f=>seq f.name nm) l
def ap9 (n:Int):Bool:=!decide (n=0) && !decide (n=1) && !decide (n=6) && !decide (n=7)
def ar7 (k:Knd):Int:=idx (fun f=>ap9 f.kind) k.fields
theorem aO7 (l:List Fld) (nm:ByteArray) (hl:l.length≤1000000):APure Tryz.prog 71 [slF l,sD nm] (iD (ao8 l nm)):=by
 refine APure.of_call (aa3 mixed aa0 Tryz.func71 (by kernel_rfl) rfl Tryz.ntmps71 rfl ?_);intro BB
 repeat' (first|refine sk2 ?_|(intro b;conv=>whnf)|refine IxM.mk fun y hy=>?_)
 refine ae3 mixed aa0 (γ:=Nat) (fun q=>[(5,iD q)]) (fun _=>[]) (fun q=>q≤l.length∧∀ i y,i<q→l[i]?=some y→seq y.name nm=false) (fun q=>l.length - q) 0 rfl rfl ⟨by omega,by omega⟩ ?_
 rintro q ⟨hq,hno⟩
 repeat' (first|refine sk2 ?_|(intro b;conv=>whnf)|refine IxM.mk fun y hy=>?_|(with_reducible refine Br.d (fun hc=>?_) (fun hc=>?_))|(with_reducible refine Br.b (fun hc=>?_) (fun hc=>?_)))
 ·refine Rt.pure (congrArg iD ?_)
  exact (ae6 hy ‹_› hno).symm
 ·exact ⟨q+1,rfl,rfl,⟨by omega,fun i z hi hz=>by
   by_cases e:i=q
   ·subst e;rw [show ((i:Int)).toNat=i from rfl,hz] at hy;cases hy;assumption
   ·exact hno i z (by omega) hz⟩,by omega⟩
 ·refine Rt.pure (congrArg iD ?_)
  exact (ap2 fun i y hy=>hno i y (by have:=(List.getElem?_eq_some_iff.1 hy).1;omega) hy).symm
theorem cl2 {p:Prop} (h:p:=by repeat (first|exact Chk.nil|refine Chk.cons rfl ?_)):p:=h
theorem cl3 {p:Prop} (h:p:=by repeat (first|exact List.Sublist.refl _|exact List.nil_sublist _|apply List.Sublist.cons)):p:=h
theorem r09_copied (k:Knd) (hl:k.fields.length≤1000000):APure Tryz.prog 70 [kndD k] (iD (ar7 k)):=by
 refine APure.of_call (aa3 mixed aa0 Tryz.func70 (by kernel_rfl) rfl Tryz.ntmps70 rfl ?_);intro BB
 repeat' (first|refine sk2 ?_|(intro b;conv=>whnf))
 refine aa6 mixed aa0 (γ:=Nat) (fun q=>[(3,iD q)]) (fun _=>[]) (fun q=>q≤k.fields.length∧∀ i y,i<q→k.fields[i]?=some y→ap9 y.kind=false) (fun q=>k.fields.length - q) 0 (aa2 cl2) cl3 ⟨by omega,by omega⟩ ?_
 rintro q ⟨hq,hno⟩
 by_cases hql:q<k.fields.length
 ·obtain ⟨y,hy0⟩:∃ y,k.fields[q]?=some y:=⟨_,List.getElem?_eq_getElem hql⟩
  have hy:k.fields[((q:Nat):Int).toNat]?=some y:=hy0
  have nxt:ap9 y.kind=false→∀ i z,i<q+1→k.fields[i]?=some z→ap9 z.kind=false:=fun h i z hi hz=>by
   by_cases e:i=q
   ·subst e;cases hy0.symm.trans hz;exact h
   ·exact hno i z (by omega) hz
  by_cases h0:y.kind=0
  ·have hp:ap9 y.kind=false:=by unfold ap9;simp [h0]
   repeat' (first|refine sk2 ?_|(intro b;conv=>whnf))
   exact ⟨q+1,(aa2 cl2),cl3,⟨by omega,nxt hp⟩,by omega⟩
  ·by_cases h1:y.kind=1
   ·have hp:ap9 y.kind=false:=by unfold ap9;simp [h1]
    repeat' (first|refine sk2 ?_|(intro b;conv=>whnf))
    exact ⟨q+1,(aa2 cl2),cl3,⟨by omega,nxt hp⟩,by omega⟩
   ·by_cases h6:y.kind=6
    ·have hp:ap9 y.kind=false:=by unfold ap9;simp [h6]
     repeat' (first|refine sk2 ?_|(intro b;conv=>whnf))
     exact ⟨q+1,(aa2 cl2),cl3,⟨by omega,nxt hp⟩,by omega⟩
    ·by_cases h7:y.kind=7
     ·have hp:ap9 y.kind=false:=by unfold ap9;simp [h7]
      repeat' (first|refine sk2 ?_|(intro b;conv=>whnf))
      exact ⟨q+1,(aa2 cl2),cl3,⟨by omega,nxt hp⟩,by omega⟩
     ·have hp:ap9 y.kind=true:=by unfold ap9;simp [h0,h1,h6,h7]
      repeat' (first|refine sk2 ?_|(intro b;conv=>whnf))
      refine Rt.pure (congrArg iD ?_)
      exact (ae6 hy0 hp hno).symm
 ·obtain rfl:q=k.fields.length:=by omega
  repeat' (first|refine sk2 ?_|(intro b;conv=>whnf))
  refine Rt.pure (congrArg iD ?_)
  exact (ap2 fun i y hy=>hno i y (List.getElem?_eq_some_iff.1 hy).1 hy).symm
end
end Go.Proofs.YtjbbmjjildhfbaaGreatDoor
