/-
  Parts of the proofs for this seat: TY EX H K FA TX D1 T1 G1 G2 CPX FR L14 KT SX.
-/
import Derived.Lib.ItoaLen
import Derived.Lib.ItoaNum
import Derived.Lib.Join
import Derived.Lib.LaidTab
import Derived.Shelf.LaysM
import Derived.Shelf.Strconv.Itoa0
import Derived.Shelf.Strconv.Itoa1
import Derived.Shelf.Strconv.Itoa2
import Derived.Shelf.Strconv.Itoa3
import Derived.Shelf.Strings.Builder1
import Derived.Shelf.Strings.Builder2
import Derived.Shelf.Strings.OnBuilder
import Derived.Sort.Grow
import Derived.Test.YtkffbhpobnndeaaDoorChecked
import Derived.Test.YtkffbhpobnndeaaDoorRows
import Derived.Test.YtkffbhpobnndeaaDoorP3
import Derived.Test.YtkffbhpobnndeaaDoorP4
set_option linter.unusedSimpArgs false
set_option linter.unusedVariables false
set_option maxRecDepth 100000
set_option maxHeartbeats 4000000
namespace Go.Proofs.YtkffbhpobnndeaaDoor
open Go.AM
@[ext] structure Zb where
 Vars:List Int
 Rows:List (List Int)
 deriving DecidableEq
def Zb.c(x:Zb):List T:=[tI x.Vars,tII x.Rows]
@[simp] theorem Zb.c_def(x:Zb):x.c=[tI x.Vars,tII x.Rows]:=rfl
abbrev Zb.small(x:Zb):Prop:=SmA x.Vars∧SmL SmA x.Rows
abbrev Zb.okay(x:Zb):Prop:=OkL OkI x.Vars∧OkL (OkL OkI) x.Rows
theorem Zb.dec(ts:List T)(h:HasShs [.slice [.int .i64],.slice [.slice [.int .i64]]] ts):∃x:Zb,ts=x.c∧x.okay:=by
 obtain⟨t0,us0,rfl,g0,h0⟩:=Zcg h;obtain⟨t1,us1,rfl,g1,h1⟩:=Zcg h0;cases Zf3 h1;obtain⟨x0,rfl,o0⟩:=dec_tI g0;obtain⟨x1,rfl,o1⟩:=Zli g1;exact⟨⟨x0,x1⟩,rfl,o0,o1⟩
def Zb.sz(x:Zb)(l:Int):Int:=Zbv (sz1 x.Vars.length l) fun l=>Zbv (szL szI x.Rows l) fun l=>l
theorem Zb.sz_ok(x:Zb)(l:Int)(hx:x.okay)(h0:0≤l)(h1:l≤1048576)(h:0≤x.sz l):x.sz l≤l∧x.small:=by
 unfold Zb.sz at h⊢;simp only[Zbv]at h⊢;split at h
 ·omega
 rename_i q0;rw[if_neg q0];have s0:=Zhn hx.1.1 h0 h1 (Int.not_lt.1 q0);split at h
 ·omega
 rename_i q1;rw[if_neg q1];have s1:=szL_ok (f:=szI) (p:=fun y:List Int=>SmA y) hx.2.1 (fun y hy l a b c=>Zhn (hx.2.2 y hy).1 a b c) (by omega) (by omega) (Int.not_lt.1 q1);exact⟨by omega,s0.2,s1.2⟩
@[ext] structure Zm where
 Mode:Int
 Cost:Int
 Runs:Int
 Zb:Zb
 deriving DecidableEq
def Zm.c(x:Zm):List T:=[.int .i64 x.Mode,.int .i64 x.Cost,.int .i64 x.Runs,tI x.Zb.Vars,tII x.Zb.Rows]
@[simp] theorem Zm.c_def(x:Zm):x.c=[.int .i64 x.Mode,.int .i64 x.Cost,.int .i64 x.Runs,tI x.Zb.Vars,tII x.Zb.Rows]:=rfl
abbrev Zm.small(x:Zm):Prop:=SmA x.Zb.Vars∧SmL SmA x.Zb.Rows
abbrev Zm.okay(x:Zm):Prop:=OkI x.Mode∧OkI x.Cost∧OkI x.Runs∧OkL OkI x.Zb.Vars∧OkL (OkL OkI) x.Zb.Rows
theorem Zm.dec(ts:List T)(h:HasShs [.int .i64,.int .i64,.int .i64,.slice [.int .i64],.slice [.slice [.int .i64]]] ts):∃x:Zm,ts=x.c∧x.okay:=by
 obtain⟨t0,us0,rfl,g0,h0⟩:=Zcg h;obtain⟨t1,us1,rfl,g1,h1⟩:=Zcg h0;obtain⟨t2,us2,rfl,g2,h2⟩:=Zcg h1;obtain⟨t3,us3,rfl,g3,h3⟩:=Zcg h2;obtain⟨t4,us4,rfl,g4,h4⟩:=Zcg h3;cases Zf3 h4;obtain⟨x0,rfl,o0⟩:=Zf2 g0;obtain⟨x1,rfl,o1⟩:=Zf2 g1;obtain⟨x2,rfl,o2⟩:=Zf2 g2;obtain⟨x3,rfl,o3⟩:=dec_tI g3;obtain⟨x4,rfl,o4⟩:=Zli g4;exact⟨⟨x0,x1,x2,⟨x3,x4⟩⟩,rfl,o0,o1,o2,o3,o4⟩
def Zm.sz(x:Zm)(l:Int):Int:=Zbv (Zb.sz x.Zb l) fun l=>l
theorem Zm.sz_ok(x:Zm)(l:Int)(hx:x.okay)(h0:0≤l)(h1:l≤1048576)(h:0≤x.sz l):x.sz l≤l∧x.small:=by
 unfold Zm.sz at h⊢;simp only[Zbv]at h⊢;split at h
 ·omega
 rename_i q0;rw[if_neg q0];have s0:=Zb.sz_ok x.Zb _ ⟨hx.2.2.2.1,hx.2.2.2.2⟩ h0 h1 (Int.not_lt.1 q0);exact⟨by omega,s0.2.1,s0.2.2⟩
def Zlj(es:List (List T))(sep:ByteArray)(ws:List ByteArray):Prop:=es=ws.map sc∧ws.length≤140737488355328∧(Go.Lib.join (ws.map (·.data.toList)) sep.data.toList).length≤140737488355328
def joinB(ws:List ByteArray)(sep:ByteArray):ByteArray:=⟨(Go.Lib.join (ws.map (·.data.toList)) sep.data.toList).toArray⟩
open Classical in
noncomputable def ext:Ze:=fun f xs h0=>match xs,h0 with
 |[.t (.lst 1 es),.t (.str sep)],[]=>if f=40 then(if h:∃ws,Zlj es sep ws then some (.t (.str (joinB h.choose sep)),[])else none)else none
 |[.t (.int .i64 n),.t (.int .i64 10)],[]=>if f=42∧OkI n then some (.t (.str ⟨(Go.Lib.itoa n).toArray⟩),[])else none
 |_,_=>none
theorem sc_inj{a b:List ByteArray}(h:a.map sc=b.map sc):a=b:=(List.map_inj_right (fun x y (e:sc x=sc y)=>by simpa[sc]using e)).1 h
open Go.ChangeShapes Go.WideShapes Go.ChangeAt Go.RowKit
theorem own:ownKnob Tryd.prog.godebug=none:=by kernel_rfl
theorem laidOut:laidOutB Tryd.prog=true:=by kernel_rfl
noncomputable def tbl:Nat→Option MFun:=tblOf Tryd.prog [4000003,2000006,2000014,2000026,2000027]
noncomputable def C:Ze:=Zy ext tbl
theorem run{f:Nat}{xs:List AV}{m:MFun}(ht:tbl f=some m)(hl:xs.length=m.np){r:AV×List Blk}(h:Ev C [.fin 0 m.res] m.body ⟨Zb7 xs 0,[[]],[]⟩=some r):C f xs []=some r:=callC_of (h0:=[]) ht hl h
abbrev Zpe:Nat:=3
abbrev Zpf:Nat:=4
abbrev Zpg:Nat:=6
abbrev Zph:Nat:=8
abbrev Zpi:Nat:=9
abbrev Zpj:Nat:=14
abbrev Zpk:Nat:=19
abbrev Zpl:Nat:=20
abbrev Zpm:Nat:=21
abbrev Zpn:Nat:=26
abbrev Zpo:Nat:=27
abbrev Zpp:Nat:=33
abbrev Zpq:Nat:=34
abbrev t_int:Nat:=3
abbrev t_bool:Nat:=4
abbrev Zer:Nat:=22
def Zho:MFun:=⟨1,27,[.tmp 2],.r [.bx 1 0,.o 2 (.mov (.q false))] [1] (.r [.mk' 3 1048576] [1,3] (.r [.ln 7 5 1,.m 8 3,.cl 9 4 [7,8],.m 3 9] [1,3] (.wc [.m 10 3,.bk 11 .lss 10 0] [1,11] 11 (.r [.o 2 (.mov (.q true))] [2] .ret) (.r [.ln 12 5 1,.xl 13 6 [12],.cl 14 5 [13],.m 4 14] [1,4] (.r [.ln 15 5 1,.xl 16 6 [15],.o 5 (.alloc [.t .z,.t .z,.t .z,.t .nil,.t .nil]),.st 5 5 16] [1,4,5] (.r [.ln 17 5 5,.cl 18 7 [17],.m 6 18] [1,4,5,6] (.wc [.m 19 6,.m 20 4,.b 21 .neq 19 20] [1,5,21] 21 (.r [.o 2 (.mov (.q false))] [2] .ret) (.seq (.seq (.drw [.ln 22 5 5,.ln 23 5 1,.xl 24 6 [23],.cl 25 8 [22,24],.o 26 (.un .not (.s 25))] [[],[],[1],[0,2,2],[3]] [26]) (.cond (.s 26) (.r [.o 2 (.mov (.q false))] [2] .ret) .skip)) (.r [.o 2 (.mov (.q true))] [2] .ret)))))))))⟩
theorem Zpr:tbl 3=some Zho:=Zj Tryd.func3 (by kernel_rfl) (by kernel_rfl)
def Zlk:MFun:=⟨2,12,[.tmp 4],.r [.bx 2 0,.mk' 4 0] [1,2] (.r [.fa 5 3 2,.ln 6 2 5,.m 7 1,.cl 8 9 [6,7],.m 1 8] [1] (.wc [.m 9 1,.bk 10 .lss 9 0] [1,10] 10 (.r [.mk' 4 (-1)] [4] .ret) (.r [.m 11 1,.m 4 11] [4] .ret)))⟩
theorem Zps:tbl 4=some Zlk:=Zj Tryd.func4 (by kernel_rfl) (by kernel_rfl)
def Zll:MFun:=⟨1,18,[.cell 2 (some 5)],.r [.bx 1 0,.o 2 (.alloc [.t .z,.t .z,.t .z,.t .nil,.t .nil])] [1,2] (.r [.o 3 (.alloc [.t .z,.t .z,.t .z,.t .nil,.t .nil])] [1,2,3] (.r [.fa 4 0 1,.l 5 4,.fa 6 0 3,.st 1 6 5] [1,2,3] (.r [.fa 7 1 1,.l 8 7,.fa 9 1 3,.st 1 9 8] [1,2,3] (.r [.fa 10 2 1,.l 11 10,.fa 12 2 3,.st 1 12 11] [1,2,3] (.r [.fa 13 3 1,.ln 14 2 13,.cl 15 14 [14],.fa 16 3 3,.st 2 16 15] [2,3] (.r [.ln 17 5 3,.st 5 2 17] [2] .ret))))))⟩
theorem Zpt:tbl 6=some Zll:=Zj Tryd.func6 (by kernel_rfl) (by kernel_rfl)
def Zlm:MFun:=⟨2,26,[.tmp 4],.r [.bx 2 0,.bx 3 1,.o 4 (.mov (.q false))] [2,3] (.wc [.fa 5 0 2,.l 6 5,.fa 7 0 3,.l 8 7,.b 9 .neq 6 8] [2,3,9] 9 (.r [.o 4 (.mov (.q false))] [4] .ret) (.wc [.fa 10 1 2,.l 11 10,.fa 12 1 3,.l 13 12,.b 14 .neq 11 13] [2,3,14] 14 (.r [.o 4 (.mov (.q false))] [4] .ret) (.wc [.fa 15 2 2,.l 16 15,.fa 17 2 3,.l 18 17,.b 19 .neq 16 18] [2,3,19] 19 (.r [.o 4 (.mov (.q false))] [4] .ret) (.wc [.fa 20 3 2,.ln 21 2 20,.fa 22 3 3,.ln 23 2 22,.cl 24 19 [21,23],.o 25 (.un .not (.s 24))] [25] 25 (.r [.o 4 (.mov (.q false))] [4] .ret) (.r [.o 4 (.mov (.q true))] [4] .ret)))))⟩
theorem Zpu:tbl 8=some Zlm:=Zj Tryd.func8 (by kernel_rfl) (by kernel_rfl)
def Zln:MFun:=⟨2,18,[.tmp 4],.r [.bx 2 0,.mk' 4 0] [1,2] (.r [.fa 5 0 2,.l 6 5,.m 7 1,.cl 8 20 [6,7],.m 1 8] [1,2] (.wc [.m 9 1,.bk 10 .lss 9 0] [1,2,10] 10 (.r [.mk' 4 (-1)] [4] .ret) (.r [.fa 11 1 2,.l 12 11,.m 13 1,.cl 14 21 [12,13],.m 1 14] [1] (.wc [.m 15 1,.bk 16 .lss 15 0] [1,16] 16 (.r [.mk' 4 (-1)] [4] .ret) (.r [.m 17 1,.m 4 17] [4] .ret)))))⟩
theorem Zpv:tbl 9=some Zln:=Zj Tryd.func9 (by kernel_rfl) (by kernel_rfl)
def Zlo:MFun:=⟨1,13,[.cell 2 (some 2)],.r [.bx 1 0,.o 2 (.alloc [.t .nil,.t .nil])] [1,2] (.r [.o 3 (.alloc [.t .nil,.t .nil])] [1,2,3] (.r [.fa 4 0 1,.l 5 4,.cl 6 26 [5],.fa 7 0 3,.st 1 7 6] [1,2,3] (.r [.fa 8 1 1,.l 9 8,.cl 10 27 [9],.fa 11 1 3,.st 1 11 10] [2,3] (.r [.ln 12 2 3,.st 2 2 12] [2] .ret))))⟩
theorem Zpw:tbl 14=some Zlo:=Zj Tryd.func14 (by kernel_rfl) (by kernel_rfl)
def Zlp:MFun:=⟨2,17,[.tmp 4],.r [.bx 2 0,.bx 3 1,.o 4 (.mov (.q false))] [2,3] (.wc [.fa 5 0 2,.l 6 5,.fa 7 0 3,.l 8 7,.cl 9 33 [6,8],.o 10 (.un .not (.s 9))] [2,3,10] 10 (.r [.o 4 (.mov (.q false))] [4] .ret) (.wc [.fa 11 1 2,.l 12 11,.fa 13 1 3,.l 14 13,.cl 15 34 [12,14],.o 16 (.un .not (.s 15))] [16] 16 (.r [.o 4 (.mov (.q false))] [4] .ret) (.r [.o 4 (.mov (.q true))] [4] .ret)))⟩
theorem Zpx:tbl 19=some Zlp:=Zj Tryd.func19 (by kernel_rfl) (by kernel_rfl)
def Zlq:MFun:=⟨2,12,[.tmp 4],.r [.mk' 4 0] [0,1] (.r [.m 5 1,.m 6 0,.ll 7 6,.b 8 .sub 5 7,.m 1 8] [1] (.wc [.m 9 1,.bk 10 .lss 9 0] [1,10] 10 (.r [.mk' 4 (-1)] [4] .ret) (.r [.m 11 1,.m 4 11] [4] .ret)))⟩
theorem Zpy:tbl 20=some Zlq:=Zj Tryd.func20 (by kernel_rfl) (by kernel_rfl)
def Zdc:MCode :=.we [.m 12 5,.m 13 0,.ll 14 13,.b 15 .lss 12 14] [0,1,5,15] 15 0 (.seq (.block 1 (.r [.m 18 0,.m 19 5,.ia 20 1 18 19,.l 21 20,.m 22 1,.cl 23 20 [21,22],.m 1 23] [0,1,5] (.r [.m 24 1,.bk 25 .lss 24 0] [0,1,5,25] (.cond (.s 25) (.r [.mk' 4 (-1)] [4] .ret) .skip)))) (.reg [.m 16 5,.bk 17 .add 16 1,.m 5 17] [0,1,5]))
def Zlr:MFun:=⟨2,27,[.tmp 4],.r [.mk' 4 0] [0,1] (.r [.m 6 1,.m 7 0,.ll 8 7,.b 9 .sub 6 8,.m 1 9] [0,1] (.wc [.m 10 1,.bk 11 .lss 10 0] [0,1,11] 11 (.r [.mk' 4 (-1)] [4] .ret) (.seq (.r [.mk' 5 0] [0,1,5] (.block 0 (.loop [0,1,5] Zdc))) (.r [.m 26 1,.m 4 26] [4] .ret))))⟩
theorem Zpz:tbl 21=some Zlr:=Zj Tryd.func21 (by kernel_rfl) (by kernel_rfl)
def Zf6:MCode :=.we [.m 8 4,.m 9 0,.ll 10 9,.b 11 .lss 8 10] [0,3,4,11] 11 0 (.seq (.block 1 (.reg [.m 14 3,.m 15 4,.m 16 0,.m 17 4,.ia 18 1 16 17,.l 19 18,.ia 20 1 14 15,.st 1 20 19] [0,3,4])) (.reg [.m 12 4,.bk 13 .add 12 1,.m 4 13] [0,3,4]))
def Zls:MFun:=⟨1,22,[.tmp 2],.r [.o 2 (.mov (.c (.t .nil)))] [0] (.r [.m 5 0,.ll 6 5,.o 7 (.mkslice 3 1 8 [.z] (.s 6) (.s 6)),.m 3 7] [0,3] (.seq (.r [.mk' 4 0] [0,3,4] (.block 0 (.loop [0,3,4] Zf6))) (.r [.m 21 3,.m 2 21] [2] .ret)))⟩
theorem Zp0:tbl 26=some Zls:=Zj Tryd.func26 (by kernel_rfl) (by kernel_rfl)
def Zf7:MCode :=.we [.m 8 4,.m 9 0,.ll 10 9,.b 11 .lss 8 10] [0,3,4,11] 11 0 (.seq (.block 1 (.reg [.m 14 3,.m 15 4,.m 16 0,.m 17 4,.ia 18 1 16 17,.l 19 18,.cl 20 26 [19],.ia 21 1 14 15,.st 1 21 20] [0,3,4])) (.reg [.m 12 4,.bk 13 .add 12 1,.m 4 13] [0,3,4]))
def Zlt:MFun:=⟨1,23,[.tmp 2],.r [.o 2 (.mov (.c (.t .nil)))] [0] (.r [.m 5 0,.ll 6 5,.o 7 (.mkslice 22 1 24 [.lst 1 []] (.s 6) (.s 6)),.m 3 7] [0,3] (.seq (.r [.mk' 4 0] [0,3,4] (.block 0 (.loop [0,3,4] Zf7))) (.r [.m 22 3,.m 2 22] [2] .ret)))⟩
theorem Zp1:tbl 27=some Zlt:=Zj Tryd.func27 (by kernel_rfl) (by kernel_rfl)
def Zf8:MCode :=.we [.m 11 5,.m 12 0,.ll 13 12,.b 14 .lss 11 13] [0,1,5,14] 14 0 (.seq (.block 1 (.seq (.drw [.m 17 0,.m 18 5,.ia 19 1 17 18,.l 20 19,.m 21 1,.m 22 5,.ia 23 1 21 22,.l 24 23,.b 25 .neq 20 24] [[],[],[0,1],[2],[],[],[4,5],[6],[3,7]] [0,1,5,25]) (.cond (.s 25) (.r [.o 4 (.mov (.q false))] [4] .ret) .skip))) (.reg [.m 15 5,.bk 16 .add 15 1,.m 5 16] [0,1,5]))
def Zhp:MFun:=⟨2,26,[.tmp 4],.r [.o 4 (.mov (.q false))] [0,1] (.wc [.m 6 0,.ll 7 6,.m 8 1,.ll 9 8,.b 10 .neq 7 9] [0,1,10] 10 (.r [.o 4 (.mov (.q false))] [4] .ret) (.seq (.r [.mk' 5 0] [0,1,5] (.block 0 (.loop [0,1,5] Zf8))) (.r [.o 4 (.mov (.q true))] [4] .ret)))⟩
theorem Zp2:tbl 33=some Zhp:=Zj Tryd.func33 (by kernel_rfl) (by kernel_rfl)
def Zf9:MCode :=.we [.m 11 5,.m 12 0,.ll 13 12,.b 14 .lss 11 13] [0,1,5,14] 14 0 (.seq (.block 1 (.seq (.drw [.m 17 0,.m 18 5,.ia 19 1 17 18,.l 20 19,.m 21 1,.m 22 5,.ia 23 1 21 22,.l 24 23,.cl 25 33 [20,24],.o 26 (.un .not (.s 25))] [[],[],[0,1],[2],[],[],[4,5],[6],[3,7],[8]] [0,1,5,26]) (.cond (.s 26) (.r [.o 4 (.mov (.q false))] [4] .ret) .skip))) (.reg [.m 15 5,.bk 16 .add 15 1,.m 5 16] [0,1,5]))
def Zhq:MFun:=⟨2,27,[.tmp 4],.r [.o 4 (.mov (.q false))] [0,1] (.wc [.m 6 0,.ll 7 6,.m 8 1,.ll 9 8,.b 10 .neq 7 9] [0,1,10] 10 (.r [.o 4 (.mov (.q false))] [4] .ret) (.seq (.r [.mk' 5 0] [0,1,5] (.block 0 (.loop [0,1,5] Zf9))) (.r [.o 4 (.mov (.q true))] [4] .ret)))⟩
theorem Zp3:tbl 34=some Zhq:=Zj Tryd.func34 (by kernel_rfl) (by kernel_rfl)
theorem l_toIntS(xs:List Int)(h:SmA xs)(fr:List Fr):∀i,i≤xs.length→EvL C fr [0,3,4] Zf6 ⟨[(0,L 1 (xs.map ic)),(3,.own 0),(4,I i)],[[]],[.arr t_int 1 true (fill ic [.int .i64 0] xs i)]⟩ =
  EvX C fr (.x 0) ⟨[(0,L 1 (xs.map ic)),(3,.own 0),(4,I xs.length),(11,Bo false)],[[]],[.arr t_int 1 true (xs.map ic)]⟩:=by
 have hl:xs.length≤4294967296:=h;refine down xs.length ?_ ?_
 ·rw[Zu Zf6.eq_1];simp[Zk6]
 ·intro i hi ih;rw[Zu Zf6.eq_1,←ih];have h1:=Zk8 (f:=ic) (z:=[.int .i64 0]) hi;have h3:=Zk7 (f:=ic) (z:=[.int .i64 0]) (Nat.le_of_lt hi);have h4:IntKind.wrap .i64 ((i:Int)+1)=(i:Int)+1:=Zce (by omega) (by omega);simp at h1;simp[hi,h3,h4,h1]
theorem Zlu(xs:List Int)(h:SmA xs):C Zpn [L 1 (xs.map ic)] []=some (.own 0,[.arr t_int 1 true (xs.map ic)]):=by
 refine run Zp0 rfl ?_;have hl:xs.length≤4294967296:=h;have h1:∀b,b≤4096→xs.length*b≤room:=fun b hb=>Ym (Nat.mul_le_mul hl hb) (by decide)
 have h2:(xs.length:Int)≤140737488355328:=by omega
 have h3:=fun fr=>l_toIntS xs h fr 0 (Yf _)
 simp[Zk5]at h3;simp[Zls,h1,h2,h3]
theorem l_eqIntS(xs ys:List Int)(h:SmA xs)(hl:ys.length=xs.length)(fr:List Fr):∀i,i≤xs.length→EvL C fr [0,1,5] Zf8 ⟨[(0,L 1 (xs.map ic)),(1,L 1 (ys.map ic)),(5,I i)],[[]],[]⟩ =
  if xs.drop i=ys.drop i then EvX C fr (.x 0) ⟨[(0,L 1 (xs.map ic)),(1,L 1 (ys.map ic)),(5,I xs.length),(14,Bo false)],[[]],[]⟩else EvX C fr .r ⟨[(4,Bo false)],[[]],[]⟩:=by
 have hm:xs.length≤4294967296:=h;refine down xs.length ?_ ?_
 ·rw[Zu Zf8.eq_1];simp[hl,Ycg]
 ·intro i hi ih;have hi2:i<ys.length:=by omega
  have h4:IntKind.wrap .i64 ((i:Int)+1)=(i:Int)+1:=Zce (by omega) (by omega);rw[Zu Zf8.eq_1];simp +decide[hi,hi2,h4];simp at ih;simp only[Zle hi hi2,ih];split<;>first|(simp_all;done)|grind
theorem Zlv(xs ys:List Int)(h:SmA xs):C Zpp [L 1 (xs.map ic),L 1 (ys.map ic)] []=some (Bo (decide (xs=ys)),[]):=by
 refine run Zp2 rfl ?_;by_cases hl:ys.length=xs.length
 ·have h3:=fun fr=>l_eqIntS xs ys h hl fr 0 (Yf _)
  simp at h3;simp[Zhp,h3,hl];split<;>simp_all
 ·have h1:xs≠ys:=fun h=>hl (by rw[h])
  have h2:¬((xs.length:Int)=ys.length):=by omega
  simp[Zhp,h1,h2]
@[simp] theorem Zlw(es:List (List T))(left:Int):C Zpl [L 1 es,I left] []=some (I (sz1 es.length left),[]):=by
 refine run Zpy rfl ?_;simp[Zlq,sz1];split<;>simp_all
theorem Zp4(xs:List (List Int))(h:SmL SmA xs)(fr:List Fr):∀i,i≤xs.length→EvL C fr [0,3,4] Zf7 ⟨[(0,L 1 (xs.map isc)),(3,.own 0),(4,I i)],[[]],[.arr Zer 1 true (fill isc [.lst 1 []] xs i)]⟩ =
  EvX C fr (.x 0) ⟨[(0,L 1 (xs.map isc)),(3,.own 0),(4,I xs.length),(11,Bo false)],[[]],[.arr Zer 1 true (xs.map isc)]⟩:=by
 have hl:xs.length≤4294967296:=h.1;refine down xs.length ?_ ?_
 ·rw[Zu Zf7.eq_1];simp[Zk6]
 ·intro i hi ih;rw[Zu Zf7.eq_1,←ih];have h1:=Zk8 (f:=isc) (z:=[.lst 1 []]) hi;have h3:=Zk7 (f:=isc) (z:=[.lst 1 []]) (Nat.le_of_lt hi);have h4:IntKind.wrap .i64 ((i:Int)+1)=(i:Int)+1:=Zce (by omega) (by omega);simp at h1;simp[hi,Zlu _ (h.2 _ (Ys hi)),h3,h4,h1]
theorem Zp5(xs:List (List Int))(h:SmL SmA xs):C Zpo [L 1 (xs.map isc)] []=some (.own 0,[.arr Zer 1 true (xs.map isc)]):=by
 refine run Zp1 rfl ?_;have hl:xs.length≤4294967296:=h.1;have h1:∀b,b≤4096→xs.length*b≤room:=fun b hb=>Ym (Nat.mul_le_mul hl hb) (by decide)
 have h2:(xs.length:Int)≤140737488355328:=by omega
 have h3:=fun fr=>Zp4 xs h fr 0 (Yf _)
 simp[Zk5]at h3;simp[Zlt,h1,h2,h3]
theorem Zp6(xs ys:List (List Int))(h:SmL SmA xs)(hl:ys.length=xs.length)(fr:List Fr):∀i,i≤xs.length→EvL C fr [0,1,5] Zf9 ⟨[(0,L 1 (xs.map isc)),(1,L 1 (ys.map isc)),(5,I i)],[[]],[]⟩ =
  if xs.drop i=ys.drop i then EvX C fr (.x 0) ⟨[(0,L 1 (xs.map isc)),(1,L 1 (ys.map isc)),(5,I xs.length),(14,Bo false)],[[]],[]⟩else EvX C fr .r ⟨[(4,Bo false)],[[]],[]⟩:=by
 have hm:xs.length≤4294967296:=h.1;refine down xs.length ?_ ?_
 ·rw[Zu Zf9.eq_1];simp[hl,Ycg]
 ·intro i hi ih;have hi2:i<ys.length:=by omega
  have h4:IntKind.wrap .i64 ((i:Int)+1)=(i:Int)+1:=Zce (by omega) (by omega);rw[Zu Zf9.eq_1];simp +decide[hi,hi2,Zlv _ _ (h.2 _ (Ys hi)),h4];simp at ih;simp only[Zle hi hi2,ih];split<;>first|(simp_all;done)|grind
theorem Zp7(xs ys:List (List Int))(h:SmL SmA xs):C Zpq [L 1 (xs.map isc),L 1 (ys.map isc)] []=some (Bo (decide (xs=ys)),[]):=by
 refine run Zp3 rfl ?_;by_cases hl:ys.length=xs.length
 ·have h3:=fun fr=>Zp6 xs ys h hl fr 0 (Yf _)
  simp at h3;simp[Zhq,h3,hl];split<;>simp_all
 ·have h1:xs≠ys:=fun h=>hl (by rw[h])
  have h2:¬((xs.length:Int)=ys.length):=by omega
  simp[Zhq,h1,h2]
theorem Zp8(xs:List (List Int))(h:OkL (OkL OkI) xs)(fr:List Fr):∀i,i≤xs.length→∀left:Int,
  (EvL C fr [0,1,5] Zdc ⟨[(0,L 1 (xs.map isc)),(1,I left),(5,I i)],[[]],[]⟩=EvX C fr .r ⟨[(4,I (-1))],[[]],[]⟩∧Zcf szI (xs.drop i) left=-1) ∨
  EvL C fr [0,1,5] Zdc ⟨[(0,L 1 (xs.map isc)),(1,I left),(5,I i)],[[]],[]⟩=EvX C fr (.x 0) ⟨[(0,L 1 (xs.map isc)),(1,I (Zcf szI (xs.drop i) left)),(5,I xs.length),(15,Bo false)],[[]],[]⟩:=by
 have hm:maxLen≤9223372036854775807:=by decide
 have hl:=h.1;refine down xs.length ?_ ?_
 ·intro left;right;rw[Zu Zdc.eq_1];simp[Ycg,Zcf]
 ·intro i hi ih left;have h4:IntKind.wrap .i64 ((i:Int)+1)=(i:Int)+1:=Zce (by omega) (by omega);have e:EvL C fr [0,1,5] Zdc ⟨[(0,L 1 (xs.map isc)),(1,I left),(5,I i)],[[]],[]⟩=if szI xs[i] left<0 then EvX C fr .r ⟨[(4,I (-1))],[[]],[]⟩else EvL C fr [0,1,5] Zdc ⟨[(0,L 1 (xs.map isc)),(1,I (szI xs[i] left)),(5,I ((i+1:Nat):Int))],[[]],[]⟩:=by
   rw[Zu Zdc.eq_1];simp[hi,Zlw,h4]
  rw[e,Yk hi,Zcf];split
  ·exact .inl ⟨rfl,rfl⟩
  ·exact ih _
theorem Zp9(xs:List (List Int))(left:Int)(h:OkL (OkL OkI) xs):C Zpm [L 1 (xs.map isc),I left] []=some (I (szL szI xs left),[]):=by
 refine run Zpz rfl ?_;have h3:=fun fr l=>Zp8 xs h fr 0 (Yf _) l
 simp at h3;simp[Zlr,szL,Zbv,sz1];split
 ·simp_all
 ·rcases h3 [.blk 0,.seq _,.fin _ _] (IntKind.wrap .i64 (left-xs.length))with⟨h5,h6⟩|h5
  ·rw[h5];simp[h6]
  ·rw[h5];simp
theorem Zqa(x0:List Int)(x1:List (List Int))(h0:SmA x0)(h1:SmL SmA x1):C Zpj [.agg [.t (tI x0),.t (tII x1)]] []=some (.agg [.own 0,.own 1],[.arr t_int 1 true (x0.map ic),.arr Zer 1 true (x1.map isc)]):=by
 refine run Zpw rfl ?_;simp[Zlo,Zlu _ h0,Zp5 _ h1]
theorem Zqb(x0:List Int)(x1:List (List Int))(y0:List Int)(y1:List (List Int))(h0:SmA x0)(h1:SmL SmA x1):C Zpk [.agg [.t (tI x0),.t (tII x1)],.agg [.t (tI y0),.t (tII y1)]] []=some (Bo (decide (x0=y0∧x1=y1)),[]):=by
 refine run Zpx rfl ?_;simp[Zlp,Zlv _ _ h0,Zp7 _ _ h1]
 repeat' split
 all_goals first|(simp_all;done)|grind
theorem Zqc(x0:List Int)(x1:List (List Int))(left:Int)(h1:OkL (OkL OkI) x1):C Zpi [.agg [.t (tI x0),.t (tII x1)],I left] []=some (I (Zb.sz ⟨x0,x1⟩ left),[]):=by
 refine run Zpv rfl ?_;simp[Zln,Zlw,Zp9 _ _ h1,Zb.sz,Zbv,sz1]
 repeat' split
 all_goals first|(simp_all;done)|grind
theorem Zqd(x0 x1 x2:Int)(x3:List Int)(x4:List (List Int))(h3:SmA x3)(h4:SmL SmA x4):C Zpg [.agg [I x0,I x1,I x2,.t (tI x3),.t (tII x4)]] []=some (.agg [I x0,I x1,I x2,.own 0,.own 1],[.arr t_int 1 true (x3.map ic),.arr Zer 1 true (x4.map isc)]):=by
 refine run Zpt rfl ?_;simp[Zll,Zqa _ _ h3 h4]
theorem Zqe(x0 x1 x2:Int)(x3:List Int)(x4:List (List Int))(y0 y1 y2:Int)(y3:List Int)(y4:List (List Int))(h3:SmA x3)(h4:SmL SmA x4):C Zph [.agg [I x0,I x1,I x2,.t (tI x3),.t (tII x4)],.agg [I y0,I y1,I y2,.t (tI y3),.t (tII y4)]] []=some (Bo (decide (x0=y0∧x1=y1∧x2=y2∧x3=y3∧x4=y4)),[]):=by
 refine run Zpu rfl ?_;simp[Zlm,Zqb _ _ _ _ h3 h4]
 repeat' split
 all_goals first|(simp_all;done)|grind
theorem Zqf(x0 x1 x2:Int)(x3:List Int)(x4:List (List Int))(left:Int)(h4:OkL (OkL OkI) x4):C Zpf [.agg [I x0,I x1,I x2,.t (tI x3),.t (tII x4)],I left] []=some (I (Zm.sz ⟨x0,x1,x2,⟨x3,x4⟩⟩ left),[]):=by
 refine run Zps rfl ?_;simp[Zlk,Zqc _ _ _ h4,Zm.sz,Zbv,sz1]
 repeat' split
 all_goals first|(simp_all;done)|grind
@[simp] theorem Zb.map_inj(xs ys:List Zb):xs.map Zb.c=ys.map Zb.c↔xs=ys:=Zch (by
 intro a b h;simp at h
 simp[Zb.ext_iff,h])
@[simp] theorem Zm.map_inj(xs ys:List Zm):xs.map Zm.c=ys.map Zm.c↔xs=ys:=Zch (by
 intro a b h;simp at h
 simp[Zm.ext_iff,Zb.ext_iff,h])
def Zlx:MFun:=⟨3,15,[.tmp 6],.r [.o 6 (.mov (.q false))] [0,1,2] (.r [.m 7 0,.m 8 1,.b 9 .geq 7 8,.m 10 9,.g 11 10 (.mov (.s 0)),.g 12 10 (.mov (.s 2)),.g 13 10 (.b .leq 11 12),.o 14 (.pick (.s 10) (.s 13) (.q false)),.m 6 14] [6] .ret)⟩
noncomputable def Zca(a a1 a2:Int):Rs:=C 15 [I a,I a1,I a2] []
def Zhr:MCode:=.r [.b 10 .lss 9 8] [0,1,7,8,9,10] (.seq (.cond (.s 10) .skip (.exit 0)) (.seq (.block 1 (.r [.ia 11 1 7 9,.l 12 11,.m 6 12] [0,1,6,7,8,9] (.r [.m 13 6,.o 14 (.call 15 [.s 13,.c (.t .z),.c (.t (.int .i64 9))]),.o 15 (.un .not (.s 14))] [0,1,7,8,9,15] (.cond (.s 15) (.r [.o 4 (.mov (.q false))] [4] .ret) .skip)))) (.reg [.bk 16 .add 9 1,.m 9 16] [0,1,7,8,9])))
def Zhs:MCode:=.r [.m 17 0,.ll 18 17,.m 19 1,.b 20 .eql 18 19,.m 4 20] [4] .ret
def Zly:MFun:=⟨2,21,[.tmp 4],.r [.o 4 (.mov (.q false))] [0,1] (.seq (.r [.m 7 0,.ll 8 7,.mk' 9 0] [0,1,7,8,9] (.block 0 (.loop [0,1,7,8,9] Zhr))) Zhs)⟩
noncomputable def Zes(a:List Int)(a1:Int):Rs:=C 28 [L 1 (a.map ic),I a1] []
noncomputable def Zdd(cc:List Int)(c:Int)(x:List Int)(x1 x2:Int):Rs:=EvL C [.blk 0,.seq Zhs,.fin 0 [.tmp 4]] [0,1,7,8,9] Zhr ⟨[(0,L 1 (cc.map ic)),(1,I c),(7,L 1 (x.map ic)),(8,I x1),(9,I x2)],[[]],[]⟩
def Zlz:MFun:=⟨1,6,[.tmp 2],.r [.o 2 (.mov (.q false))] [0] (.r [.m 3 0,.m 4 0,.b 5 .neq 3 4,.m 2 5] [2] .ret)⟩
noncomputable def Zet(a:Int):Rs:=C 53 [I a] []
def Zl0:MFun:=⟨2,20,[.tmp 4],.r [.mk' 4 0] [0,1] (.r [.m 7 0,.cl 8 53 [7],.m 5 8] [0,1,5] (.r [.m 9 1,.cl 10 53 [9],.m 6 10] [0,1,5,6] (.wc [.m 11 5] [0,1,6,11] 11 (.wc [.m 12 6] [12] 12 (.r [.mk' 4 0] [4] .ret) (.r [.mk' 4 (-1)] [4] .ret)) (.wc [.m 13 6] [0,1,13] 13 (.r [.mk' 4 1] [4] .ret) (.wc [.m 14 0,.m 15 1,.b 16 .lss 14 15] [0,1,16] 16 (.r [.mk' 4 (-1)] [4] .ret) (.wc [.m 17 0,.m 18 1,.b 19 .gtr 17 18] [19] 19 (.r [.mk' 4 1] [4] .ret) (.r [.mk' 4 0] [4] .ret)))))))⟩
noncomputable def Zeu(a a1:Int):Rs:=C 46 [I a,I a1] []
def Zht:MCode:=.r [.b 12 .lss 11 10] [0,1,9,10,11,12] (.seq (.cond (.s 12) .skip (.exit 0)) (.seq (.block 1 (.r [.m 13 11,.ia 14 1 9 11,.l 15 14,.m 5 13,.m 6 15] [0,1,5,6,9,10,11] (.wc [.m 16 5,.m 17 1,.ll 18 17,.b 19 .geq 16 18] [0,1,5,6,9,10,11,19] 19 (.r [.mk' 4 1] [4] .ret) (.r [.m 20 1,.m 21 5,.ia 22 1 20 21,.l 23 22,.m 7 23] [0,1,6,7,9,10,11] (.r [.m 24 6,.m 25 7,.cl 26 46 [24,25],.m 8 26] [0,1,8,9,10,11] (.r [.m 27 8,.bk 28 .neq 27 0] [0,1,8,9,10,11,28] (.cond (.s 28) (.r [.m 29 8,.m 4 29] [4] .ret) .skip))))))) (.reg [.bk 30 .add 11 1,.m 11 30] [0,1,9,10,11])))
def Zhu:MCode:=.wc [.m 31 0,.ll 32 31,.m 33 1,.ll 34 33,.b 35 .lss 32 34] [35] 35 (.r [.mk' 4 (-1)] [4] .ret) (.r [.mk' 4 0] [4] .ret)
def Zl1:MFun:=⟨2,36,[.tmp 4],.r [.mk' 4 0] [0,1] (.seq (.r [.m 9 0,.ll 10 9,.mk' 11 0] [0,1,9,10,11] (.block 0 (.loop [0,1,9,10,11] Zht))) Zhu)⟩
noncomputable def Zga(a a1:List Int):Rs:=C 41 [L 1 (a.map ic),L 1 (a1.map ic)] []
noncomputable def Zde(s1 s2 x:List Int)(x1 x2:Int):Rs:=EvL C [.blk 0,.seq Zhu,.fin 0 [.tmp 4]] [0,1,9,10,11] Zht ⟨[(0,L 1 (s1.map ic)),(1,L 1 (s2.map ic)),(9,L 1 (x.map ic)),(10,I x1),(11,I x2)],[[]],[]⟩
def Zl2:MFun:=⟨2,8,[.tmp 4],.r [.mk' 4 0] [0,1] (.r [.m 5 0,.m 6 1,.cl 7 41 [5,6],.m 4 7] [4] .ret)⟩
noncomputable def Zev(a a1:List Int):Rs:=C 36 [L 1 (a.map ic),L 1 (a1.map ic)] []
def Zhv:MCode:=.we [.m 4 3,.m 5 0,.ll 6 5,.b 7 .lss 4 6] [0,3,7] 7 0 (.seq (.block 1 (.seq (.drw [.m 10 0,.m 11 3,.bk 12 .sub 11 1,.ia 13 1 10 12,.l 14 13,.m 15 0,.m 16 3,.ia 17 1 15 16,.l 18 17,.cl 19 36 [14,18],.bk 20 .geq 19 0] [[],[],[1],[0,2],[3],[],[],[5,6],[7],[4,8],[9]] [0,3,20]) (.cond (.s 20) (.r [.o 2 (.mov (.q false))] [2] .ret) .skip))) (.reg [.m 8 3,.bk 9 .add 8 1,.m 3 9] [0,3]))
def Zhw:MCode:=.r [.o 2 (.mov (.q true))] [2] .ret
def Zl3:MFun:=⟨1,21,[.tmp 2],.r [.o 2 (.mov (.q false))] [0] (.seq (.r [.mk' 3 1] [0,3] (.block 0 (.loop [0,3] Zhv))) Zhw)⟩
noncomputable def Zew(a:List (List Int)):Rs:=C 29 [L 1 (a.map isc)] []
noncomputable def Zdf(c:List (List Int))(i:Int):Rs:=EvL C [.blk 0,.seq Zhw,.fin 0 [.tmp 2]] [0,3] Zhv ⟨[(0,L 1 (c.map isc)),(3,I i)],[[]],[]⟩
def Zhx:MCode:=.r [.b 11 .lss 10 9] [1,8,9,10,11] (.seq (.cond (.s 11) .skip (.exit 0)) (.seq (.block 1 (.r [.m 12 10,.ia 13 1 8 10,.l 14 13,.m 3 12,.m 4 14] [1,3,4,8,9,10] (.r [.m 15 4,.o 16 (.call 15 [.s 15,.c (.t .z),.c (.t (.int .i64 3))]),.o 17 (.un .not (.s 16)),.m 18 17,.h 19 18 (.mov (.s 3)),.h 20 18 (.bk .gtr 19 0),.h 21 18 (.mov (.s 20)),.g 22 21 (.fa 0 1),.g 23 21 (.l 22),.g 24 21 (.mov (.s 3)),.g 25 21 (.bk .sub 24 1),.g 26 21 (.ia 1 23 25),.g 27 21 (.l 26),.g 28 21 (.mov (.s 4)),.g 29 21 (.b .geq 27 28),.h 30 18 (.pick (.s 21) (.s 29) (.q false)),.o 31 (.pick (.s 18) (.q true) (.s 30))] [1,8,9,10,31] (.cond (.s 31) (.r [.o 2 (.mov (.q false))] [2] .ret) .skip)))) (.reg [.bk 32 .add 10 1,.m 10 32] [1,8,9,10])))
def Zhy:MCode:=.r [.b 37 .lss 36 35] [1,34,35,36,37] (.seq (.cond (.s 37) .skip (.exit 2)) (.seq (.block 3 (.r [.ia 38 1 34 36,.l 39 38,.m 6 39] [1,6,34,35,36] (.r [.m 40 6,.fa 41 0 1,.l 42 41,.ll 43 42,.cl 44 28 [40,43],.o 45 (.un .not (.s 44))] [1,34,35,36,45] (.cond (.s 45) (.r [.o 2 (.mov (.q false))] [2] .ret) .skip)))) (.reg [.bk 46 .add 36 1,.m 36 46] [1,34,35,36])))
def Zhz:MCode:=.r [.fa 47 1 1,.l 48 47,.cl 49 29 [48],.m 2 49] [2] .ret
def Zh0:MCode:=.seq (.r [.fa 33 1 1,.l 34 33,.ll 35 34,.mk' 36 0] [1,34,35,36] (.block 2 (.loop [1,34,35,36] Zhy))) Zhz
def Zl4:MFun:=⟨1,50,[.tmp 2],.r [.bx 1 0,.o 2 (.mov (.q false))] [1] (.seq (.r [.fa 7 0 1,.l 8 7,.ll 9 8,.mk' 10 0] [1,8,9,10] (.block 0 (.loop [1,8,9,10] Zhx))) Zh0)⟩
noncomputable def Zdy(a:Zb):Rs:=C 16 [.agg (a.c.map .t)] []
noncomputable def Zcy(a:Zb)(x:List Int)(x1 x2:Int):Rs:=EvL C [.blk 0,.seq Zh0,.fin 0 [.tmp 2]] [1,8,9,10] Zhx ⟨[(1,.ptr 0 0),(8,L 1 (x.map ic)),(9,I x1),(10,I x2)],[[]],[.box (a.c.map .t)]⟩
noncomputable def Zdg(a:Zb)(x:List (List Int))(x1 x2:Int):Rs:=EvL C [.blk 2,.seq Zhz,.fin 0 [.tmp 2]] [1,34,35,36] Zhy ⟨[(1,.ptr 0 0),(34,L 1 (x.map isc)),(35,I x1),(36,I x2)],[[]],[.box (a.c.map .t)]⟩
noncomputable def Zh1(a a1:Int):Rs:=C 42 [I a,I a1] []
def Zl5:MFun:=⟨1,5,[.tmp 2],.r [.o 2 (.mov (.c (.t (.str ⟨#[]⟩))))] [0] (.r [.m 3 0,.o 4 (.call 42 [.s 3,.c (.t (.int .i64 10))]),.m 2 4] [2] .ret)⟩
noncomputable def Zgb(a:Int):Rs:=C 37 [I a] []
def Zl6:MFun:=⟨1,5,[.tmp 2],.r [.o 2 (.mov (.c (.t (.str ⟨#[]⟩))))] [0] (.r [.m 3 0,.cl 4 37 [3],.m 2 4] [2] .ret)⟩
noncomputable def Zgc(a:Int):Rs:=C 30 [I a] []
def Zl7:MFun:=⟨1,5,[.tmp 2],.r [.o 2 (.mov (.c (.t (.str ⟨#[]⟩))))] [0] (.r [.m 3 0,.cl 4 30 [3],.m 2 4] [2] .ret)⟩
noncomputable def Zgd(a:Int):Rs:=C 17 [I a] []
def Zl8:MFun:=⟨1,10,[.tmp 2],.r [.o 2 (.mov (.c (.t (.str ⟨#[]⟩))))] [0] (.wc [.m 3 0,.o 4 (.call 15 [.s 3,.c (.t .z),.c (.t (.int .i64 3))]),.o 5 (.un .not (.s 4))] [0,5] 5 (.r [.o 2 (.mov (.c (.t (.str ⟨#[]⟩))))] [2] .ret) (.r [.m 6 0,.m 7 0,.bk 8 .add 7 1,.o 9 (.slice none (.c (.t (.str ⟨#[88,89,90,85]⟩))) (some (.s 6)) (some (.s 8))),.m 2 9] [2] .ret))⟩
noncomputable def Zex(a:Int):Rs:=C 38 [I a] []
def Zh2:MCode:=.r [.b 9 .lss 8 7] [3,6,7,8,9] (.seq (.cond (.s 9) .skip (.exit 0)) (.seq (.block 1 (.r [.ia 10 1 6 8,.l 11 10,.m 5 11] [3,5,6,7,8] (.reg [.m 12 3,.m 13 5,.cl 14 38 [13],.b 15 .add 12 14,.m 3 15] [3,6,7,8]))) (.reg [.bk 16 .add 8 1,.m 8 16] [3,6,7,8])))
def Zh3:MCode:=.r [.m 17 3,.m 2 17] [2] .ret
def Zl9:MFun:=⟨1,18,[.tmp 2],.r [.o 2 (.mov (.c (.t (.str ⟨#[]⟩))))] [0] (.r [.o 3 (.mov (.c (.t (.str ⟨#[]⟩))))] [0,3] (.seq (.r [.m 6 0,.ll 7 6,.mk' 8 0] [3,6,7,8] (.block 0 (.loop [3,6,7,8] Zh2))) Zh3))⟩
noncomputable def Zey(a:List Int):Rs:=C 31 [L 1 (a.map ic)] []
noncomputable def Zcz(s:ByteArray)(x:List Int)(x1 x2:Int):Rs:=EvL C [.blk 0,.seq Zh3,.fin 0 [.tmp 2]] [3,6,7,8] Zh2 ⟨[(3,.t (.str s)),(6,L 1 (x.map ic)),(7,I x1),(8,I x2)],[[]],[]⟩
def Zh4:MCode:=.r [.b 10 .lss 9 8] [3,7,8,9,10] (.seq (.cond (.s 10) .skip (.exit 0)) (.seq (.block 1 (.r [.ia 11 1 7 9,.l 12 11,.m 5 12] [3,5,7,8,9] (.reg [.m 13 3,.m 14 5,.o 15 (.bin .add (.k 48) (.s 14)),.o 16 (.conv .u8 (.s 15)),.o 17 (.bslice 5 1 1 [.int .u8 0] [(0,.s 16)]),.o 18 (.append 5 1 1 true (.s 13) (.s 17)),.m 3 18] [3,7,8,9]))) (.reg [.bk 19 .add 9 1,.m 9 19] [3,7,8,9])))
def Zh5:MCode:=.r [.m 20 3,.o 21 (.tostr (.s 20)),.m 2 21] [2] .ret
def Zma:MFun:=⟨1,22,[.tmp 2],.r [.o 2 (.mov (.c (.t (.str ⟨#[]⟩))))] [0] (.r [.o 6 (.bslice 5 1 0 [.int .u8 0] []),.m 3 6] [0,3] (.seq (.r [.m 7 0,.ll 8 7,.mk' 9 0] [3,7,8,9] (.block 0 (.loop [3,7,8,9] Zh4))) Zh5))⟩
noncomputable def Zez(a:List Int):Rs:=C 39 [L 1 (a.map ic)] []
noncomputable def Zdh(c x:List Int)(x1 x2:Int):Rs:=EvL C [.blk 0,.seq Zh5,.fin 0 [.tmp 2]] [3,7,8,9] Zh4 ⟨[(3,.own 0),(7,L 1 (x.map ic)),(8,I x1),(9,I x2)],[[]],[.arr 5 1 true (c.map (kc .u8))]⟩
noncomputable def Zh6(a:List ByteArray)(a1:ByteArray):Rs:=C 40 [L 1 (a.map sc),.t (.str a1)] []
def Zh7:MCode:=.r [.b 10 .lss 9 8] [3,7,8,9,10] (.seq (.cond (.s 10) .skip (.exit 0)) (.seq (.block 1 (.r [.ia 11 1 7 9,.l 12 11,.m 5 12] [3,5,7,8,9] (.reg [.m 13 3,.m 14 5,.cl 15 39 [14],.o 16 (.bslice 9 1 1 [.str ⟨#[]⟩] [(0,.s 15)]),.o 17 (.append 9 1 16 true (.s 13) (.s 16)),.m 3 17] [3,7,8,9]))) (.reg [.bk 18 .add 9 1,.m 9 18] [3,7,8,9])))
def Zh8:MCode:=.r [.m 19 3,.o 20 (.call 40 [.s 19,.c (.t (.str ⟨#[32]⟩))]),.m 2 20] [2] .ret
def Zmb:MFun:=⟨1,21,[.tmp 2],.r [.o 2 (.mov (.c (.t (.str ⟨#[]⟩))))] [0] (.r [.o 6 (.bslice 9 1 0 [.str ⟨#[]⟩] []),.m 3 6] [0,3] (.seq (.r [.m 7 0,.ll 8 7,.mk' 9 0] [3,7,8,9] (.block 0 (.loop [3,7,8,9] Zh7))) Zh8))⟩
noncomputable def Ze0(a:List (List Int)):Rs:=C 32 [L 1 (a.map isc)] []
noncomputable def Zdi(c:List ByteArray)(x:List (List Int))(x1 x2:Int):Rs:=EvL C [.blk 0,.seq Zh8,.fin 0 [.tmp 2]] [3,7,8,9] Zh7 ⟨[(3,.own 0),(7,L 1 (x.map isc)),(8,I x1),(9,I x2)],[[]],[.arr 9 1 true (c.map sc)]⟩
def Zmc:MFun:=⟨1,14,[.tmp 2],.r [.bx 1 0,.o 2 (.mov (.c (.t (.str ⟨#[]⟩))))] [1] (.wc [.ln 3 2 1,.cl 4 16 [3],.o 5 (.un .not (.s 4))] [1,5] 5 (.r [.o 2 (.mov (.c (.t (.str ⟨#[]⟩))))] [2] .ret) (.seq (.drw [.fa 6 0 1,.l 7 6,.cl 8 31 [7],.o 9 (.bin .add (.s 8) (.c (.t (.str ⟨#[58]⟩)))),.fa 10 1 1,.l 11 10,.cl 12 32 [11],.b 13 .add 9 12,.m 2 13] [[],[0],[1],[2],[],[4],[5,2],[3,6],[7,6,0,1,2,3,4,5,6,7]] [2]) .ret))⟩
noncomputable def Zge(a:Zb):Rs:=C 18 [.agg (a.c.map .t)] []
def Zdz:MFun:=⟨1,35,[.tmp 2],.r [.bx 1 0,.o 2 (.mov (.c (.t (.str ⟨#[]⟩))))] [1] (.wc [.fa 4 0 1,.l 5 4,.o 6 (.call 15 [.s 5,.c (.t (.int .i64 1)),.c (.t (.int .i64 3))]),.o 7 (.un .not (.s 6)),.m 8 7,.h 9 8 (.fa 3 1),.h 10 8 (.ln 2 9),.h 11 8 (.cl 16 [10]),.h 12 8 (.un .not (.s 11)),.o 13 (.pick (.s 8) (.q true) (.s 12))] [1,13] 13 (.r [.o 2 (.mov (.c (.t (.str ⟨#[]⟩))))] [2] .ret) (.r [.o 14 (.bslice 9 1 4 [.str ⟨#[]⟩] [(0,.c (.t (.str ⟨#[]⟩))),(1,.c (.t (.str ⟨#[99,97,99,104,101,100]⟩))),(2,.c (.t (.str ⟨#[101,120,97,99,116]⟩))),(3,.c (.t (.str ⟨#[98,111,117,113,117,101,116]⟩)))]),.fa 15 0 1,.l 16 15,.ia 17 1 14 16,.l 18 17,.m 3 18] [1,3] (.seq (.drw [.m 19 3,.o 20 (.bin .add (.s 19) (.c (.t (.str ⟨#[32]⟩)))),.fa 21 1 1,.l 22 21,.cl 23 17 [22],.b 24 .add 20 23,.o 25 (.bin .add (.s 24) (.c (.t (.str ⟨#[32]⟩)))),.fa 26 2 1,.l 27 26,.cl 28 17 [27],.b 29 .add 25 28,.o 30 (.bin .add (.s 29) (.c (.t (.str ⟨#[32]⟩)))),.fa 31 3 1,.ln 32 2 31,.cl 33 18 [32],.b 34 .add 30 33,.m 2 34] [[],[0],[],[2],[3],[1,4],[5],[],[7],[8,4],[6,9],[10],[],[12],[13,9],[11,14],[15,14,0,1,2,3,4,5,6,7,8,9,10,11,12,13,14,15]] [2]) .ret)))⟩
noncomputable def Zh9(a:Zm):Rs:=C 7 [.agg (a.c.map .t)] []
def Zmd:MFun:=⟨3,15,[.tmp 6],.r [.o 6 (.mov (.q false))] [0,1,2] (.r [.m 7 0,.m 8 1,.b 9 .geq 7 8,.m 10 9,.g 11 10 (.mov (.s 0)),.g 12 10 (.mov (.s 2)),.g 13 10 (.b .leq 11 12),.o 14 (.pick (.s 10) (.s 13) (.q false)),.m 6 14] [6] .ret)⟩
noncomputable def Zcb(a a1 a2:Int):Rs:=C 10 [I a,I a1,I a2] []
def Zia:MCode:=.we [.m 6 5,.m 7 0,.ll 8 7,.b 9 .lss 6 8] [0,1,5,9] 9 0 (.seq (.block 1 (.r [.m 12 0,.m 13 5,.ia 14 1 12 13,.l 15 14,.o 16 (.call 10 [.s 15,.c (.t .z),.c (.t (.int .i64 9))]),.o 17 (.un .not (.s 16))] [0,1,5,17] (.cond (.s 17) (.r [.o 4 (.mov (.q false))] [4] .ret) .skip))) (.reg [.m 10 5,.bk 11 .add 10 1,.m 5 11] [0,1,5]))
def Zib:MCode:=.r [.m 18 0,.ll 19 18,.m 20 1,.b 21 .eql 19 20,.m 4 21] [4] .ret
def Zme:MFun:=⟨2,22,[.tmp 4],.r [.o 4 (.mov (.q false))] [0,1] (.seq (.r [.mk' 5 0] [0,1,5] (.block 0 (.loop [0,1,5] Zia))) Zib)⟩
noncomputable def Ze1(a:List Int)(a1:Int):Rs:=C 22 [L 1 (a.map ic),I a1] []
noncomputable def Zdj(c:List Int)(n i:Int):Rs:=EvL C [.blk 0,.seq Zib,.fin 0 [.tmp 4]] [0,1,5] Zia ⟨[(0,L 1 (c.map ic)),(1,I n),(5,I i)],[[]],[]⟩
def Zic:MCode:=.we [.m 6 5,.m 7 0,.ll 8 7,.b 9 .lss 6 8,.m 10 9,.g 11 10 (.mov (.s 5)),.g 12 10 (.mov (.s 1)),.g 13 10 (.ll 12),.g 14 10 (.b .lss 11 13),.o 15 (.pick (.s 10) (.s 14) (.q false))] [0,1,5,15] 15 0 (.seq (.block 1 (.seq (.seq (.drw [.m 18 0,.m 19 5,.ia 20 1 18 19,.l 21 20,.m 22 1,.m 23 5,.ia 24 1 22 23,.l 25 24,.b 26 .lss 21 25] [[],[],[0,1],[2],[],[],[4,5],[6],[3,7]] [0,1,5,26]) (.cond (.s 26) (.r [.mk' 4 (-1)] [4] .ret) .skip)) (.seq (.drw [.m 27 0,.m 28 5,.ia 29 1 27 28,.l 30 29,.m 31 1,.m 32 5,.ia 33 1 31 32,.l 34 33,.b 35 .gtr 30 34] [[],[],[0,1],[2],[],[],[4,5],[6],[3,7]] [0,1,5,35]) (.cond (.s 35) (.r [.mk' 4 1] [4] .ret) .skip)))) (.reg [.m 16 5,.bk 17 .add 16 1,.m 5 17] [0,1,5]))
def Zgf:MCode:=.wc [.m 36 0,.ll 37 36,.m 38 1,.ll 39 38,.b 40 .lss 37 39] [0,1,40] 40 (.r [.mk' 4 (-1)] [4] .ret) (.wc [.m 41 0,.ll 42 41,.m 43 1,.ll 44 43,.b 45 .gtr 42 44] [45] 45 (.r [.mk' 4 1] [4] .ret) (.r [.mk' 4 0] [4] .ret))
def Zmf:MFun:=⟨2,46,[.tmp 4],.r [.mk' 4 0] [0,1] (.seq (.r [.mk' 5 0] [0,1,5] (.block 0 (.loop [0,1,5] Zic))) Zgf)⟩
noncomputable def Ze2(a a1:List Int):Rs:=C 23 [L 1 (a.map ic),L 1 (a1.map ic)] []
noncomputable def Zdk(a b:List Int)(i:Int):Rs:=EvL C [.blk 0,.seq Zgf,.fin 0 [.tmp 4]] [0,1,5] Zic ⟨[(0,L 1 (a.map ic)),(1,L 1 (b.map ic)),(5,I i)],[[]],[]⟩
noncomputable def Zd0(a b:List Int)(i:Int)(x:Bool):Rs:=Ev C [.fin 0 [.tmp 4]] Zgf ⟨[(0,L 1 (a.map ic)),(1,L 1 (b.map ic)),(5,I i),(15,Bo x)],[[]],[]⟩
def Zid:MCode:=.we [.m 5 3,.fa 6 0 1,.l 7 6,.ll 8 7,.b 9 .lss 5 8] [1,3,9] 9 0 (.seq (.block 1 (.seq (.drw [.fa 12 0 1,.l 13 12,.m 14 3,.ia 15 1 13 14,.l 16 15,.o 17 (.call 10 [.s 16,.c (.t .z),.c (.t (.int .i64 3))]),.o 18 (.un .not (.s 17)),.m 19 18,.h 20 19 (.mov (.s 3)),.h 21 19 (.bk .gtr 20 0),.h 22 19 (.mov (.s 21)),.g 23 22 (.fa 0 1),.g 24 22 (.l 23),.g 25 22 (.mov (.s 3)),.g 26 22 (.bk .sub 25 1),.g 27 22 (.ia 1 24 26),.g 28 22 (.l 27),.g 29 22 (.fa 0 1),.g 30 22 (.l 29),.g 31 22 (.mov (.s 3)),.g 32 22 (.ia 1 30 31),.g 33 22 (.l 32),.g 34 22 (.b .geq 28 33),.h 35 19 (.pick (.s 22) (.s 34) (.q false)),.o 36 (.pick (.s 19) (.q true) (.s 35))] [[],[0],[],[1,2],[3],[4],[5],[6,5],[7],[8,7],[9,7,7],[10],[11,10],[10],[13,10],[12,14,10],[15,10],[10],[17,10],[10],[18,19,10],[20,10],[16,21,10],[10,22,7],[7,23]] [1,3,36]) (.cond (.s 36) (.r [.o 2 (.mov (.q false))] [2] .ret) .skip))) (.reg [.m 10 3,.bk 11 .add 10 1,.m 3 11] [1,3]))
def Zie:MCode:=.we [.m 37 4,.fa 38 1 1,.l 39 38,.ll 40 39,.b 41 .lss 37 40] [1,4,41] 41 2 (.seq (.block 3 (.seq (.drw [.fa 44 1 1,.l 45 44,.m 46 4,.ia 47 1 45 46,.l 48 47,.fa 49 0 1,.l 50 49,.ll 51 50,.cl 52 22 [48,51],.o 53 (.un .not (.s 52)),.m 54 53,.h 55 54 (.mov (.s 4)),.h 56 54 (.bk .gtr 55 0),.h 57 54 (.mov (.s 56)),.g 58 57 (.fa 1 1),.g 59 57 (.l 58),.g 60 57 (.mov (.s 4)),.g 61 57 (.bk .sub 60 1),.g 62 57 (.ia 1 59 61),.g 63 57 (.l 62),.g 64 57 (.fa 1 1),.g 65 57 (.l 64),.g 66 57 (.mov (.s 4)),.g 67 57 (.ia 1 65 66),.g 68 57 (.l 67),.g 69 57 (.cl 23 [63,68]),.g 70 57 (.bk .geq 69 0),.h 71 54 (.pick (.s 57) (.s 70) (.q false)),.o 72 (.pick (.s 54) (.q true) (.s 71))] [[],[0],[],[1,2],[3],[],[5],[6],[4,7],[8],[9,8],[10],[11,10],[12,10,10],[13],[14,13],[13],[16,13],[15,17,13],[18,13],[13],[20,13],[13],[21,22,13],[23,13],[19,24,13,13],[25,13],[13,26,10],[10,27]] [1,4,72]) (.cond (.s 72) (.r [.o 2 (.mov (.q false))] [2] .ret) .skip))) (.reg [.m 42 4,.bk 43 .add 42 1,.m 4 43] [1,4]))
def Zif:MCode:=.r [.o 2 (.mov (.q true))] [2] .ret
def Zig:MCode:=.seq (.r [.mk' 4 0] [1,4] (.block 2 (.loop [1,4] Zie))) Zif
def Zmg:MFun:=⟨1,73,[.tmp 2],.r [.bx 1 0,.o 2 (.mov (.q false))] [1] (.seq (.r [.mk' 3 0] [1,3] (.block 0 (.loop [1,3] Zid))) Zig)⟩
noncomputable def Zd1(a:Zb):Rs:=C 11 [.agg (a.c.map .t)] []
noncomputable def Zc0(a:Zb)(i:Int):Rs:=EvL C [.blk 0,.seq Zig,.fin 0 [.tmp 2]] [1,3] Zid ⟨[(1,.ptr 0 0),(3,I i)],[[]],[.box (a.c.map .t)]⟩
noncomputable def Zc1(a:Zb)(i:Int):Rs:=EvL C [.blk 2,.seq Zif,.fin 0 [.tmp 2]] [1,4] Zie ⟨[(1,.ptr 0 0),(4,I i)],[[]],[.box (a.c.map .t)]⟩
def Zmh:MCode:=.r [.m 18 5,.o 19 (.bin .add (.k 48) (.s 18)),.o 20 (.conv .u8 (.s 19)),.o 21 (.bslice 5 1 1 [.int .u8 0] [(0,.s 20)]),.o 22 (.tostr (.s 21)),.m 23 3,.b 24 .add 22 23,.m 3 24] [0,3,4] (.reg [.m 25 0,.bk 26 .quo 25 10,.m 0 26] [0,3,4])
def Zih:MCode:=.we [.m 10 0,.bk 11 .neq 10 0] [0,3,4,11] 11 0 (.block 1 (.r [.m 12 0,.bk 13 .rem 12 10,.m 5 13] [0,3,4,5] (.wc [.m 14 5,.bk 15 .lss 14 0] [0,3,4,5,15] 15 (.reg [.m 16 5,.o 17 (.un .neg (.s 16)),.m 5 17] [0,3,4,5]) Zmh)))
def Zii:MCode:=.wc [.m 27 4] [3,27] 27 (.r [.m 28 3,.o 29 (.bin .add (.c (.t (.str ⟨#[45]⟩))) (.s 28)),.m 2 29] [2] .ret) (.r [.m 30 3,.m 2 30] [2] .ret)
def Zmi:MFun:=⟨1,31,[.tmp 2],.r [.o 2 (.mov (.c (.t (.str ⟨#[]⟩))))] [0] (.wc [.m 6 0,.bk 7 .eql 6 0] [0,7] 7 (.r [.o 2 (.mov (.c (.t (.str ⟨#[48]⟩))))] [2] .ret) (.r [.o 3 (.mov (.c (.t (.str ⟨#[]⟩))))] [0,3] (.r [.m 8 0,.bk 9 .lss 8 0,.m 4 9] [0,3,4] (.seq (.block 0 (.loop [0,3,4] Zih)) Zii))))⟩
noncomputable def Zd2(a:Int):Rs:=C 12 [I a] []
noncomputable def Zci(n:Int)(cc:ByteArray)(c:Bool):Rs:=EvL C [.blk 0,.seq Zii,.fin 0 [.tmp 2]] [0,3,4] Zih ⟨[(0,I n),(3,.t (.str cc)),(4,Bo c)],[[]],[]⟩
def Zmj:MFun:=⟨1,10,[.tmp 2],.r [.o 2 (.mov (.c (.t (.str ⟨#[]⟩))))] [0] (.wc [.m 3 0,.o 4 (.call 10 [.s 3,.c (.t .z),.c (.t (.int .i64 3))]),.o 5 (.un .not (.s 4))] [0,5] 5 (.r [.o 2 (.mov (.c (.t (.str ⟨#[]⟩))))] [2] .ret) (.r [.m 6 0,.m 7 0,.bk 8 .add 7 1,.o 9 (.slice none (.c (.t (.str ⟨#[88,89,90,85]⟩))) (some (.s 6)) (some (.s 8))),.m 2 9] [2] .ret))⟩
noncomputable def Ze3(a:Int):Rs:=C 35 [I a] []
def Zij:MCode:=.we [.m 5 4,.m 6 0,.ll 7 6,.b 8 .lss 5 7] [0,3,4,8] 8 0 (.seq (.block 1 (.reg [.m 11 3,.m 12 0,.m 13 4,.ia 14 1 12 13,.l 15 14,.cl 16 35 [15],.b 17 .add 11 16,.m 3 17] [0,3,4])) (.reg [.m 9 4,.bk 10 .add 9 1,.m 4 10] [0,3,4]))
def Zik:MCode:=.r [.m 18 3,.m 2 18] [2] .ret
def Zmk:MFun:=⟨1,19,[.tmp 2],.r [.o 2 (.mov (.c (.t (.str ⟨#[]⟩))))] [0] (.r [.o 3 (.mov (.c (.t (.str ⟨#[]⟩))))] [0,3] (.seq (.r [.mk' 4 0] [0,3,4] (.block 0 (.loop [0,3,4] Zij))) Zik))⟩
noncomputable def Ze4(a:List Int):Rs:=C 24 [L 1 (a.map ic)] []
noncomputable def Zc2(l:List Int)(s:ByteArray)(i:Int):Rs:=EvL C [.blk 0,.seq Zik,.fin 0 [.tmp 2]] [0,3,4] Zij ⟨[(0,L 1 (l.map ic)),(3,.t (.str s)),(4,I i)],[[]],[]⟩
def Zil:MCode:=.we [.m 5 4,.m 6 0,.ll 7 6,.b 8 .lss 5 7] [0,3,4,8] 8 0 (.seq (.block 1 (.reg [.m 11 3,.m 12 0,.m 13 4,.ia 14 1 12 13,.l 15 14,.cl 16 12 [15],.b 17 .add 11 16,.m 3 17] [0,3,4])) (.reg [.m 9 4,.bk 10 .add 9 1,.m 4 10] [0,3,4]))
def Zim:MCode:=.r [.m 18 3,.m 2 18] [2] .ret
def Zml:MFun:=⟨1,19,[.tmp 2],.r [.o 2 (.mov (.c (.t (.str ⟨#[]⟩))))] [0] (.r [.o 3 (.mov (.c (.t (.str ⟨#[]⟩))))] [0,3] (.seq (.r [.mk' 4 0] [0,3,4] (.block 0 (.loop [0,3,4] Zil))) Zim))⟩
noncomputable def Zd3(a:List Int):Rs:=C 25 [L 1 (a.map ic)] []
noncomputable def Zc3(c:List Int)(s:ByteArray)(i:Int):Rs:=EvL C [.blk 0,.seq Zim,.fin 0 [.tmp 2]] [0,3,4] Zil ⟨[(0,L 1 (c.map ic)),(3,.t (.str s)),(4,I i)],[[]],[]⟩
def Zmm:MCode:=.reg [.m 23 3,.fa 24 1 1,.l 25 24,.m 26 4,.ia 27 1 25 26,.l 28 27,.cl 29 25 [28],.b 30 .add 23 29,.m 3 30] [1,3,4]
def Zin:MCode:=.we [.m 12 4,.fa 13 1 1,.l 14 13,.ll 15 14,.b 16 .lss 12 15] [1,3,4,16] 16 0 (.seq (.block 1 (.wc [.m 19 4,.bk 20 .gtr 19 0] [1,3,4,20] 20 (.reg [.m 21 3,.o 22 (.bin .add (.s 21) (.c (.t (.str ⟨#[32]⟩)))),.m 3 22] [1,3,4]) Zmm)) (.reg [.m 17 4,.bk 18 .add 17 1,.m 4 18] [1,3,4]))
def Zio:MCode:=.r [.m 31 3,.m 2 31] [2] .ret
def Zmn:MFun:=⟨1,32,[.tmp 2],.r [.bx 1 0,.o 2 (.mov (.c (.t (.str ⟨#[]⟩))))] [1] (.wc [.ln 5 2 1,.cl 6 11 [5],.o 7 (.un .not (.s 6))] [1,7] 7 (.r [.o 2 (.mov (.c (.t (.str ⟨#[]⟩))))] [2] .ret) (.r [.fa 8 0 1,.l 9 8,.cl 10 24 [9],.o 11 (.bin .add (.s 10) (.c (.t (.str ⟨#[58]⟩)))),.m 3 11] [1,3] (.seq (.r [.mk' 4 0] [1,3,4] (.block 0 (.loop [1,3,4] Zin))) Zio)))⟩
noncomputable def Zgg(a:Zb):Rs:=C 13 [.agg (a.c.map .t)] []
noncomputable def Zcj(a:Zb)(s:ByteArray)(i:Int):Rs:=EvL C [.blk 0,.seq Zio,.fin 0 [.tmp 2]] [1,3,4] Zin ⟨[(1,.ptr 0 0),(3,.t (.str s)),(4,I i)],[[]],[.box (a.c.map .t)]⟩
def Zd4:MFun:=⟨1,34,[.tmp 2],.r [.bx 1 0,.o 2 (.mov (.c (.t (.str ⟨#[]⟩))))] [1] (.wc [.fa 3 0 1,.l 4 3,.o 5 (.call 10 [.s 4,.c (.t (.int .i64 1)),.c (.t (.int .i64 3))]),.o 6 (.un .not (.s 5)),.m 7 6,.h 8 7 (.fa 3 1),.h 9 7 (.ln 2 8),.h 10 7 (.cl 11 [9]),.h 11 7 (.un .not (.s 10)),.o 12 (.pick (.s 7) (.q true) (.s 11))] [1,12] 12 (.r [.o 2 (.mov (.c (.t (.str ⟨#[]⟩))))] [2] .ret) (.seq (.drw [.o 13 (.bslice 9 1 3 [.str ⟨#[]⟩] [(0,.c (.t (.str ⟨#[99,97,99,104,101,100]⟩))),(1,.c (.t (.str ⟨#[101,120,97,99,116]⟩))),(2,.c (.t (.str ⟨#[98,111,117,113,117,101,116]⟩)))]),.fa 14 0 1,.l 15 14,.bk 16 .sub 15 1,.ia 17 1 13 16,.l 18 17,.o 19 (.bin .add (.s 18) (.c (.t (.str ⟨#[32]⟩)))),.fa 20 1 1,.l 21 20,.cl 22 12 [21],.b 23 .add 19 22,.o 24 (.bin .add (.s 23) (.c (.t (.str ⟨#[32]⟩)))),.fa 25 2 1,.l 26 25,.cl 27 12 [26],.b 28 .add 24 27,.o 29 (.bin .add (.s 28) (.c (.t (.str ⟨#[32]⟩)))),.fa 30 3 1,.ln 31 2 30,.cl 32 13 [31],.b 33 .add 29 32,.m 2 33] [[],[],[1],[2],[0,3],[4],[5],[],[7],[8],[6,9],[10],[],[12],[13,9],[11,14],[15],[],[17],[18,14],[16,19],[20,19,0,1,2,3,4,5,6,7,8,9,10,11,12,13,14,15,16,17,18,19,20]] [2]) .ret))⟩
noncomputable def Zip(a:Zm):Rs:=C 5 [.agg (a.c.map .t)] []
theorem Zqg:tbl 15=some Zlx:=Zj Tryd.func15 (by kernel_rfl) (by kernel_rfl)
theorem Zqh:tbl 28=some Zly:=Zj Tryd.func28 (by kernel_rfl) (by kernel_rfl)
theorem Zqi:tbl 53=some Zlz:=Zj Tryd.func53 (by kernel_rfl) (by kernel_rfl)
theorem Zqj:tbl 46=some Zl0:=Zj Tryd.func46 (by kernel_rfl) (by kernel_rfl)
theorem Zqk:tbl 41=some Zl1:=Zj Tryd.func41 (by kernel_rfl) (by kernel_rfl)
theorem Zql:tbl 36=some Zl2:=Zj Tryd.func36 (by kernel_rfl) (by kernel_rfl)
theorem Zqm:tbl 29=some Zl3:=Zj Tryd.func29 (by kernel_rfl) (by kernel_rfl)
theorem Zqn:tbl 16=some Zl4:=Zj Tryd.func16 (by kernel_rfl) (by kernel_rfl)
theorem Zqo:tbl 37=some Zl5:=Zj Tryd.func37 (by kernel_rfl) (by kernel_rfl)
theorem Zqp:tbl 30=some Zl6:=Zj Tryd.func30 (by kernel_rfl) (by kernel_rfl)
theorem Zqq:tbl 17=some Zl7:=Zj Tryd.func17 (by kernel_rfl) (by kernel_rfl)
theorem Zqr:tbl 38=some Zl8:=Zj Tryd.func38 (by kernel_rfl) (by kernel_rfl)
theorem Zqs:tbl 31=some Zl9:=Zj Tryd.func31 (by kernel_rfl) (by kernel_rfl)
theorem Zqt:tbl 39=some Zma:=Zj Tryd.func39 (by kernel_rfl) (by kernel_rfl)
theorem Zqu:tbl 32=some Zmb:=Zj Tryd.func32 (by kernel_rfl) (by kernel_rfl)
theorem Zqv:tbl 18=some Zmc:=Zj Tryd.func18 (by kernel_rfl) (by kernel_rfl)
theorem Zqw:tbl 7=some Zdz:=Zj Tryd.func7 (by kernel_rfl) (by kernel_rfl)
theorem Zqx:tbl 10=some Zmd:=Zj Tryd.func10 (by kernel_rfl) (by kernel_rfl)
theorem Zqy:tbl 22=some Zme:=Zj Tryd.func22 (by kernel_rfl) (by kernel_rfl)
theorem Zqz:tbl 23=some Zmf:=Zj Tryd.func23 (by kernel_rfl) (by kernel_rfl)
theorem Zq0:tbl 11=some Zmg:=Zj Tryd.func11 (by kernel_rfl) (by kernel_rfl)
theorem Zq1:tbl 12=some Zmi:=Zj Tryd.func12 (by kernel_rfl) (by kernel_rfl)
theorem Zq2:tbl 35=some Zmj:=Zj Tryd.func35 (by kernel_rfl) (by kernel_rfl)
theorem Zq3:tbl 24=some Zmk:=Zj Tryd.func24 (by kernel_rfl) (by kernel_rfl)
theorem Zq4:tbl 25=some Zml:=Zj Tryd.func25 (by kernel_rfl) (by kernel_rfl)
theorem Zq5:tbl 13=some Zmn:=Zj Tryd.func13 (by kernel_rfl) (by kernel_rfl)
theorem Zq6:tbl 5=some Zd4:=Zj Tryd.func5 (by kernel_rfl) (by kernel_rfl)
theorem Zq7{a a1 a2:Int}{r:AV×List Blk}(h:(if a1≤a then(some (Bo (decide (a≤a2)),[])=some r)else(some (Bo false,[])=some r))):Zca a a1 a2=some r:=by
 unfold Zca;refine run Zqg rfl ?_
 try simp only[itb]at h
 try simp only[itf,gS,kk]at h
 rcases h with⟨q1,h⟩|⟨q1,h⟩
 all_goals (refine Yb ?_ h;clear h;simp +decide[*,kk,tI,tII,Zlx])
theorem Zmo{cc:List Int}{c:Int}{x:List Int}{x1 x2:Int}{r:AV×List Blk}(h:(if x2<x1 then(0≤x2∧(∃(e1:Int),x[x2.toNat]?=some e1∧(∃(v:Bool),Zca e1 0 9=some (Bo v,[])∧(if v=true then(Zdd cc c x x1 (w (x2+1))=some r)else(some (Bo false,[])=some r)))))else(some (Bo (decide ((cc.length:Int)=c)),[])=some r))):Zdd cc c x x1 x2=some r:=by
 unfold Zdd;rw[Zu Zhr.eq_1];simp only[Zca,mpl,dfs]at h
 try simp only[itb]at h
 try simp only[itf,gS,kk]at h
 rcases h with⟨q1,q2,e1,⟨g3,q3⟩,v,q4,(⟨q5,h⟩|⟨q5,h⟩)⟩|⟨q1,h⟩
 all_goals (refine Yb ?_ h;clear h;simp +decide[*,kk,tI,tII,Zdd,Zhs])
theorem Zq8{a:List Int}{a1:Int}{r:AV×List Blk}(h:(Zdd a a1 a (a.length:Int) 0=some r)):Zes a a1=some r:=by
 unfold Zes;refine run Zqh rfl ?_;refine Yb ?_ h;clear h;simp +decide[*,kk,tI,tII,Zly,Zdd]
theorem Zmp{a:Int}{r:AV×List Blk}(h:(some (Bo (!(decide (a=a))),[])=some r)):Zet a=some r:=by
 unfold Zet;refine run Zqi rfl ?_;refine Yb ?_ h;clear h;simp +decide[*,kk,tI,tII,Zlz]
theorem Zq9{a a1:Int}{r:AV×List Blk}(h:(∃(v:Bool),Zet a=some (Bo v,[])∧(∃(v1:Bool),Zet a1=some (Bo v1,[])∧(if v=true then(if v1=true then(some (I 0,[])=some r)else(some (I (-1),[])=some r))else(if v1=true then(some (I 1,[])=some r)else(if a<a1 then(some (I (-1),[])=some r)else(if a1<a then(some (I 1,[])=some r)else(some (I 0,[])=some r)))))))):Zeu a a1=some r:=by
 unfold Zeu;refine run Zqj rfl ?_;simp only[Zet,mpl,dfs]at h
 try simp only[itb]at h
 try simp only[itf,gS,kk]at h
 rcases h with⟨v,q1,v1,q2,(⟨q3,(⟨q4,h⟩|⟨q4,h⟩)⟩|⟨q3,(⟨q5,h⟩|⟨q5,(⟨q6,h⟩|⟨q6,(⟨q7,h⟩|⟨q7,h⟩)⟩)⟩)⟩)⟩
 all_goals (refine Yb ?_ h;clear h;simp +decide[*,kk,tI,tII,Zl0])
theorem Zmq{s1 s2 x:List Int}{x1 x2:Int}{r:AV×List Blk}(h:(if x2<x1 then(0≤x2∧(∃(e1:Int),x[x2.toNat]?=some e1∧(if(s2.length:Int)≤x2 then(some (I 1,[])=some r)else(∃(e2:Int),s2[x2.toNat]?=some e2∧(∃(v:Int),Zeu e1 e2=some (I v,[])∧(if v=0 then(Zde s1 s2 x x1 (w (x2+1))=some r)else(some (I v,[])=some r)))))))else(if(s1.length:Int)<(s2.length:Int)then(some (I (-1),[])=some r)else(some (I 0,[])=some r)))):Zde s1 s2 x x1 x2=some r:=by
 unfold Zde;rw[Zu Zht.eq_1];simp only[Zeu,mpl,dfs]at h
 try simp only[itb]at h
 try simp only[itf,gS,kk]at h
 rcases h with⟨q1,q2,e1,⟨g3,q3⟩,(⟨q4,h⟩|⟨q4,e2,⟨g5,q5⟩,v,q6,(⟨q7,h⟩|⟨q7,h⟩)⟩)⟩|⟨q1,(⟨q8,h⟩|⟨q8,h⟩)⟩
 all_goals (refine Yb ?_ h;clear h;simp +decide[*,kk,tI,tII,Zde,Zhu])
theorem Zra{a a1:List Int}{r:AV×List Blk}(h:(Zde a a1 a (a.length:Int) 0=some r)):Zga a a1=some r:=by
 unfold Zga;refine run Zqk rfl ?_;refine Yb ?_ h;clear h;simp +decide[*,kk,tI,tII,Zl1,Zde]
theorem Zrb{a a1:List Int}{r:AV×List Blk}(h:(∃(v:Int),Zga a a1=some (I v,[])∧(some (I v,[])=some r))):Zev a a1=some r:=by
 unfold Zev;refine run Zql rfl ?_;simp only[Zga,mpl,dfs]at h;rcases h with⟨v,q1,h⟩
 all_goals (refine Yb ?_ h;clear h;simp +decide[*,kk,tI,tII,Zl2])
theorem Ziq{c:List (List Int)}{i:Int}{r:AV×List Blk}(h:(if i<(c.length:Int)then(0≤(w (i-1))∧(∃(e1:List Int),c[(w (i-1)).toNat]?=some e1∧(0≤i∧(∃(e2:List Int),c[i.toNat]?=some e2∧(∃(v:Int),Zev e1 e2=some (I v,[])∧(if 0≤v then(some (Bo false,[])=some r)else(Zdf c (w (i+1))=some r)))))))else(some (Bo true,[])=some r))):Zdf c i=some r:=by
 unfold Zdf;rw[Zu Zhv.eq_1];simp only[Zev,mpl,dfs]at h
 try simp only[itb]at h
 try simp only[itf,gS,kk]at h
 rcases h with⟨q1,q2,e1,⟨g3,q3⟩,q4,e2,⟨g5,q5⟩,v,q6,(⟨q7,h⟩|⟨q7,h⟩)⟩|⟨q1,h⟩
 all_goals (refine Yb ?_ h;clear h;simp +decide[*,kk,tI,tII,Zdf,Zhw])
theorem Zrc{a:List (List Int)}{r:AV×List Blk}(h:(Zdf a 1=some r)):Zew a=some r:=by
 unfold Zew;refine run Zqm rfl ?_;refine Yb ?_ h;clear h;simp +decide[*,kk,tI,tII,Zl3,Zdf]
theorem Zmr{a:Zb}{x:List Int}{x1 x2:Int}{r:AV×List Blk}(h:(if x2<x1 then(0≤x2∧(∃(e1:Int),x[x2.toNat]?=some e1∧(∃(v:Bool),Zca e1 0 3=some (Bo v,[])∧(if v=true then(if 0<x2 then(0≤(w (x2-1))∧(∃(e3:Int),a.Vars[(w (x2-1)).toNat]?=some e3∧(if e1≤e3 then(some (Bo false,[])=some r)else(Zcy a x x1 (w (x2+1))=some r))))else(Zcy a x x1 (w (x2+1))=some r))else(some (Bo false,[])=some r)))))else(Zdg a a.Rows (a.Rows.length:Int) 0=some r))):Zcy a x x1 x2=some r:=by
 unfold Zcy;rw[Zu Zhx.eq_1];simp only[Zca,mpl,dfs]at h
 try simp only[itb]at h
 try simp only[itf,gS,kk]at h
 rcases h with⟨q1,q2,e1,⟨g3,q3⟩,v,q4,(⟨q5,(⟨q6,q7,e3,⟨g8,q8⟩,(⟨q9,h⟩|⟨q9,h⟩)⟩|⟨q6,h⟩)⟩|⟨q5,h⟩)⟩|⟨q1,h⟩
 all_goals (refine Yb ?_ h;clear h;simp +decide[*,kk,tI,tII,Zcy,Zdg,Zh0])
theorem Zms{a:Zb}{x:List (List Int)}{x1 x2:Int}{r:AV×List Blk}(h:(if x2<x1 then(0≤x2∧(∃(e1:List Int),x[x2.toNat]?=some e1∧(∃(v:Bool),Zes e1 (a.Vars.length:Int)=some (Bo v,[])∧(if v=true then(Zdg a x x1 (w (x2+1))=some r)else(some (Bo false,[])=some r)))))else(∃(v1:Bool),Zew a.Rows=some (Bo v1,[])∧(some (Bo v1,[])=some r)))):Zdg a x x1 x2=some r:=by
 unfold Zdg;rw[Zu Zhy.eq_1];simp only[Zes,Zew,mpl,dfs]at h
 try simp only[itb]at h
 try simp only[itf,gS,kk]at h
 rcases h with⟨q1,q2,e1,⟨g3,q3⟩,v,q4,(⟨q5,h⟩|⟨q5,h⟩)⟩|⟨q1,v1,q6,h⟩
 all_goals (refine Yb ?_ h;clear h;simp +decide[*,kk,tI,tII,Zdg,Zhz])
theorem Zrd{a:Zb}{r:AV×List Blk}(h:(Zcy a a.Vars (a.Vars.length:Int) 0=some r)):Zdy a=some r:=by
 unfold Zdy;refine run Zqn rfl ?_;refine Yb ?_ h;clear h;simp +decide[*,kk,tI,tII,Zl4,Zcy]
theorem Zre{a:Int}{r:AV×List Blk}(h:(∃(v:ByteArray),Zh1 a 10=some (.t (.str v),[])∧(some (.t (.str v),[])=some r))):Zgb a=some r:=by
 unfold Zgb;refine run Zqo rfl ?_;simp only[Zh1,mpl,dfs]at h;rcases h with⟨v,q1,h⟩
 all_goals (refine Yb ?_ h;clear h;simp +decide[*,kk,tI,tII,Zl5])
theorem Zrf{a:Int}{r:AV×List Blk}(h:(∃(v:ByteArray),Zgb a=some (.t (.str v),[])∧(some (.t (.str v),[])=some r))):Zgc a=some r:=by
 unfold Zgc;refine run Zqp rfl ?_;simp only[Zgb,mpl,dfs]at h;rcases h with⟨v,q1,h⟩
 all_goals (refine Yb ?_ h;clear h;simp +decide[*,kk,tI,tII,Zl6])
theorem Zrg{a:Int}{r:AV×List Blk}(h:(∃(v:ByteArray),Zgc a=some (.t (.str v),[])∧(some (.t (.str v),[])=some r))):Zgd a=some r:=by
 unfold Zgd;refine run Zqq rfl ?_;simp only[Zgc,mpl,dfs]at h;rcases h with⟨v,q1,h⟩
 all_goals (refine Yb ?_ h;clear h;simp +decide[*,kk,tI,tII,Zl7])
theorem Zrh{a:Int}{r:AV×List Blk}(h:(∃(v:Bool),Zca a 0 3=some (Bo v,[])∧(if v=true then(0≤a∧(0≤(w (a+1))∧(a.toNat≤(w (a+1)).toNat∧((w (a+1)).toNat≤(⟨#[88,89,90,85]⟩:ByteArray).size∧(some (.t (.str ((⟨#[88,89,90,85]⟩:ByteArray).extract a.toNat ((w (a+1)).toNat))),[])=some r)))))else(some (.t (.str (⟨#[]⟩:ByteArray)),[])=some r)))):Zex a=some r:=by
 unfold Zex;refine run Zqr rfl ?_;simp only[Zca,mpl,dfs]at h
 try simp only[itb]at h
 try simp only[itf,gS,kk]at h
 rcases h with⟨v,q1,(⟨q2,q3,q4,q5,q6,h⟩|⟨q2,h⟩)⟩
 all_goals (refine Yb ?_ h;clear h;simp +decide[*,kk,tI,tII,Zl8])
theorem Zmt{s:ByteArray}{x:List Int}{x1 x2:Int}{r:AV×List Blk}(h:(if x2<x1 then(0≤x2∧(∃(e1:Int),x[x2.toNat]?=some e1∧(∃(v:ByteArray),Zex e1=some (.t (.str v),[])∧(s.size+v.size≤9223372036854775807∧(Zcz (s++v) x x1 (w (x2+1))=some r)))))else(some (.t (.str s),[])=some r))):Zcz s x x1 x2=some r:=by
 unfold Zcz;rw[Zu Zh2.eq_1];simp only[Zex,mpl,dfs]at h
 try simp only[itb]at h
 try simp only[itf,gS,kk]at h
 rcases h with⟨q1,q2,e1,⟨g3,q3⟩,v,q4,q5,h⟩|⟨q1,h⟩
 all_goals (refine Yb ?_ h;clear h;simp +decide[*,kk,tI,tII,Zcz,Zh3])
theorem Zri{a:List Int}{r:AV×List Blk}(h:(Zcz (⟨#[]⟩:ByteArray) a (a.length:Int) 0=some r)):Zey a=some r:=by
 unfold Zey;refine run Zqs rfl ?_;refine Yb ?_ h;clear h;simp +decide[*,kk,tI,tII,Zl9,Zcz]
theorem Zmu{c x:List Int}{x1 x2:Int}{r:AV×List Blk}(h:(if x2<x1 then(0≤x2∧(∃(e1:Int),x[x2.toNat]?=some e1∧(c.length+1≤68719476736∧(Zdh (c++[(IntKind.wrap .u8 (w (48+e1)))]) x x1 (w (x2+1))=some r))))else(some (.t (.str (strB c)),[])=some r))):Zdh c x x1 x2=some r:=by
 unfold Zdh;rw[Zu Zh4.eq_1]
 try simp only[itb]at h
 try simp only[itf,gS,kk]at h
 rcases h with⟨q1,q2,e1,⟨g3,q3⟩,q4,h⟩|⟨q1,h⟩
 all_goals (refine Yb ?_ h;clear h;simp +decide[*,kk,tI,tII,Zdh,Zh5])
theorem Zrj{a:List Int}{r:AV×List Blk}(h:(Zdh ([]:List Int) a (a.length:Int) 0=some r)):Zez a=some r:=by
 unfold Zez;refine run Zqt rfl ?_;refine Yb ?_ h;clear h;simp +decide[*,kk,tI,tII,Zma,Zdh]
theorem Zmv{c:List ByteArray}{x:List (List Int)}{x1 x2:Int}{r:AV×List Blk}(h:(if x2<x1 then(0≤x2∧(∃(e1:List Int),x[x2.toNat]?=some e1∧(∃(v:ByteArray),Zez e1=some (.t (.str v),[])∧(c.length+1≤68719476736∧(Zdi (c++[v]) x x1 (w (x2+1))=some r)))))else(∃(v1:ByteArray),Zh6 c (⟨#[32]⟩:ByteArray)=some (.t (.str v1),[])∧(some (.t (.str v1),[])=some r)))):Zdi c x x1 x2=some r:=by
 unfold Zdi;rw[Zu Zh7.eq_1];simp only[Zez,Zh6,mpl,dfs]at h
 try simp only[itb]at h
 try simp only[itf,gS,kk]at h
 rcases h with⟨q1,q2,e1,⟨g3,q3⟩,v,q4,q5,h⟩|⟨q1,v1,q6,h⟩
 all_goals (refine Yb ?_ h;clear h;simp +decide[*,kk,tI,tII,Zdi,Zh8])
theorem Zrk{a:List (List Int)}{r:AV×List Blk}(h:(Zdi ([]:List ByteArray) a (a.length:Int) 0=some r)):Ze0 a=some r:=by
 unfold Ze0;refine run Zqu rfl ?_;refine Yb ?_ h;clear h;simp +decide[*,kk,tI,tII,Zmb,Zdi]
theorem Zrl{a:Zb}{r:AV×List Blk}(h:(∃(v:Bool),Zdy a=some (Bo v,[])∧(if v=true then(∃(v1:ByteArray),Zey a.Vars=some (.t (.str v1),[])∧(v1.size+(⟨#[58]⟩:ByteArray).size≤9223372036854775807∧(∃(v2:ByteArray),Ze0 a.Rows=some (.t (.str v2),[])∧(v1.size+(⟨#[58]⟩:ByteArray).size+v2.size≤9223372036854775807∧(some (.t (.str ((v1++(⟨#[58]⟩:ByteArray))++v2)),[])=some r)))))else(some (.t (.str (⟨#[]⟩:ByteArray)),[])=some r)))):Zge a=some r:=by
 unfold Zge;refine run Zqv rfl ?_;simp only[Zdy,Zey,Ze0,Zb.c_def,mpl,dfs]at h
 try simp only[itb]at h
 try simp only[itf,gS,kk]at h
 rcases h with⟨v,q1,(⟨q2,v1,q3,q4,v2,q5,q6,h⟩|⟨q2,h⟩)⟩
 all_goals (refine Yb ?_ h;clear h;simp +decide[*,kk,tI,tII,Zmc])
theorem Zrm{a a1 a2:Int}{r:AV×List Blk}(h:(if a1≤a then(some (Bo (decide (a≤a2)),[])=some r)else(some (Bo false,[])=some r))):Zcb a a1 a2=some r:=by
 unfold Zcb;refine run Zqx rfl ?_
 try simp only[itb]at h
 try simp only[itf,gS,kk]at h
 rcases h with⟨q1,h⟩|⟨q1,h⟩
 all_goals (refine Yb ?_ h;clear h;simp +decide[*,kk,tI,tII,Zmd])
theorem Zmw{c:List Int}{n i:Int}{r:AV×List Blk}(h:(if i<(c.length:Int)then(0≤i∧(∃(e1:Int),c[i.toNat]?=some e1∧(∃(v:Bool),Zcb e1 0 9=some (Bo v,[])∧(if v=true then(Zdj c n (w (i+1))=some r)else(some (Bo false,[])=some r)))))else(some (Bo (decide ((c.length:Int)=n)),[])=some r))):Zdj c n i=some r:=by
 unfold Zdj;rw[Zu Zia.eq_1];simp only[Zcb,mpl,dfs]at h
 try simp only[itb]at h
 try simp only[itf,gS,kk]at h
 rcases h with⟨q1,q2,e1,⟨g3,q3⟩,v,q4,(⟨q5,h⟩|⟨q5,h⟩)⟩|⟨q1,h⟩
 all_goals (refine Yb ?_ h;clear h;simp +decide[*,kk,tI,tII,Zdj,Zib])
theorem Zrn{a:List Int}{a1:Int}{r:AV×List Blk}(h:(Zdj a a1 0=some r)):Ze1 a a1=some r:=by
 unfold Ze1;refine run Zqy rfl ?_;refine Yb ?_ h;clear h;simp +decide[*,kk,tI,tII,Zme,Zdj]
theorem Zmx{a b:List Int}{i:Int}{r:AV×List Blk}(h:(if i<(a.length:Int)then(if i<(b.length:Int)then(0≤i∧(∃(e1:Int),a[i.toNat]?=some e1∧(∃(e2:Int),b[i.toNat]?=some e2∧(if e1<e2 then(some (I (-1),[])=some r)else(if e2<e1 then(some (I 1,[])=some r)else(Zdk a b (w (i+1))=some r))))))else(Zd0 a b i false=some r))else(Zd0 a b i false=some r))):Zdk a b i=some r:=by
 unfold Zdk;rw[Zu Zic.eq_1]
 try simp only[itb]at h
 try simp only[itf,gS,kk]at h
 rcases h with⟨q1,(⟨q2,q3,e1,⟨g4,q4⟩,e2,⟨g5,q5⟩,(⟨q6,h⟩|⟨q6,(⟨q7,h⟩|⟨q7,h⟩)⟩)⟩|⟨q2,h⟩)⟩|⟨q1,h⟩
 all_goals (refine Yb ?_ h;clear h;simp +decide[*,kk,tI,tII,Zdk,Zd0])
theorem Zro{a b:List Int}{i:Int}{x:Bool}{r:AV×List Blk}(h:(if(a.length:Int)<(b.length:Int)then(some (I (-1),[])=some r)else(if(b.length:Int)<(a.length:Int)then(some (I 1,[])=some r)else(some (I 0,[])=some r)))):Zd0 a b i x=some r:=by
 unfold Zd0;rw[Ev_eq Zgf.eq_1]
 try simp only[itb]at h
 try simp only[itf,gS,kk]at h
 rcases h with⟨q1,h⟩|⟨q1,(⟨q2,h⟩|⟨q2,h⟩)⟩
 all_goals (refine Yb ?_ h;clear h;simp +decide[*,kk,tI,tII])
theorem Zrp{a a1:List Int}{r:AV×List Blk}(h:(Zdk a a1 0=some r)):Ze2 a a1=some r:=by
 unfold Ze2;refine run Zqz rfl ?_;refine Yb ?_ h;clear h;simp +decide[*,kk,tI,tII,Zmf,Zdk]
theorem Zmy{a:Zb}{i:Int}{r:AV×List Blk}(h:(if i<(a.Vars.length:Int)then(0≤i∧(∃(e1:Int),a.Vars[i.toNat]?=some e1∧(∃(v:Bool),Zcb e1 0 3=some (Bo v,[])∧(if v=true then(if 0<i then(0≤(w (i-1))∧(∃(e3:Int),a.Vars[(w (i-1)).toNat]?=some e3∧(if e1≤e3 then(some (Bo false,[])=some r)else(Zc0 a (w (i+1))=some r))))else(Zc0 a (w (i+1))=some r))else(some (Bo false,[])=some r)))))else(Zc1 a 0=some r))):Zc0 a i=some r:=by
 unfold Zc0;rw[Zu Zid.eq_1];simp only[Zcb,mpl,dfs]at h
 try simp only[itb]at h
 try simp only[itf,gS,kk]at h
 rcases h with⟨q1,q2,e1,⟨g3,q3⟩,v,q4,(⟨q5,(⟨q6,q7,e3,⟨g8,q8⟩,(⟨q9,h⟩|⟨q9,h⟩)⟩|⟨q6,h⟩)⟩|⟨q5,h⟩)⟩|⟨q1,h⟩
 all_goals (refine Yb ?_ h;clear h;simp +decide[*,kk,tI,tII,Zc0,Zc1,Zig])
theorem Zmz{a:Zb}{i:Int}{r:AV×List Blk}(h:(if i<(a.Rows.length:Int)then(0≤i∧(∃(e1:List Int),a.Rows[i.toNat]?=some e1∧(∃(v:Bool),Ze1 e1 (a.Vars.length:Int)=some (Bo v,[])∧(if v=true then(if 0<i then(0≤(w (i-1))∧(∃(e3:List Int),a.Rows[(w (i-1)).toNat]?=some e3∧(∃(v1:Int),Ze2 e3 e1=some (I v1,[])∧(if 0≤v1 then(some (Bo false,[])=some r)else(Zc1 a (w (i+1))=some r)))))else(Zc1 a (w (i+1))=some r))else(some (Bo false,[])=some r)))))else(some (Bo true,[])=some r))):Zc1 a i=some r:=by
 unfold Zc1;rw[Zu Zie.eq_1];simp only[Ze1,Ze2,mpl,dfs]at h
 try simp only[itb]at h
 try simp only[itf,gS,kk]at h
 rcases h with⟨q1,q2,e1,⟨g3,q3⟩,v,q4,(⟨q5,(⟨q6,q7,e3,⟨g8,q8⟩,v1,q9,(⟨q10,h⟩|⟨q10,h⟩)⟩|⟨q6,h⟩)⟩|⟨q5,h⟩)⟩|⟨q1,h⟩
 all_goals (refine Yb ?_ h;clear h;simp +decide[*,kk,tI,tII,Zc1,Zif])
theorem Zrq{a:Zb}{r:AV×List Blk}(h:(Zc0 a 0=some r)):Zd1 a=some r:=by
 unfold Zd1;refine run Zq0 rfl ?_;refine Yb ?_ h;clear h;simp +decide[*,kk,tI,tII,Zmg,Zc0]
theorem Zm0{n:Int}{c:ByteArray}{cc:Bool}{r:AV×List Blk}(h:(if n=0 then(if cc=true then((⟨#[45]⟩:ByteArray).size+c.size≤9223372036854775807∧(some (.t (.str ((⟨#[45]⟩:ByteArray)++c)),[])=some r))else(some (.t (.str c),[])=some r))else(if(Int.tmod n 10)<0 then(1+c.size≤9223372036854775807∧(Zci (w (Int.tdiv n 10)) ((strB ([(IntKind.wrap .u8 (w (48+(w (0-(Int.tmod n 10))))))]))++c) cc=some r))else(1+c.size≤9223372036854775807∧(Zci (w (Int.tdiv n 10)) ((strB ([(IntKind.wrap .u8 (w (48+(Int.tmod n 10))))]))++c) cc=some r))))):Zci n c cc=some r:=by
 unfold Zci;rw[Zu Zih.eq_1]
 try simp only[itb]at h
 try simp only[itf,gS,kk]at h
 rcases h with⟨q1,(⟨q2,q3,h⟩|⟨q2,h⟩)⟩|⟨q1,(⟨q4,q5,h⟩|⟨q4,q6,h⟩)⟩
 all_goals (refine Yb ?_ h;clear h;simp +decide[*,kk,tI,tII,Zii,Zci,Zmh])
theorem Zrr{a:Int}{r:AV×List Blk}(h:(if a=0 then(some (.t (.str (⟨#[48]⟩:ByteArray)),[])=some r)else(Zci a (⟨#[]⟩:ByteArray) (decide (a<0))=some r))):Zd2 a=some r:=by
 unfold Zd2;refine run Zq1 rfl ?_
 try simp only[itb]at h
 try simp only[itf,gS,kk]at h
 rcases h with⟨q1,h⟩|⟨q1,h⟩
 all_goals (refine Yb ?_ h;clear h;simp +decide[*,kk,tI,tII,Zmi,Zci])
theorem Zrs{a:Int}{r:AV×List Blk}(h:(∃(v:Bool),Zcb a 0 3=some (Bo v,[])∧(if v=true then(0≤a∧(0≤(w (a+1))∧(a.toNat≤(w (a+1)).toNat∧((w (a+1)).toNat≤(⟨#[88,89,90,85]⟩:ByteArray).size∧(some (.t (.str ((⟨#[88,89,90,85]⟩:ByteArray).extract a.toNat ((w (a+1)).toNat))),[])=some r)))))else(some (.t (.str (⟨#[]⟩:ByteArray)),[])=some r)))):Ze3 a=some r:=by
 unfold Ze3;refine run Zq2 rfl ?_;simp only[Zcb,mpl,dfs]at h
 try simp only[itb]at h
 try simp only[itf,gS,kk]at h
 rcases h with⟨v,q1,(⟨q2,q3,q4,q5,q6,h⟩|⟨q2,h⟩)⟩
 all_goals (refine Yb ?_ h;clear h;simp +decide[*,kk,tI,tII,Zmj])
theorem Zm1{l:List Int}{s:ByteArray}{i:Int}{r:AV×List Blk}(h:(if i<(l.length:Int)then(0≤i∧(∃(e1:Int),l[i.toNat]?=some e1∧(∃(v:ByteArray),Ze3 e1=some (.t (.str v),[])∧(s.size+v.size≤9223372036854775807∧(Zc2 l (s++v) (w (i+1))=some r)))))else(some (.t (.str s),[])=some r))):Zc2 l s i=some r:=by
 unfold Zc2;rw[Zu Zij.eq_1];simp only[Ze3,mpl,dfs]at h
 try simp only[itb]at h
 try simp only[itf,gS,kk]at h
 rcases h with⟨q1,q2,e1,⟨g3,q3⟩,v,q4,q5,h⟩|⟨q1,h⟩
 all_goals (refine Yb ?_ h;clear h;simp +decide[*,kk,tI,tII,Zc2,Zik])
theorem Zrt{a:List Int}{r:AV×List Blk}(h:(Zc2 a (⟨#[]⟩:ByteArray) 0=some r)):Ze4 a=some r:=by
 unfold Ze4;refine run Zq3 rfl ?_;refine Yb ?_ h;clear h;simp +decide[*,kk,tI,tII,Zmk,Zc2]
theorem Zm2{c:List Int}{s:ByteArray}{i:Int}{r:AV×List Blk}(h:(if i<(c.length:Int)then(0≤i∧(∃(e1:Int),c[i.toNat]?=some e1∧(∃(v:ByteArray),Zd2 e1=some (.t (.str v),[])∧(s.size+v.size≤9223372036854775807∧(Zc3 c (s++v) (w (i+1))=some r)))))else(some (.t (.str s),[])=some r))):Zc3 c s i=some r:=by
 unfold Zc3;rw[Zu Zil.eq_1];simp only[Zd2,mpl,dfs]at h
 try simp only[itb]at h
 try simp only[itf,gS,kk]at h
 rcases h with⟨q1,q2,e1,⟨g3,q3⟩,v,q4,q5,h⟩|⟨q1,h⟩
 all_goals (refine Yb ?_ h;clear h;simp +decide[*,kk,tI,tII,Zc3,Zim])
theorem Zru{a:List Int}{r:AV×List Blk}(h:(Zc3 a (⟨#[]⟩:ByteArray) 0=some r)):Zd3 a=some r:=by
 unfold Zd3;refine run Zq4 rfl ?_;refine Yb ?_ h;clear h;simp +decide[*,kk,tI,tII,Zml,Zc3]
theorem Zgh{a:Zb}{s:ByteArray}{i:Int}{r:AV×List Blk}(h:(if i<(a.Rows.length:Int)then(if 0<i then(s.size+(⟨#[32]⟩:ByteArray).size≤9223372036854775807∧(0≤i∧(∃(e1:List Int),a.Rows[i.toNat]?=some e1∧(∃(v:ByteArray),Zd3 e1=some (.t (.str v),[])∧(s.size+(⟨#[32]⟩:ByteArray).size+v.size≤9223372036854775807∧(Zcj a ((s++(⟨#[32]⟩:ByteArray))++v) (w (i+1))=some r))))))else(0≤i∧(∃(e3:List Int),a.Rows[i.toNat]?=some e3∧(∃(v1:ByteArray),Zd3 e3=some (.t (.str v1),[])∧(s.size+v1.size≤9223372036854775807∧(Zcj a (s++v1) (w (i+1))=some r))))))else(some (.t (.str s),[])=some r))):Zcj a s i=some r:=by
 unfold Zcj;rw[Zu Zin.eq_1];simp only[Zd3,mpl,dfs]at h
 try simp only[itb]at h
 try simp only[itf,gS,kk]at h
 rcases h with⟨q1,(⟨q2,q3,q4,e1,⟨g5,q5⟩,v,q6,q7,h⟩|⟨q2,q8,e3,⟨g9,q9⟩,v1,q10,q11,h⟩)⟩|⟨q1,h⟩
 all_goals (refine Yb ?_ h;clear h;simp +decide[*,kk,tI,tII,Zcj,Zmm,Zio])
theorem Zrv{a:Zb}{r:AV×List Blk}(h:(∃(v:Bool),Zd1 a=some (Bo v,[])∧(if v=true then(∃(v1:ByteArray),Ze4 a.Vars=some (.t (.str v1),[])∧(v1.size+(⟨#[58]⟩:ByteArray).size≤9223372036854775807∧(Zcj a (v1++(⟨#[58]⟩:ByteArray)) 0=some r)))else(some (.t (.str (⟨#[]⟩:ByteArray)),[])=some r)))):Zgg a=some r:=by
 unfold Zgg;refine run Zq5 rfl ?_;simp only[Zd1,Ze4,Zb.c_def,mpl,dfs]at h
 try simp only[itb]at h
 try simp only[itf,gS,kk]at h
 rcases h with⟨v,q1,(⟨q2,v1,q3,q4,h⟩|⟨q2,h⟩)⟩
 all_goals (refine Yb ?_ h;clear h;simp +decide[*,kk,tI,tII,Zmn,Zcj])
def inR(a b c:Int):Bool:=decide (b≤a∧a≤c)
@[simp] theorem Zgi(a b c:Int):Zca a b c=some (Bo (inR a b c),[]):=by
 refine Zq7 ?_;by_cases h:b≤a<;>simp[inR,h]
@[simp] theorem Zgj(a b c:Int):Zcb a b c=some (Bo (inR a b c),[]):=by
 refine Zrm ?_;by_cases h:b≤a<;>simp[inR,h]
def cmpR:List Int→List Int→Int
 |[],[]=>0
 |[],_::_=>-1
 |_::_,[]=>1
 |a::x,b::y=>if a<b then -1 else if b<a then 1 else cmpR x y
theorem t40:tbl 40=none:=by kernel_rfl
theorem c_join(ws:List ByteArray)(sep:ByteArray)(h1:ws.length≤140737488355328)(h2:(Go.Lib.join (ws.map (·.data.toList)) sep.data.toList).length≤140737488355328):Zh6 ws sep=some (.t (.str (joinB ws sep)),[]):=by
 have h:∃v,Zlj (ws.map sc) sep v:=⟨ws,rfl,h1,h2⟩;refine Zkp t40 ?_;have e:ext 40 [L 1 (ws.map sc),.t (.str sep)] []=some (.t (.str (joinB h.choose sep)),[]):=by
  unfold ext;simp only[if_true];rw[dif_pos h]
 rw[e,sc_inj h.choose_spec.1.symm]
theorem t42:tbl 42=none:=by kernel_rfl
theorem c_fmt(n:Int)(h:OkI n):Zh1 n 10=some (.t (.str ⟨(Go.Lib.itoa n).toArray⟩),[]):=by
 refine Zkp t42 ?_;show(if(42:Nat)=42∧OkI n then _ else _)=_;rw[if_pos ⟨rfl,h⟩]
theorem wS{i n:Nat}(h:i<n)(hn:n≤1099511627776):w ((i:Int)+1)=((i+1:Nat):Int):=by
 rw[show w ((i:Int)+1)=(i:Int)+1 from Zce (by omega) (by omega)];simp
theorem gE{α:Type}{xs:List α}{i:Nat}(h:i<xs.length):xs[(i:Int).toNat]?=some xs[i]:=by rw[Int.toNat_natCast];exact Ybn h
abbrev dig(v:Int):Bool:=inR v 0 9
def rwB(n:Int)(r:List Int):Bool:=r.all dig && decide ((r.length:Int)=n)
theorem Zrw(r:List Int)(n:Int)(hl:Le r):∀i,i≤r.length→Zdd r n r r.length i=some (Bo ((r.drop i).all dig && decide ((r.length:Int)=n)),[]):=by
 refine down _ ?_ ?_
 ·refine Zmo ?_;rw[if_neg (by omega)];simp
 ·intro i hi ih;refine Zmo ?_;rw[if_pos (by omega),Yk hi,Yw,wS hi hl];refine⟨by omega,_,gE hi,_,Zgi _ _ _,?_⟩;rcases tf (inR r[i] 0 9)with e|e
  ·rw[e];simp[dig,e]
  ·rw[e,if_pos rfl,ih];simp[dig,e]
@[simp] theorem Zrx(r:List Int)(n:Int)(hl:Le r):Zes r n=some (Bo (rwB n r),[]):=Zq8 (by simpa[rwB]using Zrw r n hl 0 (Yf _))
theorem Zry(r:List Int)(n:Int)(hl:Le r):∀i,i≤r.length→Zdj r n i=some (Bo ((r.drop i).all dig && decide ((r.length:Int)=n)),[]):=by
 refine down _ ?_ ?_
 ·refine Zmw ?_;rw[if_neg (by omega)];simp
 ·intro i hi ih;refine Zmw ?_;rw[if_pos (by omega),Yk hi,Yw,wS hi hl];refine⟨by omega,_,gE hi,_,Zgj _ _ _,?_⟩;rcases tf (inR r[i] 0 9)with e|e
  ·rw[e];simp[dig,e]
  ·rw[e,if_pos rfl,ih];simp[dig,e]
@[simp] theorem Zrz(r:List Int)(n:Int)(hl:Le r):Ze1 r n=some (Bo (rwB n r),[]):=Zrn (by simpa[rwB]using Zry r n hl 0 (Yf _))
theorem x_cmp(a b:Int):Zeu a b=some (I (if a<b then -1 else if b<a then 1 else 0),[]):=by
 refine Zq9 ⟨_,Zmp rfl,_,Zmp rfl,?_⟩;rw[if_neg (by simp),if_neg (by simp)];by_cases h1:a<b
 ·rw[if_pos h1,if_pos h1]
 ·rw[if_neg h1,if_neg h1];by_cases h2:b<a
  ·rw[if_pos h2,if_pos h2]
  ·rw[if_neg h2,if_neg h2]
theorem Zr0(a b:List Int)(ha:Le a)(hb:Le b):∀i,i≤a.length→i≤b.length→Zde a b a a.length i=some (I (cmpR (a.drop i) (b.drop i)),[]):=by
 refine down _ ?_ ?_
 ·intro h;refine Zmq ?_;rw[if_neg (by omega),List.drop_length];by_cases h2:(a.length:Int)<(b.length:Int)
  ·rw[if_pos h2,Yk (l:=b) (i:=a.length) (by omega)];rfl
  ·rw[if_neg h2,show a.length=b.length by omega,List.drop_length];rfl
 ·intro i hi ih h;refine Zmq ?_;rw[if_pos (by omega),Yk hi,wS hi ha];refine⟨by omega,_,gE hi,?_⟩;by_cases h2:(b.length:Int)≤(i:Int)
  ·rw[if_pos h2,show b.drop i=[]from Ybw (by omega)];rfl
  ·have hj:i<b.length:=by omega
   rw[if_neg h2,Yk hj];refine⟨_,gE hj,_,x_cmp _ _,?_⟩;unfold cmpR;by_cases e1:a[i]<b[i]
   ·rw[if_pos e1,if_pos e1];rfl
   ·rw[if_neg e1,if_neg e1];by_cases e2:b[i]<a[i]
    ·rw[if_pos e2,if_pos e2];rfl
    ·rw[if_neg e2,if_neg e2,if_pos rfl];exact ih (by omega)
@[simp] theorem Zr1(a b:List Int)(ha:Le a)(hb:Le b):Zev a b=some (I (cmpR a b),[]) :=
 Zrb ⟨_,Zra (by simpa using Zr0 a b ha hb 0 (Yf _) (Yf _)),rfl⟩
theorem Zm3(a b:List Int)(i:Nat)(ha:i≤a.length)(hb:i≤b.length)(h:i=a.length∨i=b.length):Zd0 a b i false=some (I (cmpR (a.drop i) (b.drop i)),[]):=by
 refine Zro ?_;by_cases h1:(a.length:Int)<(b.length:Int)
 ·rw[if_pos h1,show a.drop i=[]from Ybw (by omega),Yk (l:=b) (i:=i) (by omega)];rfl
 ·rw[if_neg h1];by_cases h2:(b.length:Int)<(a.length:Int)
  ·rw[if_pos h2,show b.drop i=[]from Ybw (by omega),Yk (l:=a) (i:=i) (by omega)];rfl
  ·rw[if_neg h2,show a.drop i=[]from Ybw (by omega),show b.drop i=[]from Ybw (by omega)];rfl
theorem Zr2(a b:List Int)(ha:Le a)(hb:Le b):∀i,i≤a.length→i≤b.length→Zdk a b i=some (I (cmpR (a.drop i) (b.drop i)),[]):=by
 refine down _ ?_ ?_
 ·intro h;refine Zmx ?_;rw[if_neg (by omega)];exact Zm3 a b _ (Ye _) h (.inl rfl)
 ·intro i hi ih h;refine Zmx ?_;rw[if_pos (by omega)];by_cases h2:(i:Int)<(b.length:Int)
  ·have hj:i<b.length:=by omega
   rw[if_pos h2];refine⟨by omega,_,gE hi,_,gE hj,?_⟩;rw[wS hi ha,Yk hi,Yk hj];unfold cmpR;by_cases e1:a[i]<b[i]
   ·rw[if_pos e1,if_pos e1]
   ·rw[if_neg e1,if_neg e1];by_cases e2:b[i]<a[i]
    ·rw[if_pos e2,if_pos e2]
    ·rw[if_neg e2,if_neg e2];exact ih (by omega)
  ·rw[if_neg h2];exact Zm3 a b _ (by omega) h (.inr (by omega))
@[simp] theorem Zr3(a b:List Int)(ha:Le a)(hb:Le b):Ze2 a b=some (I (cmpR a b),[]) :=
 Zrp (by simpa using Zr2 a b ha hb 0 (Yf _) (Yf _))
def pvA{α:Type}(xs:List α):Nat→Option α
 |0=>none
 |k+1=>xs[k]?
def nxt{α:Type}(lt:α→α→Bool)(p:Option α)(x:α):Bool:=match p with
 |none=>true
 |some q=>lt q x
def adjL{α:Type}(lt:α→α→Bool):Option α→List α→Bool
 |_,[]=>true
 |p,x::xs=>nxt lt p x && adjL lt (some x) xs
theorem Zgk{α:Type}(lt:α→α→Bool){xs:List α}{i:Nat}(hi:i<xs.length):adjL lt (pvA xs i) (xs.drop i)=(nxt lt (pvA xs i) xs[i] && adjL lt (pvA xs (i+1)) (xs.drop (i+1))):=by
 rw[Yk hi,adjL,show pvA xs (i+1)=some xs[i]from Ybn hi]
def ltR(a b:List Int):Bool:=decide (cmpR a b<0)
theorem wP{i n:Nat}(h0:0<i)(h:i<n)(hn:n≤1099511627776):w ((i:Int)-1)=((i-1:Nat):Int):=by
 rw[show w ((i:Int)-1)=(i:Int)-1 from Zce (by omega) (by omega)];omega
theorem Zgl{α:Type}{xs:List α}{i:Nat}(h0:0<i)(h:i-1<xs.length):pvA xs i=some xs[i-1]:=by
 obtain⟨k,rfl⟩:∃k,i=k+1:=⟨i-1,by omega⟩;exact Ybn h
theorem Zr4(rows:List (List Int))(hl:Le rows)(hr:∀r∈rows,Le r):∀i,i≤rows.length→0<i→Zdf rows i=some (Bo (adjL ltR (pvA rows i) (rows.drop i)),[]):=by
 refine down _ ?_ ?_
 ·intro h0;refine Ziq ?_;rw[if_neg (by omega)];simp[adjL]
 ·intro i hi ih h0;have hp:i-1<rows.length:=by omega
  have ih':=ih (by omega);refine Ziq ?_;rw[if_pos (by omega),wP h0 hi hl,wS hi hl,Zgk _ hi,Zgl h0 hp];refine⟨by omega,_,gE hp,by omega,_,gE hi,_,Zr1 _ _ (hr _ (Ys hp)) (hr _ (Ys hi)),?_⟩;unfold nxt ltR at *
  by_cases e:0≤cmpR rows[i-1] rows[i]
  ·rw[if_pos e];simp[show ¬cmpR rows[i-1] rows[i]<0 by omega]
  ·rw[if_neg e,ih'];simp[show cmpR rows[i-1] rows[i]<0 by omega]
theorem Zr5(rows:List (List Int))(hl:Le rows)(hr:∀r∈rows,Le r):Zew rows=some (Bo (adjL ltR none rows),[]):=by
 refine Zrc ?_
 cases rows with
 |nil=>refine Ziq ?_;rw[if_neg (by simp)];rfl
 |cons r rs=>exact Zr4 (r::rs) hl hr 1 (by simp) (by omega)
def S(l:List UInt8):ByteArray:=⟨l.toArray⟩
theorem Z4(a b:List UInt8):S a++S b=S (a++b):=by
 apply ByteArray.ext;rw[ByteArray.data_append];simp[S]
@[simp] theorem S_size(a:List UInt8):(S a).size=a.length:=by simp[S,ByteArray.size]
theorem Zm4(l:List UInt8)(a b:Nat):(S l).extract a b=S ((l.drop a).take (b-a)):=by
 apply ByteArray.ext;rw[ByteArray.data_extract];simp[S]
theorem strB_S(ns:List Int):strB ns=S (ns.map fun n=>UInt8.ofNat n.toNat):=rfl
theorem wA{x:Int}(h1:-9223372036854775808≤x)(h2:x≤9223372036854775807):w x=x:=Zce (by omega) (by omega)
theorem w8{x:Int}(h1:0≤x)(h2:x≤255):IntKind.wrap .u8 x=x:=by
 simp only[IntKind.wrap,IntKind.min,IntKind.bits,IntKind.signed];simp;omega
def digs(u:Nat):List UInt8:=if u=0 then[]else Go.Lib.decDigits u
theorem Zr6{u:Nat}(h:u≠0):digs u=digs (u / 10)++[UInt8.ofNat (48+u % 10)]:=by
 unfold digs;rw[if_neg h,Go.Lib.decDigits];by_cases h1:u<10
 ·rw[dif_pos h1,if_pos (by omega),Nat.mod_eq_of_lt h1];rfl
 ·rw[dif_neg h1,if_neg (by omega)]
theorem Zr7(neg:Bool):∀(k:Nat) (n:Int) (out:List UInt8),n.natAbs<10 ^ k→k≤19→out.length+k≤40→OkI n →
  Zci n (S out) neg=some (.t (.str (S ((if neg then[45]else[])++digs n.natAbs++out))),[]):=by
 intro k
 induction k with
 |zero =>
  intro n out h _ ho hn;have h0:n=0:=by omega
  subst h0;refine Zm0 ?_;rw[if_pos rfl];rcases tf neg with e|e
  ·rw[e,if_neg (by simp)];simp[digs]
  ·rw[e,if_pos rfl,show(⟨#[45]⟩:ByteArray)=S [45]from rfl];refine⟨by simp;omega,?_⟩
   rw[Z4];simp[digs]
 |succ k ih =>
  intro n out h hk ho hn;refine Zm0 ?_;by_cases h0:n=0
  ·subst h0;rw[if_pos rfl];rcases tf neg with e|e
   ·rw[e,if_neg (by simp)];simp[digs]
   ·rw[e,if_pos rfl,show(⟨#[45]⟩:ByteArray)=S [45]from rfl];refine⟨by simp;omega,?_⟩;rw[Z4];simp[digs]
  ·rw[if_neg h0];have hp:(10:Nat) ^ (k+1)=10 ^ k*10:=Nat.pow_succ ..;have hda:(Int.tdiv n 10).natAbs=n.natAbs / 10:=by rw[Int.natAbs_tdiv];rfl
   have hma:(Int.tmod n 10).natAbs=n.natAbs % 10:=by rw[Int.natAbs_tmod];rfl
   have hd:OkI (Int.tdiv n 10):=by omega
   have hdl:(Int.tdiv n 10).natAbs<10 ^ k:=by rw[hda];omega
   have key:=ih (Int.tdiv n 10) (UInt8.ofNat (48+n.natAbs % 10)::out) hdl (by omega) (by simp;omega) hd;rw[hda]at key;have hu:n.natAbs≠0:=by omega
   have fin:∀d:Int,d=((n.natAbs % 10:Nat):Int)→(strB [IntKind.wrap .u8 (w (48+d))]).size+(S out).size≤9223372036854775807 ∧
     Zci (w (Int.tdiv n 10)) (strB [IntKind.wrap .u8 (w (48+d))]++S out) neg=some (.t (.str (S ((if neg then[45]else[])++digs n.natAbs++out))),[]):=by
    intro d hdd;rw[wA (x:=48+d) (by omega) (by omega),w8 (by omega) (by omega),strB_S];have e1:(48+d).toNat=48+n.natAbs % 10:=by omega
    simp only[Yj,Ybb,e1];refine⟨by simp;omega,?_⟩;rw[Z4,wA (x:=Int.tdiv n 10) (by omega) (by omega),List.singleton_append,key,Zr6 hu];simp
   by_cases hneg:Int.tmod n 10<0
   ·rw[if_pos hneg];rw[wA (x:=0-Int.tmod n 10) (by omega) (by omega)];exact fin _ (by omega)
   ·rw[if_neg hneg];exact fin _ (by omega)
theorem Zir(n:Int)(h:OkI n):Zd2 n=some (.t (.str (S (Go.Lib.itoa n))),[]):=by
 refine Zrr ?_;by_cases h0:n=0
 ·subst h0;rw[if_pos rfl];have:Go.Lib.itoa 0=[48]:=by
   unfold Go.Lib.itoa;rw[if_neg (by omega)];exact Go.Lib.decDigits_one (by decide)
  rw[this];rfl
 ·have h19:(10:Nat) ^ 19=10000000000000000000:=by decide
  rw[if_neg h0,show(⟨#[]⟩:ByteArray)=S []from rfl,Zr7 _ 19 n [] (by omega) (by omega) (by simp) h];have hu:n.natAbs≠0:=by omega
  unfold Go.Lib.itoa digs;rw[if_neg hu];by_cases hn:n<0
  ·simp[hn]
  ·rw[if_neg hn,show n.toNat=n.natAbs by omega];simp[hn]
def ltI(a b:Int):Bool:=decide (a<b)
def vA(a:Zb):Bool:=(a.Vars.all (fun v=>inR v 0 3) && adjL ltI none a.Vars) && (a.Rows.all (rwB a.Vars.length) && adjL ltR none a.Rows)
abbrev LeA(a:Zb):Prop:=Le a.Vars∧Le a.Rows∧∀r∈a.Rows,Le r
theorem Zr8(a:Zb)(h:LeA a):∀i,i≤a.Rows.length→Zc1 a i=some (Bo ((a.Rows.drop i).all (rwB a.Vars.length) && adjL ltR (pvA a.Rows i) (a.Rows.drop i)),[]):=by
 refine down _ ?_ ?_
 ·refine Zmz ?_;rw[if_neg (by omega)];simp[adjL]
 ·intro i hi ih;have hr:=h.2.2 _ (Ys hi);refine Zmz ?_;rw[Zgk _ hi,if_pos (by omega),Yk hi,Yw,wS hi h.2.1];refine⟨by omega,_,gE hi,_,Zrz _ _ hr,?_⟩;rcases tf (rwB a.Vars.length a.Rows[i])with e|e
  ·rw[e];simp
  rw[e,if_pos rfl];by_cases h0:0<i
  ·have hp:i-1<a.Rows.length:=by omega
   rw[if_pos (by omega),wP h0 hi h.2.1,Zgl h0 hp];refine⟨by omega,_,gE hp,_,Zr3 _ _ (h.2.2 _ (Ys hp)) hr,?_⟩;unfold nxt ltR at *
   by_cases e:0≤cmpR a.Rows[i-1] a.Rows[i]
   ·rw[if_pos e];simp[show ¬cmpR a.Rows[i-1] a.Rows[i]<0 by omega]
   ·rw[if_neg e,ih];simp[show cmpR a.Rows[i-1] a.Rows[i]<0 by omega]
  ·have:i=0:=by omega
   subst this;rw[if_neg (by omega),ih];simp[pvA,nxt]
theorem Zr9(a:Zb)(h:LeA a):∀i,i≤a.Vars.length→Zc0 a i=some (Bo (((a.Vars.drop i).all (fun v=>inR v 0 3) && adjL ltI (pvA a.Vars i) (a.Vars.drop i)) && (a.Rows.all (rwB a.Vars.length) && adjL ltR none a.Rows)),[]):=by
 refine down _ ?_ ?_
 ·refine Zmy ?_;rw[if_neg (by omega),show(0:Int)=((0:Nat):Int)from rfl,Zr8 a h 0 (Yf _)];simp[adjL,pvA]
 ·intro i hi ih;refine Zmy ?_;rw[Zgk _ hi,if_pos (by omega),Yk hi,Yw,wS hi h.1];refine⟨by omega,_,gE hi,_,Zgj _ _ _,?_⟩;rcases tf (inR a.Vars[i] 0 3)with e|e
  ·rw[e];simp
  rw[e,if_pos rfl];by_cases h0:0<i
  ·have hp:i-1<a.Vars.length:=by omega
   rw[if_pos (by omega),wP h0 hi h.1,Zgl h0 hp];refine⟨by omega,_,gE hp,?_⟩;unfold nxt ltI at *
   by_cases e:a.Vars[i]≤a.Vars[i-1]
   ·rw[if_pos e];simp[show ¬a.Vars[i-1]<a.Vars[i] by omega]
   ·rw[if_neg e,ih];simp[show a.Vars[i-1]<a.Vars[i] by omega]
  ·have:i=0:=by omega
   subst this;rw[if_neg (by omega),ih];simp[pvA,nxt]
@[simp] theorem Zm5(a:Zb)(h:LeA a):Zd1 a=some (Bo (vA a),[]):=Zrq (by simpa[vA,pvA]using Zr9 a h 0 (Yf _))
theorem Zsa(a:Zb)(h:LeA a):∀i,i≤a.Rows.length→Zdg a a.Rows a.Rows.length i=some (Bo ((a.Rows.drop i).all (rwB a.Vars.length) && adjL ltR none a.Rows),[]):=by
 refine down _ ?_ ?_
 ·refine Zms ?_;rw[if_neg (by omega)];exact⟨_,Zr5 _ h.2.1 h.2.2,by simp⟩
 ·intro i hi ih;refine Zms ?_;rw[if_pos (by omega),Yk hi,Yw,wS hi h.2.1];refine⟨by omega,_,gE hi,_,Zrx _ _ (h.2.2 _ (Ys hi)),?_⟩;rcases tf (rwB a.Vars.length a.Rows[i])with e|e
  ·rw[e];simp
  ·rw[e,if_pos rfl,ih];simp
theorem Zsb(a:Zb)(h:LeA a):∀i,i≤a.Vars.length→Zcy a a.Vars a.Vars.length i=some (Bo (((a.Vars.drop i).all (fun v=>inR v 0 3) && adjL ltI (pvA a.Vars i) (a.Vars.drop i)) && (a.Rows.all (rwB a.Vars.length) && adjL ltR none a.Rows)),[]):=by
 refine down _ ?_ ?_
 ·refine Zmr ?_;rw[if_neg (by omega),show(0:Int)=((0:Nat):Int)from rfl,Zsa a h 0 (Yf _)];simp[adjL]
 ·intro i hi ih;refine Zmr ?_;rw[Zgk _ hi,if_pos (by omega),Yk hi,Yw,wS hi h.1];refine⟨by omega,_,gE hi,_,Zgi _ _ _,?_⟩;rcases tf (inR a.Vars[i] 0 3)with e|e
  ·rw[e];simp
  rw[e,if_pos rfl];by_cases h0:0<i
  ·have hp:i-1<a.Vars.length:=by omega
   rw[if_pos (by omega),wP h0 hi h.1,Zgl h0 hp];refine⟨by omega,_,gE hp,?_⟩;unfold nxt ltI at *
   by_cases e:a.Vars[i]≤a.Vars[i-1]
   ·rw[if_pos e];simp[show ¬a.Vars[i-1]<a.Vars[i] by omega]
   ·rw[if_neg e,ih];simp[show a.Vars[i-1]<a.Vars[i] by omega]
  ·have:i=0:=by omega
   subst this;rw[if_neg (by omega),ih];simp[pvA,nxt]
@[simp] theorem Zm6(a:Zb)(h:LeA a):Zdy a=some (Bo (vA a),[]):=Zrd (by simpa[vA,pvA]using Zsb a h 0 (Yf _))
def lowB:Option Int→Int
 |none=>0
 |some q=>max (q+1) 0
theorem Zm7:∀(l:List Int) (p:Option Int),adjL ltI p l=true→l.all (fun v=>inR v 0 3)=true→(l.length:Int)+lowB p≤4∨l=[]
 |[],_,_,_=>.inr rfl
 |x::l,p,h,hr=>by
  rw[adjL,Yd]at h;simp only[Yw,Yd]at hr;have hx:0≤x∧x≤3:=by simpa[inR]using hr.1
  have hp:lowB p≤x:=by
   cases p with
   |none=>simp only[lowB];omega
   |some q =>
    have:q<x:=by simpa[nxt,ltI]using h.1
    simp only[lowB];omega
  left;rcases Zm7 l (some x) h.2 hr.2 with h1|h1
  ·simp only[lowB]at h1;simp only[Y1];omega
  ·subst h1;simp only[Y1,List.length_nil];omega
theorem Zd5{a:Zb}(h:vA a=true):(∀v∈a.Vars,0≤v∧v≤3)∧a.Vars.length≤4∧∀r∈a.Rows,r.length=a.Vars.length∧∀d∈r,0≤d∧d≤9:=by
 unfold vA at h;simp only[Yd]at h;refine⟨fun v hv=>by simpa[inR]using Yh.1 h.1.1 v hv,?_,fun r hr=>?_⟩
 ·rcases Zm7 _ _ h.1.2 h.1.1 with h1|h1
  ·simp only[lowB]at h1;omega
  ·simp[h1]
 ·have:=Yh.1 h.2.1 r hr;simp only[rwB,Yd,Yh,decide_eq_true_eq]at this;exact⟨by omega,fun d hd=>by simpa[dig,inR]using this.1 d hd⟩
def nm(v:Int):List UInt8:=(([88,89,90,85]:List UInt8).drop v.toNat).take 1
def Zbw(vs:List Int):List UInt8:=vs.flatMap nm
def dgs(r:List Int):List UInt8:=r.map fun d=>UInt8.ofNat (48+d.toNat)
theorem Zm8{vs:List Int}{i:Nat}(h:i<vs.length):Zbw (vs.drop i)=nm vs[i]++Zbw (vs.drop (i+1)):=by rw[Yk h];rfl
theorem dgs_drop{r:List Int}{i:Nat}(h:i<r.length):dgs (r.drop i)=UInt8.ofNat (48+r[i].toNat)::dgs (r.drop (i+1)):=by rw[Yk h];rfl
theorem Zis(vs:List Int):(Zbw vs).length≤vs.length:=by
 induction vs with
 |nil=>simp[Zbw]
 |cons v vs ih =>
  have:(nm v).length≤1:=by simp[nm];omega
  simp only[Zbw,Ycb,Yi,Y1]at ih⊢;omega
theorem Zsc{v:Int}(h:0≤v∧v≤3):Ze3 v=some (.t (.str (S (nm v))),[]):=by
 refine Zrs ⟨_,Zgj _ _ _,?_⟩;rw[show inR v 0 3=true by simp[inR];omega,if_pos rfl,wA (by omega) (by omega)];refine⟨h.1,by omega,by omega,?_,?_⟩
 ·show(v+1).toNat≤4;omega
 ·rw[show(⟨#[88,89,90,85]⟩:ByteArray)=S [88,89,90,85]from rfl,Zm4,show(v+1).toNat-v.toNat=1 by omega];rfl
theorem Zsd{v:Int}(h:0≤v∧v≤3):Zex v=some (.t (.str (S (nm v))),[]):=by
 refine Zrh ⟨_,Zgi _ _ _,?_⟩;rw[show inR v 0 3=true by simp[inR];omega,if_pos rfl,wA (by omega) (by omega)];refine⟨h.1,by omega,by omega,?_,?_⟩
 ·show(v+1).toNat≤4;omega
 ·rw[show(⟨#[88,89,90,85]⟩:ByteArray)=S [88,89,90,85]from rfl,Zm4,show(v+1).toNat-v.toNat=1 by omega];rfl
theorem Zse{vs:List Int}(h:∀v∈vs,0≤v∧v≤3)(hl:vs.length≤4):∀i,i≤vs.length→∀s:List UInt8,s.length+(vs.length-i)≤8→Zc2 vs (S s) i=some (.t (.str (S (s++Zbw (vs.drop i)))),[]):=by
 refine down _ ?_ ?_
 ·intro s _;refine Zm1 ?_;rw[if_neg (by omega)];simp[Zbw]
 ·intro i hi ih s hs;have hv:=h _ (Ys hi);have hn:(nm vs[i]).length≤1:=by simp[nm];omega
  refine Zm1 ?_;rw[if_pos (by omega)];refine⟨by omega,_,gE hi,_,Zsc hv,by simp;omega,?_⟩;rw[Z4,wS hi (by omega),ih _ (by simp;omega),Zm8 hi,Yu]
theorem Zsf{vs:List Int}(h:∀v∈vs,0≤v∧v≤3)(hl:vs.length≤4):∀i,i≤vs.length→∀s:List UInt8,s.length+(vs.length-i)≤8→Zcz (S s) vs vs.length i=some (.t (.str (S (s++Zbw (vs.drop i)))),[]):=by
 refine down _ ?_ ?_
 ·intro s _;refine Zmt ?_;rw[if_neg (by omega)];simp[Zbw]
 ·intro i hi ih s hs;have hv:=h _ (Ys hi);have hn:(nm vs[i]).length≤1:=by simp[nm];omega
  refine Zmt ?_;rw[if_pos (by omega)];refine⟨by omega,_,gE hi,_,Zsd hv,by simp;omega,?_⟩;rw[Z4,wS hi (by omega),ih _ (by simp;omega),Zm8 hi,Yu]
theorem Zsg{vs:List Int}(h:∀v∈vs,0≤v∧v≤3)(hl:vs.length≤4):Ze4 vs=some (.t (.str (S (Zbw vs))),[]):=Zrt (show Zc2 vs (S []) ((0:Nat):Int)=_ from by rw[Zse h hl 0 (Yf _) [] (by simp;omega)];rfl)
theorem Zsh{vs:List Int}(h:∀v∈vs,0≤v∧v≤3)(hl:vs.length≤4):Zey vs=some (.t (.str (S (Zbw vs))),[]):=Zri (show Zcz (S []) vs vs.length ((0:Nat):Int)=_ from by rw[Zsf h hl 0 (Yf _) [] (by simp;omega)];rfl)
theorem itoa_dig{d:Int}(h:0≤d∧d≤9):Go.Lib.itoa d=[UInt8.ofNat (48+d.toNat)]:=by
 unfold Go.Lib.itoa;rw[if_neg (by omega)];exact Go.Lib.decDigits_one (by omega)
theorem Zsi{r:List Int}(h:∀d∈r,0≤d∧d≤9)(hl:r.length≤4):∀i,i≤r.length→∀s:List UInt8,s.length+(r.length-i)≤8→Zc3 r (S s) i=some (.t (.str (S (s++dgs (r.drop i)))),[]):=by
 refine down _ ?_ ?_
 ·intro s _;refine Zm2 ?_;rw[if_neg (by omega)];simp[dgs]
 ·intro i hi ih s hs;have hv:=h _ (Ys hi);refine Zm2 ?_;rw[if_pos (by omega)];refine⟨by omega,_,gE hi,_,by rw[Zir _ (by omega),itoa_dig hv],by simp;omega,?_⟩;rw[Z4,wS hi (by omega),ih _ (by simp;omega),dgs_drop hi,Yu,List.singleton_append]
theorem Zm9{r:List Int}(h:∀d∈r,0≤d∧d≤9)(hl:r.length≤4):Zd3 r=some (.t (.str (S (dgs r))),[]):=Zru (show Zc3 r (S []) ((0:Nat):Int)=_ from by rw[Zsi h hl 0 (Yf _) [] (by simp;omega)];rfl)
theorem Zsj{r:List Int}(h:∀d∈r,0≤d∧d≤9)(hl:r.length≤4):∀i,i≤r.length→Zdh ((r.take i).map fun d=>48+d) r r.length i=some (.t (.str (S (dgs r))),[]):=by
 refine down _ ?_ ?_
 ·refine Zmu ?_;rw[if_neg (by omega),strB_S];have:(r.map fun d=>48+d).map (fun n=>UInt8.ofNat n.toNat)=dgs r:=by
   rw[List.map_map];refine Y6 fun d hd=>?_
   have:=h d hd;simp only[Function.comp];congr 1;omega
  simp only[Yb8,this]
 ·intro i hi ih;have hv:=h _ (Ys hi);refine Zmu ?_;rw[if_pos (by omega)];refine⟨by omega,_,gE hi,by simp;omega,?_⟩;rw[wS hi (by omega),wA (x:=48+r[i]) (by omega) (by omega),w8 (by omega) (by omega),show((r.take i).map fun d=>48+d)++[48+r[i]]=(r.take (i+1)).map fun d=>48+d by rw[Yci hi];simp only[Ybp,Yj,Ybb]];exact ih
theorem Zsk{r:List Int}(h:∀d∈r,0≤d∧d≤9)(hl:r.length≤4):Zez r=some (.t (.str (S (dgs r))),[]):=Zrj (by simpa using Zsj h hl 0 (Yf _))
def Zck(rows:List (List Int)):List UInt8:=Go.Lib.join (rows.map dgs) [32]
def Zc4(rows:List (List Int)):List UInt8:=Go.Lib.joinTail [32] (rows.map dgs)
abbrev RwOk(rows:List (List Int)):Prop:=∀r∈rows,r.length≤4∧∀d∈r,0≤d∧d≤9
theorem Zna(r:List Int)(rows:List (List Int)):Zck (r::rows)=dgs r++Zc4 rows:=Go.Lib.join_cons _ _ _
theorem Znb(r:List Int)(rows:List (List Int)):Zc4 (r::rows)=32::(dgs r++Zc4 rows):=by simp[Zc4,Go.Lib.joinTail]
theorem Zsl(rows:List (List Int))(h:RwOk rows):(Zc4 rows).length≤5*rows.length:=by
 induction rows with
 |nil=>simp[Zc4,Go.Lib.joinTail]
 |cons r rows ih =>
  have h1:=ih fun x hx=>h x (List.mem_cons_of_mem _ hx)
  have h2:=(h r (List.mem_cons_self ..)).1;rw[Znb];simp only[Y1,Yi,dgs,Ybi];omega
theorem Zit(rows:List (List Int))(h:RwOk rows):(Zck rows).length≤5*rows.length:=by
 cases rows with
 |nil=>simp[Zck,Go.Lib.join_nil]
 |cons r rows =>
  have h1:=Zsl rows fun x hx=>h x (List.mem_cons_of_mem _ hx)
  have h2:=(h r (List.mem_cons_self ..)).1;rw[Zna];simp only[Y1,Yi,dgs,Ybi];omega
theorem Zsm(a:Zb)(h:RwOk a.Rows)(hl:Le a.Rows):∀i,i≤a.Rows.length→0<i→∀s:List UInt8,s.length+5*(a.Rows.length-i)≤9223372036854770000→Zcj a (S s) i=some (.t (.str (S (s++Zc4 (a.Rows.drop i)))),[]):=by
 refine down _ ?_ ?_
 ·intro _ s _;refine Zgh ?_;rw[if_neg (by omega)];simp[Zc4,Go.Lib.joinTail]
 ·intro i hi ih h0 s hs;have hv:=h _ (Ys hi);refine Zgh ?_;rw[if_pos (by omega),if_pos (by omega),show(⟨#[32]⟩:ByteArray)=S [32]from rfl,Z4];refine⟨by simp;omega,by omega,_,gE hi,_,Zm9 hv.2 hv.1,by simp[dgs];omega,?_⟩;rw[Z4,wS hi hl,ih (by omega) _ (by simp[dgs];omega),Yk hi,Znb];simp
theorem Zsn(a:Zb)(h:RwOk a.Rows)(hl:Le a.Rows)(s:List UInt8)(hs:s.length≤100):Zcj a (S s) 0=some (.t (.str (S (s++Zck a.Rows))),[]):=by
 cases hr:a.Rows with
 |nil =>
  refine Zgh ?_
  rw[if_neg (by simp[hr])];simp[Zck,Go.Lib.join_nil]
 |cons r rows =>
  have h0:0<a.Rows.length:=by rw[hr];simp
  have hv:=h _ (Ys h0);have hg:a.Rows[0]=r:=by simp[hr]
  refine Zgh ?_;rw[if_pos (by omega),if_neg (by omega)];refine⟨by omega,_,gE h0,_,Zm9 hv.2 hv.1,by simp[dgs];omega,?_⟩;rw[Z4,show w ((0:Int)+1)=((1:Nat):Int)from wS h0 hl,Zsm a h hl 1 (by omega) (by omega) _ (by simp[dgs];omega),Zna,hg,show a.Rows.drop 1=rows by simp[hr]];simp
def fmtA(a:Zb):List UInt8:=if vA a then Zbw a.Vars++[58]++Zck a.Rows else[]
theorem rwOk{a:Zb}(h:vA a=true):RwOk a.Rows:=fun r hr=>⟨by have:=((Zd5 h).2.2 r hr).1;have:=(Zd5 h).2.1;omega,((Zd5 h).2.2 r hr).2⟩
theorem Zso(a:Zb)(h:LeA a):Zgg a=some (.t (.str (S (fmtA a))),[]):=by
 refine Zrv ⟨_,Zm5 a h,?_⟩;unfold fmtA;rcases tf (vA a)with e|e
 ·rw[e];rfl
 ·have hs:=Zd5 e;have hn:=Zis a.Vars;rw[e,if_pos rfl,if_pos rfl,show(⟨#[58]⟩:ByteArray)=S [58]from rfl];refine⟨_,Zsg hs.1 hs.2.1,by simp;omega,?_⟩;rw[Z4,Zsn a (rwOk e) h.2.1 _ (by simp;omega)]
theorem Zsp{rows:List (List Int)}(h:RwOk rows)(hl:rows.length≤4294967296):∀i,i≤rows.length→Zdi ((rows.take i).map fun r=>S (dgs r)) rows rows.length i=some (.t (.str (S (Zck rows))),[]):=by
 refine down _ ?_ ?_
 ·refine Zmv ?_;rw[if_neg (by omega)];have e:(((rows.take rows.length).map fun r=>S (dgs r)).map (·.data.toList))=rows.map dgs:=by
   rw[Yb8,List.map_map];exact Y6 fun r _=>by simp[S]
  refine⟨_,c_join _ _ (by simp;omega) (by rw[e];have:=Zit rows h;unfold Zck at this;exact Ym this (by omega)),?_⟩;unfold joinB;rw[e];rfl
 ·intro i hi ih;have hv:=h _ (Ys hi);refine Zmv ?_;rw[if_pos (by omega)];refine⟨by omega,_,gE hi,_,Zsk hv.2 hv.1,by simp;omega,?_⟩;rw[wS hi (by omega),show((rows.take i).map fun r=>S (dgs r))++[S (dgs rows[i])]=(rows.take (i+1)).map fun r=>S (dgs r) by rw[Yci hi];simp only[Ybp,Yj,Ybb]];exact ih
theorem Zsq{rows:List (List Int)}(h:RwOk rows)(hl:rows.length≤4294967296):Ze0 rows=some (.t (.str (S (Zck rows))),[]):=Zrk (by simpa using Zsp h hl 0 (Yf _))
theorem Zsr(a:Zb)(h:LeA a)(hr:a.Rows.length≤4294967296):Zge a=some (.t (.str (S (fmtA a))),[]):=by
 refine Zrl ⟨_,Zm6 a h,?_⟩;unfold fmtA;rcases tf (vA a)with e|e
 ·rw[e];rfl
 ·have hs:=Zd5 e;have hn:=Zis a.Vars;have hl:=Zit a.Rows (rwOk e);rw[e,if_pos rfl,if_pos rfl,show(⟨#[58]⟩:ByteArray)=S [58]from rfl];refine⟨_,Zsh hs.1 hs.2.1,by simp;omega,_,Zsq (rwOk e) hr,by simp;omega,?_⟩;rw[Z4,Z4]
theorem Znc(a:Zb)(hr:a.Rows.length≤4294967296):(fmtA a).length≤30000000000:=by
 unfold fmtA;rcases tf (vA a)with e|e
 ·rw[e];simp
 ·have hs:=Zd5 e;have hn:=Zis a.Vars;have hl:=Zit a.Rows (rwOk e);rw[e,if_pos rfl];simp;omega
def modeT(m:Int):List UInt8:=if m=1 then[99,97,99,104,101,100]else if m=2 then[101,120,97,99,116]else[98,111,117,113,117,101,116]
def fmtR(r:Zm):List UInt8:=if inR r.Mode 1 3 && vA r.Zb then modeT r.Mode++[32]++Go.Lib.itoa r.Cost++[32]++Go.Lib.itoa r.Runs++[32]++fmtA r.Zb else[]
theorem Znd(n:Int)(h:OkI n):Zgd n=some (.t (.str (S (Go.Lib.itoa n))),[]) :=
 Zrg ⟨_,Zrf ⟨_,Zre ⟨_,c_fmt n h,rfl⟩,rfl⟩,rfl⟩
theorem modes{r:Zm}(e:inR r.Mode 1 3=true):r.Mode=1∨r.Mode=2∨r.Mode=3:=by
 have:1≤r.Mode∧r.Mode≤3:=by simpa[inR]using e
 omega
theorem Zss(r:Zm)(h:LeA r.Zb)(hr:r.Zb.Rows.length≤4294967296)(hc:OkI r.Cost)(hu:OkI r.Runs):Zip r=some (.t (.str (S (fmtR r))),[]):=by
 obtain⟨m,c,u,a⟩:=r;have a1:=Zgj m 1 3;have a2:=Zm5 a h;have a3:=Zir c hc;have a4:=Zir u hu;have a5:=Zso a h;unfold Zcb at a1;unfold Zd1 at a2;unfold Zd2 at a3 a4;unfold Zgg at a5;have h1:=Go.Lib.itoa_length_le c hc.1 hc.2;have h2:=Go.Lib.itoa_length_le u hu.1 hu.2;have h3:=Znc a hr;simp only[Zb.c_def,Yj,Ybb]at a2 a5;unfold fmtR Zip;refine run Zq6 rfl ?_;simp only at *
 rcases tf (inR m 1 3)with e|e
 ·simp +decide[*,kk,tI,tII,Zd4]
 rcases tf (vA a)with e2|e2
 ·simp +decide[*,kk,tI,tII,Zd4]
 have hm:=modes (r:=⟨m,c,u,a⟩) e;simp only at hm;generalize Go.Lib.itoa c=lc at *
 generalize Go.Lib.itoa u=lu at *
 generalize fmtA a=la at *
 have z:(⟨#[32]⟩:ByteArray).size=1:=rfl;have w0:IntKind.i64.wrap 0=0:=by decide
 have w1:IntKind.i64.wrap 1=1:=by decide
 have w2:IntKind.i64.wrap 2=2:=by decide
 have sp:(⟨#[32]⟩:ByteArray)=S [32]:=rfl;rcases hm with rfl|rfl|rfl
 ·have n1:(⟨#[99,97,99,104,101,100]⟩:ByteArray).size=6:=rfl;have n2:(⟨#[99,97,99,104,101,100]⟩:ByteArray)=S [99,97,99,104,101,100]:=rfl;simp +decide[a1,a2,a3,a4,a5,e,e2,w0,w1,w2,kk,tI,tII,z,n1,Zd4]
  iterate 5 (rw[if_pos (by omega)];simp +decide[a1,a2,a3,a4,a5,e,e2,w0,w1,w2,kk,tI,tII,z,n1])
  rw[sp,n2];simp[Z4,modeT]
 ·have n1:(⟨#[101,120,97,99,116]⟩:ByteArray).size=5:=rfl;have n2:(⟨#[101,120,97,99,116]⟩:ByteArray)=S [101,120,97,99,116]:=rfl;simp +decide[a1,a2,a3,a4,a5,e,e2,w0,w1,w2,kk,tI,tII,z,n1,Zd4]
  iterate 5 (rw[if_pos (by omega)];simp +decide[a1,a2,a3,a4,a5,e,e2,w0,w1,w2,kk,tI,tII,z,n1])
  rw[sp,n2];simp[Z4,modeT]
 ·have n1:(⟨#[98,111,117,113,117,101,116]⟩:ByteArray).size=7:=rfl;have n2:(⟨#[98,111,117,113,117,101,116]⟩:ByteArray)=S [98,111,117,113,117,101,116]:=rfl;simp +decide[a1,a2,a3,a4,a5,e,e2,w0,w1,w2,kk,tI,tII,z,n1,Zd4]
  iterate 5 (rw[if_pos (by omega)];simp +decide[a1,a2,a3,a4,a5,e,e2,w0,w1,w2,kk,tI,tII,z,n1])
  rw[sp,n2];simp[Z4,modeT]
theorem Zst(r:Zm)(h:LeA r.Zb)(hr:r.Zb.Rows.length≤4294967296)(hc:OkI r.Cost)(hu:OkI r.Runs):Zh9 r=some (.t (.str (S (fmtR r))),[]):=by
 obtain⟨m,c,u,a⟩:=r;have a1:=Zgi m 1 3;have a2:=Zm6 a h;have a3:=Znd c hc;have a4:=Znd u hu;have a5:=Zsr a h hr;unfold Zca at a1;unfold Zdy at a2;unfold Zgd at a3 a4;unfold Zge at a5;have h1:=Go.Lib.itoa_length_le c hc.1 hc.2;have h2:=Go.Lib.itoa_length_le u hu.1 hu.2;have h3:=Znc a hr;simp only[Zb.c_def,Yj,Ybb]at a2 a5;unfold fmtR Zh9;refine run Zqw rfl ?_;simp only at *
 rcases tf (inR m 1 3)with e|e
 ·simp +decide[*,kk,tI,tII,Zdz]
 rcases tf (vA a)with e2|e2
 ·simp +decide[*,kk,tI,tII,Zdz]
 have hm:=modes (r:=⟨m,c,u,a⟩) e;simp only at hm;generalize Go.Lib.itoa c=lc at *
 generalize Go.Lib.itoa u=lu at *
 generalize fmtA a=la at *
 have z:(⟨#[32]⟩:ByteArray).size=1:=rfl;have w0:IntKind.i64.wrap 0=0:=by decide
 have w1:IntKind.i64.wrap 1=1:=by decide
 have w2:IntKind.i64.wrap 2=2:=by decide
 have sp:(⟨#[32]⟩:ByteArray)=S [32]:=rfl;rcases hm with rfl|rfl|rfl
 ·have n1:(⟨#[99,97,99,104,101,100]⟩:ByteArray).size=6:=rfl;have n2:(⟨#[99,97,99,104,101,100]⟩:ByteArray)=S [99,97,99,104,101,100]:=rfl;simp +decide[a1,a2,a3,a4,a5,e,e2,w0,w1,w2,kk,tI,tII,z,n1,Zdz]
  iterate 5 (rw[if_pos (by omega)];simp +decide[a1,a2,a3,a4,a5,e,e2,w0,w1,w2,kk,tI,tII,z,n1])
  rw[sp,n2];simp[Z4,modeT]
 ·have n1:(⟨#[101,120,97,99,116]⟩:ByteArray).size=5:=rfl;have n2:(⟨#[101,120,97,99,116]⟩:ByteArray)=S [101,120,97,99,116]:=rfl;simp +decide[a1,a2,a3,a4,a5,e,e2,w0,w1,w2,kk,tI,tII,z,n1,Zdz]
  iterate 5 (rw[if_pos (by omega)];simp +decide[a1,a2,a3,a4,a5,e,e2,w0,w1,w2,kk,tI,tII,z,n1])
  rw[sp,n2];simp[Z4,modeT]
 ·have n1:(⟨#[98,111,117,113,117,101,116]⟩:ByteArray).size=7:=rfl;have n2:(⟨#[98,111,117,113,117,101,116]⟩:ByteArray)=S [98,111,117,113,117,101,116]:=rfl;simp +decide[a1,a2,a3,a4,a5,e,e2,w0,w1,w2,kk,tI,tII,z,n1,Zdz]
  iterate 5 (rw[if_pos (by omega)];simp +decide[a1,a2,a3,a4,a5,e,e2,w0,w1,w2,kk,tI,tII,z,n1])
  rw[sp,n2];simp[Z4,modeT]
theorem Znh(r:Zm)(hr:r.okay):C Zpe [.agg (r.c.map .t)] []=some (Bo true,[]):=by
 refine run Zpr rfl ?_;have e1:=fun l=>Zqf r.Mode r.Cost r.Runs r.Zb.Vars r.Zb.Rows l (hr.2.2.2.2)
 by_cases h1:Zm.sz r (1048576)<0
 ·simp[Zho,e1,h1]
 obtain⟨b1,g1⟩:=Zm.sz_ok r _ hr (by omega) (by omega) (by omega:0≤Zm.sz r (1048576));have t1:=Zqd r.Mode r.Cost r.Runs r.Zb.Vars r.Zb.Rows (g1.1) (g1.2);have q1:=fun y0 y1 y2 y3 y4=>Zqe r.Mode r.Cost r.Runs r.Zb.Vars r.Zb.Rows y0 y1 y2 y3 y4 (g1.1) (g1.2)
 have na:LeA r.Zb:=⟨by have:=g1.1;omega,by have:=g1.2.1;omega,fun x hx=>by have:=g1.2.2 x hx;omega⟩;have s0:=Zss r na (by have:=g1.2.1;omega) hr.2.1 hr.2.2.1;have s1:=Zst r na (by have:=g1.2.1;omega) hr.2.1 hr.2.2.1;unfold Zip at s0;unfold Zh9 at s1;simp only[Zm.c_def,tI,tII,Yj,Ybb]at s0 s1;simp +decide[Zho,e1,h1,t1,q1,s0,s1]
end Go.Proofs.YtkffbhpobnndeaaDoor
namespace Go.Proofs.YtkffbhpobnndeaaDoor
open Go.Shelf
def Tryd.lays156_ren:Go.Shelf.Ren:=⟨fun|156=>40|165=>43|166=>44|169=>45|240=>51|241=>52|276=>59|277=>60|n=>n,fun|31=>39|9=>9|3=>3|4=>4|0=>0|20=>20|72=>60|76=>64|70=>58|37=>48|75=>63|127=>74|164=>83|5=>5|80=>66|n=>n,fun|n=>n⟩
theorem Tryd.lays156:Go.Proofs.Lays.n156 Tryd.prog Tryd.lays156_ren:={ mixed:=by kernel_rfl,f156:=Tryd.func40.trans (congrArg some (by kernel_rfl)),f165:=Tryd.func43.trans (congrArg some (by kernel_rfl)),f166:=Tryd.func44.trans (congrArg some (by kernel_rfl)),f169:=Tryd.func45.trans (congrArg some (by kernel_rfl)),f240:=Tryd.func51.trans (congrArg some (by kernel_rfl)),f241:=Tryd.func52.trans (congrArg some (by kernel_rfl)),f276:=Tryd.func59.trans (congrArg some (by kernel_rfl)),f277:=Tryd.func60.trans (congrArg some (by kernel_rfl)),t0:=Tryd.underlying0,a0:=Tryd.isAgg0,z0:=Tryd.sizeOf0,v0:=Tryd.zeroValue0,t3:=Tryd.underlying3,a3:=Tryd.isAgg3,z3:=Tryd.sizeOf3,v3:=Tryd.zeroValue3,t4:=Tryd.underlying4,a4:=Tryd.isAgg4,z4:=Tryd.sizeOf4,v4:=Tryd.zeroValue4,t9:=Tryd.underlying9,a9:=Tryd.isAgg9,z9:=Tryd.sizeOf9,v9:=Tryd.zeroValue9,t20:=Tryd.underlying20,a20:=Tryd.isAgg20,z20:=Tryd.sizeOf20,v20:=Tryd.zeroValue20,t31:=Tryd.underlying39,a31:=Tryd.isAgg39,z31:=Tryd.sizeOf39,v31:=Tryd.zeroValue39,t37:=Tryd.underlying48,a37:=Tryd.isAgg48,z37:=Tryd.sizeOf48,v37:=Tryd.zeroValue48,t70:=Tryd.underlying58,a70:=Tryd.isAgg58,z70:=Tryd.sizeOf58,v70:=Tryd.zeroValue58,t72:=Tryd.underlying60,a72:=Tryd.isAgg60,z72:=Tryd.sizeOf60,v72:=Tryd.zeroValue60,t75:=Tryd.underlying63,a75:=Tryd.isAgg63,z75:=Tryd.sizeOf63,v75:=Tryd.zeroValue63,t76:=Tryd.underlying64,a76:=Tryd.isAgg64,z76:=Tryd.sizeOf64,v76:=Tryd.zeroValue64,t127:=Tryd.underlying74,a127:=Tryd.isAgg74,z127:=Tryd.sizeOf74,v127:=Tryd.zeroValue74,t164:=Tryd.underlying83,a164:=Tryd.isAgg83,z164:=Tryd.sizeOf83,v164:=Tryd.zeroValue83 }
theorem Tryd.Builder_Extra_156:Builder.Extra Tryd.prog Tryd.lays156_ren:={ sizeBuilder:=by kernel_rfl,liesBuilder:=by kernel_rfl,t5:=Tryd.underlying5,a5:=Tryd.isAgg5,z5:=Tryd.sizeOf5,v5:=Tryd.zeroValue5,infoByte:=by kernel_rfl,cellsByte:=by kernel_rfl,sizeByte:=by kernel_rfl,neB5:=by decide }
open Go.RowKit in
theorem Tryd.strings_Join_none(a:Option Addr)(c:Nat)(sep:ByteArray)(w:World) :
  Calls Tryd.prog 40 #[.slice a 0 c,.string sep] w fun e w'=>e=.returned (.string ⟨#[]⟩)∧w'=w:=Any.strings_Join_none Tryd.lays156 Tryd.Builder_Extra_156 a c sep w
open Go.RowKit in
theorem Tryd.strings_Join(bk o c:Nat)(xs:List ByteArray)(sep:ByteArray)(w:World)(hcells:∀(j:Nat) x,xs[j]?=some x→w.cell? ⟨bk,o+j,none⟩=some (.string x))(hbk:bk<w.heap.size)(hN:xs.length≤140737488355328)(hcap:xs.length≤c)(hlen:(Lib.join (xs.map (·.data.toList)) sep.data.toList).length≤140737488355328) :
  Calls Tryd.prog 40 #[.slice (some ⟨bk,o,none⟩) xs.length c,.string sep] w fun e w'=>e=.returned (.string ⟨(Lib.join (xs.map (·.data.toList)) sep.data.toList).toArray⟩)∧Below w.heap.size w w':=Any.strings_Join Tryd.lays156 Tryd.Builder_Extra_156 bk o c xs sep w hcells hbk hN hcap hlen
def Tryd.laysM246_ren:Go.Shelf.Ren:=⟨fun|246=>42|283=>47|284=>48|285=>49|286=>50|129=>55|317=>54|318=>56|319=>57|320=>58|337=>61|338=>62|n=>n,fun|2=>2|3=>3|9=>9|4=>4|171=>68|0=>0|53=>69|37=>48|5=>5|173=>72|212=>78|51=>79|20=>20|213=>80|46=>81|232=>87|233=>88|n=>n,fun|17=>0|18=>2|19=>3|n=>n⟩
theorem Tryd.laysM246:Go.Proofs.LaysM.n246 Tryd.prog Tryd.laysM246_ren:={ mixed:=by kernel_rfl,f129:=Tryd.func55.trans (congrArg some (by kernel_rfl)),f246:=Tryd.func42.trans (congrArg some (by kernel_rfl)),f283:=Tryd.func47.trans (congrArg some (by kernel_rfl)),f284:=Tryd.func48.trans (congrArg some (by kernel_rfl)),f285:=Tryd.func49.trans (congrArg some (by kernel_rfl)),f286:=Tryd.func50.trans (congrArg some (by kernel_rfl)),f317:=Tryd.func54.trans (congrArg some (by kernel_rfl)),f318:=Tryd.func56.trans (congrArg some (by kernel_rfl)),f319:=Tryd.func57.trans (congrArg some (by kernel_rfl)),f320:=Tryd.func58.trans (congrArg some (by kernel_rfl)),f337:=Tryd.func61.trans (congrArg some (by kernel_rfl)),f338:=Tryd.func62.trans (congrArg some (by kernel_rfl)),t0:=Tryd.underlying0,a0:=Tryd.isAgg0,z0:=Tryd.sizeOf0,v0:=Tryd.zeroValue0,t2:=Tryd.underlying2,a2:=Tryd.isAgg2,z2:=Tryd.sizeOf2,v2:=Tryd.zeroValue2,t3:=Tryd.underlying3,a3:=Tryd.isAgg3,z3:=Tryd.sizeOf3,v3:=Tryd.zeroValue3,t4:=Tryd.underlying4,a4:=Tryd.isAgg4,z4:=Tryd.sizeOf4,v4:=Tryd.zeroValue4,t5:=Tryd.underlying5,a5:=Tryd.isAgg5,z5:=Tryd.sizeOf5,v5:=Tryd.zeroValue5,t9:=Tryd.underlying9,a9:=Tryd.isAgg9,z9:=Tryd.sizeOf9,v9:=Tryd.zeroValue9,t20:=Tryd.underlying20,a20:=Tryd.isAgg20,z20:=Tryd.sizeOf20,v20:=Tryd.zeroValue20,t37:=Tryd.underlying48,a37:=Tryd.isAgg48,z37:=Tryd.sizeOf48,v37:=Tryd.zeroValue48,t46:=Tryd.underlying81,a46:=Tryd.isAgg81,z46:=Tryd.sizeOf81,v46:=Tryd.zeroValue81,t51:=Tryd.underlying79,a51:=Tryd.isAgg79,z51:=Tryd.sizeOf79,v51:=Tryd.zeroValue79,t53:=Tryd.underlying69,a53:=Tryd.isAgg69,z53:=Tryd.sizeOf69,v53:=Tryd.zeroValue69,t171:=Tryd.underlying68,a171:=Tryd.isAgg68,z171:=Tryd.sizeOf68,v171:=Tryd.zeroValue68,t173:=Tryd.underlying72,a173:=Tryd.isAgg72,z173:=Tryd.sizeOf72,v173:=Tryd.zeroValue72,t212:=Tryd.underlying78,a212:=Tryd.isAgg78,z212:=Tryd.sizeOf78,v212:=Tryd.zeroValue78,t213:=Tryd.underlying80,a213:=Tryd.isAgg80,z213:=Tryd.sizeOf80,t232:=Tryd.underlying87,a232:=Tryd.isAgg87,z232:=Tryd.sizeOf87,v232:=Tryd.zeroValue87,t233:=Tryd.underlying88,a233:=Tryd.isAgg88,z233:=Tryd.sizeOf88,v233:=Tryd.zeroValue88,g17:=by kernel_rfl,g18:=by kernel_rfl,g19:=by kernel_rfl,i0:=by kernel_rfl,i2:=by kernel_rfl,i3:=by kernel_rfl,i4:=by kernel_rfl,i5:=by kernel_rfl,i9:=by kernel_rfl,i20:=by kernel_rfl,i37:=by kernel_rfl,i46:=by kernel_rfl,i51:=by kernel_rfl,i53:=by kernel_rfl,i171:=by kernel_rfl,i173:=by kernel_rfl,i212:=by kernel_rfl,i232:=by kernel_rfl,i233:=by kernel_rfl,m17:=by kernel_rfl,m18:=by kernel_rfl,m19:=by kernel_rfl }
open Go.RowKit Go.Sort Go.Lib in
theorem Tryd.internal_strconv_FormatInt_10(n:Int)(h0:-9223372036854775808≤n)(h1:n≤9223372036854775807)(w:World)(htab:Lib.TabIs Tryd.prog w "internal/strconv.uint64pow10" .u64 Lib.pow10Tab) :
  Calls Tryd.prog 42 #[.int .i64 n,.int .i64 10] w fun e w'=>e=.returned (.string ⟨(Lib.itoa n).toArray⟩)∧∃k os,w'=grow (w.drewN k) os:=Any.internal_strconv_FormatInt_10 Tryd.laysM246 n h0 h1 w htab
end Go.Proofs.YtkffbhpobnndeaaDoor
namespace Go.Proofs.YtkffbhpobnndeaaDoor
open Go.AM Go.RowKit
theorem gTab:Tryd.prog.globalNamed "internal/strconv.uint64pow10"=some 0:=by kernel_rfl
theorem Ziu:tabArr=(Lib.pow10Tab.map fun z=>Value.int .u64 z).toArray:=by kernel_rfl
theorem tabIs_of{w:World}{B:Nat}(h:TabW B w):Lib.TabIs Tryd.prog w "internal/strconv.uint64pow10" .u64 Lib.pow10Tab:=by
 obtain⟨_,e,fz,h1⟩:=h;unfold Lib.TabIs World.var?;rw[gTab,Option.bind_some,h1,Ziu]
theorem below_gr(w:World)(q:Nat)(os:Array Obj):Below w.heap.size w (Go.Sort.grow (w.drewN q) os) :=
 ⟨rfl,rfl,rfl,by first|(simp[Go.Sort.grow];done)|(simp[Go.Sort.grow];omega),fun i hi=>by
  show((w.drewN q).heap++os)[i]?=_;rw[Array.getElem?_append_left (by show i<w.heap.size;omega)]
  rfl⟩
theorem Zne{f:Nat}{args:List AV}{s:ByteArray}(hcl:Zbz Tryd.prog f=true)
  (h:∀(w:World) (vs:Array Value),TabW w.heap.size w→RVs Z3 w (fun _=>True) args vs.toList→Calls Tryd.prog f vs w fun e w'=>e=.returned (.string s)∧Below w.heap.size w w') :
  Zt Tryd.prog f args [] (.t (.str s)) []:=by
 refine⟨hcl,?_⟩;intro N base w ρ vs R hdom hv hz;obtain rfl:ρ=Z3:=funext fun b=>hdom b (Yf _)
 refine(h w vs (R.hT.up R.hb) (hv.keep ⟨fun b r hb=>(by cases hb),fun g _ _=>⟨trivial,rfl⟩⟩)).mono ?_;rintro e w' ⟨rfl,hB⟩;exact⟨_,Z3,rfl,hB.mono R.hb,.empty (Ym R.hb hB.size) (R.hT.later hB R.hb) (fun g hl=>R.hN g (Ym hB.size hl)),.t (.str s) (by simp),fun _ _=>rfl,Ye _,fun g hg _=>hB.block g hg,fun g hg hzz=>⟨hz g hzz,hB.block g hg⟩,fun b r0 hb=>absurd hb (by simp)⟩
theorem Zsu(n:Int)(hn:OkI n):Zt Tryd.prog 42 [I n,I 10] [] (.t (.str ⟨(Lib.itoa n).toArray⟩)) []:=by
 refine Zne (by decide +kernel) fun w vs hT hv=>?_
 obtain⟨l⟩:=vs;simp only at hv
 cases hv with|cons q0 hv =>
 cases hv with|cons q1 hv =>
 cases hv
 cases q0 with|t q0 _ =>
 cases q1 with|t q1 _ =>
 cases q0;cases q1;refine(Tryd.internal_strconv_FormatInt_10 n hn.1 hn.2 w (tabIs_of hT)).mono ?_;rintro e w' ⟨rfl,k,os,rfl⟩;exact⟨rfl,below_gr w k os⟩
theorem Znf{w:World}:∀{r:List ByteArray} {vs:List Value} {fp:List Nat},TRs w (r.map sc).flatten vs fp→vs=r.map Value.string
 |[],vs,fp,h=>by cases h;rfl
 |x::r,vs,fp,h=>by
  rw[Yj,Y8]at h;change TRs w (T.str x::(r.map sc).flatten) vs fp at h
  cases h with
  |cons h hs =>
   cases h;rw[Yj,←Znf hs]
theorem Zsv(ws:List ByteArray)(sep:ByteArray)(h1:ws.length≤140737488355328)(h2:(Lib.join (ws.map (·.data.toList)) sep.data.toList).length≤140737488355328):Zt Tryd.prog 40 [L 1 (ws.map sc),.t (.str sep)] [] (.t (.str (joinB ws sep))) []:=by
 refine Zne (by decide +kernel) fun w vs hT hv=>?_
 obtain⟨l⟩:=vs;simp only at hv
 cases hv with|cons q0 hv =>
 cases hv with|cons q1 hv =>
 cases hv
 cases q0 with|t q0 _ =>
 cases q1 with|t q1 _ =>
 cases q1;generalize he:ws.map sc=es at q0
 cases q0 with
 |lst0 sz a cap =>
  have:ws=[]:=List.map_eq_nil_iff.1 he;subst this;refine(Tryd.strings_Join_none a cap sep w).mono ?_;rintro e w' ⟨rfl,rfl⟩
  exact⟨rfl,.refl _ _⟩
 |@lst sz es g off cap c e fz fp hne hsz hcap hg hlen hc =>
  subst he;have hv:=Znf hc;have hlt:g<w.heap.size:=(Y7.1 hg).1;rw[Ybi];refine(Tryd.strings_Join g off cap ws sep w ?_ hlt h1 (by simpa using hcap) h2).mono ?_
  ·intro j x hj;have h1:((c.toList.drop off).take ((ws.map sc).length*1))[j]?=some (.string x):=by
    rw[hv,Yb9,hj];rfl
   have hjl:j<ws.length:=(Yn.1 hj).1;rw[Ybs,if_pos (by rw[Ybi];omega),List.getElem?_drop]at h1;unfold World.cell?;rw[hg];simpa using h1
  ·rintro e w' ⟨rfl,hB⟩;exact⟨rfl,hB⟩
theorem Zsw(f:Nat)(xs:List AV)(h0:List Blk)(r:AV)(hr:List Blk)(h:ext f xs h0=some (r,hr)):Zt Tryd.prog f xs h0 r hr:=by
 unfold ext at h;split at h
 ·split at h
  ·subst f;split at h
   ·rename_i hc;obtain⟨e1,e2,e3⟩:=hc.choose_spec;generalize hc.choose=ws at h e1 e2 e3;subst e1;cases h;exact Zsv ws _ e2 e3
   ·cases h
  ·cases h
 ·split at h
  ·rename_i hc;obtain⟨rfl,hn⟩:=hc;cases h;exact Zsu _ hn
  ·cases h
 ·cases h
theorem sound{f:Nat}{xs:List AV}{h0:List Blk}{r:AV}{hr:List Blk}(h:C f xs h0=some (r,hr)):Zt Tryd.prog f xs h0 r hr:=Zpc (tblOK _ _) Zsw h
end Go.Proofs.YtkffbhpobnndeaaDoor
