/-
  Parts of the proofs for this seat: TY.
-/
import Derived.Test.YtgnfoghkbpkgjaaGreatP4
set_option linter.unusedSimpArgs false
set_option linter.unusedVariables false
set_option maxRecDepth 100000
set_option maxHeartbeats 4000000
namespace Go.Proofs.YtgnfoghkbpkgjaaGreat
open Go.AM
@[ext] structure Zj where
 Name:ByteArray
 Arity:Int
 Rows:List (List Int)
 deriving DecidableEq
def Zj.c(x:Zj):List T:=[.str x.Name,.int .i64 x.Arity,tII x.Rows]
@[simp] theorem Zj.c_def(x:Zj):x.c=[.str x.Name,.int .i64 x.Arity,tII x.Rows]:=rfl
abbrev Zj.small(x:Zj):Prop:=SsA x.Name/\SmL SmA x.Rows
abbrev Zj.okay(x:Zj):Prop:=OkS x.Name/\OkI x.Arity/\OkL (OkL OkI) x.Rows
theorem Zj.dec(ts:List T)(h:HasShs [.str,.int .i64,.slice [.slice [.int .i64]]] ts):∃x:Zj,ts=x.c/\x.okay:=by
 obtain⟨t0,us0,rfl,g0,h0⟩:=Zs h;obtain⟨t1,us1,rfl,g1,h1⟩:=Zs h0;obtain⟨t2,us2,rfl,g2,h2⟩:=Zs h1;cases Zc8 h2;obtain⟨x0,rfl,o0⟩:=Z86 g0;obtain⟨x1,rfl,o1⟩:=Z6 g1;obtain⟨x2,rfl,o2⟩:=Zyx g2;exact⟨⟨x0,x1,x2⟩,rfl,o0,o1,o2⟩
def Zj.sz(x:Zj)(l:Int):Int:=Zy (sz1 x.Name.size l) λl=>Zy (szL szI x.Rows l) λl=>l
theorem Zj.sz_ok(x:Zj)(l:Int)(hx:x.okay)(h0:0<=l)(h1:l<=1048576)(h:0<=x.sz l):x.sz l<=l/\x.small:=by
 unfold Zj.sz at h|-;simp only[Zy]at h|-;split at h
 .omega
 rename_i q0;rw[if_neg q0];have s0:=Zes hx.1 h0 h1 (Yl.1 q0);split at h
 .omega
 rename_i q1;rw[if_neg q1];have s1:=Ztt (f:=szI) (p:=λy:List Int=>SmA y) hx.2.2.1 (λy hy l a b c=>Zes (hx.2.2.2 y hy).1 a b c) (by omega) (by omega) (Yl.1 q1);exact⟨by omega,s0.2,s1.2⟩
@[ext] structure Zl where
 Tables:List Zj
 deriving DecidableEq
def Zl.c(x:Zl):List T:=[.lst 3 (x.Tables.map Zj.c)]
@[simp] theorem Zl.c_def(x:Zl):x.c=[.lst 3 (x.Tables.map Zj.c)]:=rfl
abbrev Zl.small(x:Zl):Prop:=SmL Zj.small x.Tables
abbrev Zl.okay(x:Zl):Prop:=OkL Zj.okay x.Tables
theorem Zl.dec(ts:List T)(h:HasShs [.slice [.str,.int .i64,.slice [.slice [.int .i64]]]] ts):∃x:Zl,ts=x.c/\x.okay:=by
 obtain⟨t0,us0,rfl,g0,h0⟩:=Zs h;cases Zc8 h0;obtain⟨x0,rfl,o0⟩:=Zd9 Zj.dec g0;exact⟨⟨x0⟩,rfl,o0⟩
def Zl.sz(x:Zl)(l:Int):Int:=Zy (szL Zj.sz x.Tables l) λl=>l
theorem Zl.sz_ok(x:Zl)(l:Int)(hx:x.okay)(h0:0<=l)(h1:l<=1048576)(h:0<=x.sz l):x.sz l<=l/\x.small:=by
 unfold Zl.sz at h|-;simp only[Zy]at h|-;split at h
 .omega
 rename_i q0;rw[if_neg q0];have s0:=Ztt (p:=Zj.small) hx.1 (λy hy l a b c=>Zj.sz_ok y l (hx.2 y hy) a b c) h0 h1 (Yl.1 q0);exact⟨by omega,s0.2⟩
@[ext] structure Atom where
 Name:ByteArray
 Vars:List Int
 deriving DecidableEq
def Atom.c(x:Atom):List T:=[.str x.Name,tI x.Vars]
@[simp] theorem Atom.c_def(x:Atom):x.c=[.str x.Name,tI x.Vars]:=rfl
abbrev Atom.small(x:Atom):Prop:=SsA x.Name/\SmA x.Vars
abbrev Atom.okay(x:Atom):Prop:=OkS x.Name/\OkL OkI x.Vars
theorem Atom.dec(ts:List T)(h:HasShs [.str,.slice [.int .i64]] ts):∃x:Atom,ts=x.c/\x.okay:=by
 obtain⟨t0,us0,rfl,g0,h0⟩:=Zs h;obtain⟨t1,us1,rfl,g1,h1⟩:=Zs h0;cases Zc8 h1;obtain⟨x0,rfl,o0⟩:=Z86 g0;obtain⟨x1,rfl,o1⟩:=Zl7 g1;exact⟨⟨x0,x1⟩,rfl,o0,o1⟩
def Atom.sz(x:Atom)(l:Int):Int:=Zy (sz1 x.Name.size l) λl=>Zy (sz1 x.Vars.length l) λl=>l
theorem Atom.sz_ok(x:Atom)(l:Int)(hx:x.okay)(h0:0<=l)(h1:l<=1048576)(h:0<=x.sz l):x.sz l<=l/\x.small:=by
 unfold Atom.sz at h|-;simp only[Zy]at h|-;split at h
 .omega
 rename_i q0;rw[if_neg q0];have s0:=Zes hx.1 h0 h1 (Yl.1 q0);split at h
 .omega
 rename_i q1;rw[if_neg q1];have s1:=Zes hx.2.1 (by omega) (by omega) (Yl.1 q1);exact⟨by omega,s0.2,s1.2⟩
@[ext] structure Ze where
 Zm:Int
 Atoms:List Atom
 deriving DecidableEq
def Ze.c(x:Ze):List T:=[.int .i64 x.Zm,.lst 2 (x.Atoms.map Atom.c)]
@[simp] theorem Ze.c_def(x:Ze):x.c=[.int .i64 x.Zm,.lst 2 (x.Atoms.map Atom.c)]:=rfl
abbrev Ze.small(x:Ze):Prop:=SmL Atom.small x.Atoms
abbrev Ze.okay(x:Ze):Prop:=OkI x.Zm/\OkL Atom.okay x.Atoms
theorem Ze.dec(ts:List T)(h:HasShs [.int .i64,.slice [.str,.slice [.int .i64]]] ts):∃x:Ze,ts=x.c/\x.okay:=by
 obtain⟨t0,us0,rfl,g0,h0⟩:=Zs h;obtain⟨t1,us1,rfl,g1,h1⟩:=Zs h0;cases Zc8 h1;obtain⟨x0,rfl,o0⟩:=Z6 g0;obtain⟨x1,rfl,o1⟩:=Zd9 Atom.dec g1;exact⟨⟨x0,x1⟩,rfl,o0,o1⟩
def Ze.sz(x:Ze)(l:Int):Int:=Zy (szL Atom.sz x.Atoms l) λl=>l
theorem Ze.sz_ok(x:Ze)(l:Int)(hx:x.okay)(h0:0<=l)(h1:l<=1048576)(h:0<=x.sz l):x.sz l<=l/\x.small:=by
 unfold Ze.sz at h|-;simp only[Zy]at h|-;split at h
 .omega
 rename_i q0;rw[if_neg q0];have s0:=Ztt (p:=Atom.small) hx.2.1 (λy hy l a b c=>Atom.sz_ok y l (hx.2.2 y hy) a b c) h0 h1 (Yl.1 q0);exact⟨by omega,s0.2⟩
@[ext] structure Zba where
 Vars:List Int
 Rows:List (List Int)
 deriving DecidableEq
def Zba.c(x:Zba):List T:=[tI x.Vars,tII x.Rows]
@[simp] theorem Zba.c_def(x:Zba):x.c=[tI x.Vars,tII x.Rows]:=rfl
abbrev Zba.small(x:Zba):Prop:=SmA x.Vars/\SmL SmA x.Rows
abbrev Zba.okay(x:Zba):Prop:=OkL OkI x.Vars/\OkL (OkL OkI) x.Rows
theorem Zba.dec(ts:List T)(h:HasShs [.slice [.int .i64],.slice [.slice [.int .i64]]] ts):∃x:Zba,ts=x.c/\x.okay:=by
 obtain⟨t0,us0,rfl,g0,h0⟩:=Zs h;obtain⟨t1,us1,rfl,g1,h1⟩:=Zs h0;cases Zc8 h1;obtain⟨x0,rfl,o0⟩:=Zl7 g0;obtain⟨x1,rfl,o1⟩:=Zyx g1;exact⟨⟨x0,x1⟩,rfl,o0,o1⟩
def Zba.sz(x:Zba)(l:Int):Int:=Zy (sz1 x.Vars.length l) λl=>Zy (szL szI x.Rows l) λl=>l
theorem Zba.sz_ok(x:Zba)(l:Int)(hx:x.okay)(h0:0<=l)(h1:l<=1048576)(h:0<=x.sz l):x.sz l<=l/\x.small:=by
 unfold Zba.sz at h|-;simp only[Zy]at h|-;split at h
 .omega
 rename_i q0;rw[if_neg q0];have s0:=Zes hx.1.1 h0 h1 (Yl.1 q0);split at h
 .omega
 rename_i q1;rw[if_neg q1];have s1:=Ztt (f:=szI) (p:=λy:List Int=>SmA y) hx.2.1 (λy hy l a b c=>Zes (hx.2.2 y hy).1 a b c) (by omega) (by omega) (Yl.1 q1);exact⟨by omega,s0.2,s1.2⟩
@[ext] structure Box where
 Low:List Int
 High:List Int
 deriving DecidableEq
def Box.c(x:Box):List T:=[tI x.Low,tI x.High]
@[simp] theorem Box.c_def(x:Box):x.c=[tI x.Low,tI x.High]:=rfl
abbrev Box.small(x:Box):Prop:=SmA x.Low/\SmA x.High
abbrev Box.okay(x:Box):Prop:=OkL OkI x.Low/\OkL OkI x.High
theorem Box.dec(ts:List T)(h:HasShs [.slice [.int .i64],.slice [.int .i64]] ts):∃x:Box,ts=x.c/\x.okay:=by
 obtain⟨t0,us0,rfl,g0,h0⟩:=Zs h;obtain⟨t1,us1,rfl,g1,h1⟩:=Zs h0;cases Zc8 h1;obtain⟨x0,rfl,o0⟩:=Zl7 g0;obtain⟨x1,rfl,o1⟩:=Zl7 g1;exact⟨⟨x0,x1⟩,rfl,o0,o1⟩
def Box.sz(x:Box)(l:Int):Int:=Zy (sz1 x.Low.length l) λl=>Zy (sz1 x.High.length l) λl=>l
theorem Box.sz_ok(x:Box)(l:Int)(hx:x.okay)(h0:0<=l)(h1:l<=1048576)(h:0<=x.sz l):x.sz l<=l/\x.small:=by
 unfold Box.sz at h|-;simp only[Zy]at h|-;split at h
 .omega
 rename_i q0;rw[if_neg q0];have s0:=Zes hx.1.1 h0 h1 (Yl.1 q0);split at h
 .omega
 rename_i q1;rw[if_neg q1];have s1:=Zes hx.2.1 (by omega) (by omega) (Yl.1 q1);exact⟨by omega,s0.2,s1.2⟩
@[ext] structure Zg where
 From:Int
 Add:Int
 deriving DecidableEq
def Zg.c(x:Zg):List T:=[.int .i64 x.From,.int .i64 x.Add]
@[simp] theorem Zg.c_def(x:Zg):x.c=[.int .i64 x.From,.int .i64 x.Add]:=rfl
abbrev Zg.small(x:Zg):Prop:=True
abbrev Zg.okay(x:Zg):Prop:=OkI x.From/\OkI x.Add
theorem Zg.dec(ts:List T)(h:HasShs [.int .i64,.int .i64] ts):∃x:Zg,ts=x.c/\x.okay:=by
 obtain⟨t0,us0,rfl,g0,h0⟩:=Zs h;obtain⟨t1,us1,rfl,g1,h1⟩:=Zs h0;cases Zc8 h1;obtain⟨x0,rfl,o0⟩:=Z6 g0;obtain⟨x1,rfl,o1⟩:=Z6 g1;exact⟨⟨x0,x1⟩,rfl,o0,o1⟩
@[ext] structure Zk where
 Fixed:Int
 Z2:Int
 Z3:Int
 Z4:Int
 Z5:Int
 Steps:List Zg
 deriving DecidableEq
def Zk.c(x:Zk):List T:=[.int .i64 x.Fixed,.int .i64 x.Z2,.int .i64 x.Z3,.int .i64 x.Z4,.int .i64 x.Z5,.lst 2 (x.Steps.map Zg.c)]
@[simp] theorem Zk.c_def(x:Zk):x.c=[.int .i64 x.Fixed,.int .i64 x.Z2,.int .i64 x.Z3,.int .i64 x.Z4,.int .i64 x.Z5,.lst 2 (x.Steps.map Zg.c)]:=rfl
abbrev Zk.small(x:Zk):Prop:=SmA x.Steps
abbrev Zk.okay(x:Zk):Prop:=OkI x.Fixed/\OkI x.Z2/\OkI x.Z3/\OkI x.Z4/\OkI x.Z5/\OkL Zg.okay x.Steps
theorem Zk.dec(ts:List T)(h:HasShs [.int .i64,.int .i64,.int .i64,.int .i64,.int .i64,.slice [.int .i64,.int .i64]] ts):∃x:Zk,ts=x.c/\x.okay:=by
 obtain⟨t0,us0,rfl,g0,h0⟩:=Zs h;obtain⟨t1,us1,rfl,g1,h1⟩:=Zs h0;obtain⟨t2,us2,rfl,g2,h2⟩:=Zs h1;obtain⟨t3,us3,rfl,g3,h3⟩:=Zs h2;obtain⟨t4,us4,rfl,g4,h4⟩:=Zs h3;obtain⟨t5,us5,rfl,g5,h5⟩:=Zs h4;cases Zc8 h5;obtain⟨x0,rfl,o0⟩:=Z6 g0;obtain⟨x1,rfl,o1⟩:=Z6 g1;obtain⟨x2,rfl,o2⟩:=Z6 g2;obtain⟨x3,rfl,o3⟩:=Z6 g3;obtain⟨x4,rfl,o4⟩:=Z6 g4;obtain⟨x5,rfl,o5⟩:=Zd9 Zg.dec g5;exact⟨⟨x0,x1,x2,x3,x4,x5⟩,rfl,o0,o1,o2,o3,o4,o5⟩
def Zk.sz(x:Zk)(l:Int):Int:=Zy (sz1 x.Steps.length l) λl=>l
theorem Zk.sz_ok(x:Zk)(l:Int)(hx:x.okay)(h0:0<=l)(h1:l<=1048576)(h:0<=x.sz l):x.sz l<=l/\x.small:=by
 unfold Zk.sz at h|-;simp only[Zy]at h|-;split at h
 .omega
 rename_i q0;rw[if_neg q0];have s0:=Zes hx.2.2.2.2.2.1 h0 h1 (Yl.1 q0);exact⟨by omega,s0.2⟩
@[ext] structure Zi where
 Scan:Zk
 Sort_:Zk
 Hash:Zk
 Merge:Zk
 Nested:Zk
 deriving DecidableEq
def Zi.c(x:Zi):List T:=[.int .i64 x.Scan.Fixed,.int .i64 x.Scan.Z2,.int .i64 x.Scan.Z3,.int .i64 x.Scan.Z4,.int .i64 x.Scan.Z5,.lst 2 (x.Scan.Steps.map Zg.c),.int .i64 x.Sort_.Fixed,.int .i64 x.Sort_.Z2,.int .i64 x.Sort_.Z3,.int .i64 x.Sort_.Z4,.int .i64 x.Sort_.Z5,.lst 2 (x.Sort_.Steps.map Zg.c),.int .i64 x.Hash.Fixed,.int .i64 x.Hash.Z2,.int .i64 x.Hash.Z3,.int .i64 x.Hash.Z4,.int .i64 x.Hash.Z5,.lst 2 (x.Hash.Steps.map Zg.c),.int .i64 x.Merge.Fixed,.int .i64 x.Merge.Z2,.int .i64 x.Merge.Z3,.int .i64 x.Merge.Z4,.int .i64 x.Merge.Z5,.lst 2 (x.Merge.Steps.map Zg.c),.int .i64 x.Nested.Fixed,.int .i64 x.Nested.Z2,.int .i64 x.Nested.Z3,.int .i64 x.Nested.Z4,.int .i64 x.Nested.Z5,.lst 2 (x.Nested.Steps.map Zg.c)]
@[simp] theorem Zi.c_def(x:Zi):x.c=[.int .i64 x.Scan.Fixed,.int .i64 x.Scan.Z2,.int .i64 x.Scan.Z3,.int .i64 x.Scan.Z4,.int .i64 x.Scan.Z5,.lst 2 (x.Scan.Steps.map Zg.c),.int .i64 x.Sort_.Fixed,.int .i64 x.Sort_.Z2,.int .i64 x.Sort_.Z3,.int .i64 x.Sort_.Z4,.int .i64 x.Sort_.Z5,.lst 2 (x.Sort_.Steps.map Zg.c),.int .i64 x.Hash.Fixed,.int .i64 x.Hash.Z2,.int .i64 x.Hash.Z3,.int .i64 x.Hash.Z4,.int .i64 x.Hash.Z5,.lst 2 (x.Hash.Steps.map Zg.c),.int .i64 x.Merge.Fixed,.int .i64 x.Merge.Z2,.int .i64 x.Merge.Z3,.int .i64 x.Merge.Z4,.int .i64 x.Merge.Z5,.lst 2 (x.Merge.Steps.map Zg.c),.int .i64 x.Nested.Fixed,.int .i64 x.Nested.Z2,.int .i64 x.Nested.Z3,.int .i64 x.Nested.Z4,.int .i64 x.Nested.Z5,.lst 2 (x.Nested.Steps.map Zg.c)]:=rfl
abbrev Zi.small(x:Zi):Prop:=SmA x.Scan.Steps/\SmA x.Sort_.Steps/\SmA x.Hash.Steps/\SmA x.Merge.Steps/\SmA x.Nested.Steps
abbrev Zi.okay(x:Zi):Prop:=OkI x.Scan.Fixed/\OkI x.Scan.Z2/\OkI x.Scan.Z3/\OkI x.Scan.Z4/\OkI x.Scan.Z5/\OkL Zg.okay x.Scan.Steps/\OkI x.Sort_.Fixed/\OkI x.Sort_.Z2/\OkI x.Sort_.Z3/\OkI x.Sort_.Z4/\OkI x.Sort_.Z5/\OkL Zg.okay x.Sort_.Steps/\OkI x.Hash.Fixed/\OkI x.Hash.Z2/\OkI x.Hash.Z3/\OkI x.Hash.Z4/\OkI x.Hash.Z5/\OkL Zg.okay x.Hash.Steps/\OkI x.Merge.Fixed/\OkI x.Merge.Z2/\OkI x.Merge.Z3/\OkI x.Merge.Z4/\OkI x.Merge.Z5/\OkL Zg.okay x.Merge.Steps/\OkI x.Nested.Fixed/\OkI x.Nested.Z2/\OkI x.Nested.Z3/\OkI x.Nested.Z4/\OkI x.Nested.Z5/\OkL Zg.okay x.Nested.Steps
theorem Zi.dec(ts:List T)(h:HasShs [.int .i64,.int .i64,.int .i64,.int .i64,.int .i64,.slice [.int .i64,.int .i64],.int .i64,.int .i64,.int .i64,.int .i64,.int .i64,.slice [.int .i64,.int .i64],.int .i64,.int .i64,.int .i64,.int .i64,.int .i64,.slice [.int .i64,.int .i64],.int .i64,.int .i64,.int .i64,.int .i64,.int .i64,.slice [.int .i64,.int .i64],.int .i64,.int .i64,.int .i64,.int .i64,.int .i64,.slice [.int .i64,.int .i64]] ts):∃x:Zi,ts=x.c/\x.okay:=by
 obtain⟨t0,us0,rfl,g0,h0⟩:=Zs h;obtain⟨t1,us1,rfl,g1,h1⟩:=Zs h0;obtain⟨t2,us2,rfl,g2,h2⟩:=Zs h1;obtain⟨t3,us3,rfl,g3,h3⟩:=Zs h2;obtain⟨t4,us4,rfl,g4,h4⟩:=Zs h3;obtain⟨t5,us5,rfl,g5,h5⟩:=Zs h4;obtain⟨t6,us6,rfl,g6,h6⟩:=Zs h5;obtain⟨t7,us7,rfl,g7,h7⟩:=Zs h6;obtain⟨t8,us8,rfl,g8,h8⟩:=Zs h7;obtain⟨t9,us9,rfl,g9,h9⟩:=Zs h8;obtain⟨t10,us10,rfl,g10,h10⟩:=Zs h9;obtain⟨t11,us11,rfl,g11,h11⟩:=Zs h10;obtain⟨t12,us12,rfl,g12,h12⟩:=Zs h11;obtain⟨t13,us13,rfl,g13,h13⟩:=Zs h12;obtain⟨t14,us14,rfl,g14,h14⟩:=Zs h13;obtain⟨t15,us15,rfl,g15,h15⟩:=Zs h14;obtain⟨t16,us16,rfl,g16,h16⟩:=Zs h15;obtain⟨t17,us17,rfl,g17,h17⟩:=Zs h16;obtain⟨t18,us18,rfl,g18,h18⟩:=Zs h17;obtain⟨t19,us19,rfl,g19,h19⟩:=Zs h18;obtain⟨t20,us20,rfl,g20,h20⟩:=Zs h19;obtain⟨t21,us21,rfl,g21,h21⟩:=Zs h20;obtain⟨t22,us22,rfl,g22,h22⟩:=Zs h21;obtain⟨t23,us23,rfl,g23,h23⟩:=Zs h22;obtain⟨t24,us24,rfl,g24,h24⟩:=Zs h23;obtain⟨t25,us25,rfl,g25,h25⟩:=Zs h24;obtain⟨t26,us26,rfl,g26,h26⟩:=Zs h25;obtain⟨t27,us27,rfl,g27,h27⟩:=Zs h26;obtain⟨t28,us28,rfl,g28,h28⟩:=Zs h27;obtain⟨t29,us29,rfl,g29,h29⟩:=Zs h28;cases Zc8 h29;obtain⟨x0,rfl,o0⟩:=Z6 g0;obtain⟨x1,rfl,o1⟩:=Z6 g1;obtain⟨x2,rfl,o2⟩:=Z6 g2;obtain⟨x3,rfl,o3⟩:=Z6 g3;obtain⟨x4,rfl,o4⟩:=Z6 g4;obtain⟨x5,rfl,o5⟩:=Zd9 Zg.dec g5;obtain⟨x6,rfl,o6⟩:=Z6 g6;obtain⟨x7,rfl,o7⟩:=Z6 g7;obtain⟨x8,rfl,o8⟩:=Z6 g8;obtain⟨x9,rfl,o9⟩:=Z6 g9;obtain⟨x10,rfl,o10⟩:=Z6 g10;obtain⟨x11,rfl,o11⟩:=Zd9 Zg.dec g11;obtain⟨x12,rfl,o12⟩:=Z6 g12;obtain⟨x13,rfl,o13⟩:=Z6 g13;obtain⟨x14,rfl,o14⟩:=Z6 g14;obtain⟨x15,rfl,o15⟩:=Z6 g15;obtain⟨x16,rfl,o16⟩:=Z6 g16;obtain⟨x17,rfl,o17⟩:=Zd9 Zg.dec g17;obtain⟨x18,rfl,o18⟩:=Z6 g18;obtain⟨x19,rfl,o19⟩:=Z6 g19;obtain⟨x20,rfl,o20⟩:=Z6 g20;obtain⟨x21,rfl,o21⟩:=Z6 g21;obtain⟨x22,rfl,o22⟩:=Z6 g22;obtain⟨x23,rfl,o23⟩:=Zd9 Zg.dec g23;obtain⟨x24,rfl,o24⟩:=Z6 g24;obtain⟨x25,rfl,o25⟩:=Z6 g25;obtain⟨x26,rfl,o26⟩:=Z6 g26;obtain⟨x27,rfl,o27⟩:=Z6 g27;obtain⟨x28,rfl,o28⟩:=Z6 g28;obtain⟨x29,rfl,o29⟩:=Zd9 Zg.dec g29;exact⟨⟨⟨x0,x1,x2,x3,x4,x5⟩,⟨x6,x7,x8,x9,x10,x11⟩,⟨x12,x13,x14,x15,x16,x17⟩,⟨x18,x19,x20,x21,x22,x23⟩,⟨x24,x25,x26,x27,x28,x29⟩⟩,rfl,o0,o1,o2,o3,o4,o5,o6,o7,o8,o9,o10,o11,o12,o13,o14,o15,o16,o17,o18,o19,o20,o21,o22,o23,o24,o25,o26,o27,o28,o29⟩
def Zi.sz(x:Zi)(l:Int):Int:=Zy (Zk.sz x.Scan l) λl=>Zy (Zk.sz x.Sort_ l) λl=>Zy (Zk.sz x.Hash l) λl=>Zy (Zk.sz x.Merge l) λl=>Zy (Zk.sz x.Nested l) λl=>l
theorem Zi.sz_ok(x:Zi)(l:Int)(hx:x.okay)(h0:0<=l)(h1:l<=1048576)(h:0<=x.sz l):x.sz l<=l/\x.small:=by
 unfold Zi.sz at h|-;simp only[Zy]at h|-;split at h
 .omega
 rename_i q0;rw[if_neg q0];have s0:=Zk.sz_ok x.Scan _ ⟨hx.1,hx.2.1,hx.2.2.1,hx.2.2.2.1,hx.2.2.2.2.1,hx.2.2.2.2.2.1⟩ h0 h1 (Yl.1 q0);split at h
 .omega
 rename_i q1;rw[if_neg q1];have s1:=Zk.sz_ok x.Sort_ _ ⟨hx.2.2.2.2.2.2.1,hx.2.2.2.2.2.2.2.1,hx.2.2.2.2.2.2.2.2.1,hx.2.2.2.2.2.2.2.2.2.1,hx.2.2.2.2.2.2.2.2.2.2.1,hx.2.2.2.2.2.2.2.2.2.2.2.1⟩ (by omega) (by omega) (Yl.1 q1);split at h
 .omega
 rename_i q2;rw[if_neg q2];have s2:=Zk.sz_ok x.Hash _ ⟨hx.2.2.2.2.2.2.2.2.2.2.2.2.1,hx.2.2.2.2.2.2.2.2.2.2.2.2.2.1,hx.2.2.2.2.2.2.2.2.2.2.2.2.2.2.1,hx.2.2.2.2.2.2.2.2.2.2.2.2.2.2.2.1,hx.2.2.2.2.2.2.2.2.2.2.2.2.2.2.2.2.1,hx.2.2.2.2.2.2.2.2.2.2.2.2.2.2.2.2.2.1⟩ (by omega) (by omega) (Yl.1 q2);split at h
 .omega
 rename_i q3;rw[if_neg q3];have s3:=Zk.sz_ok x.Merge _ ⟨hx.2.2.2.2.2.2.2.2.2.2.2.2.2.2.2.2.2.2.1,hx.2.2.2.2.2.2.2.2.2.2.2.2.2.2.2.2.2.2.2.1,hx.2.2.2.2.2.2.2.2.2.2.2.2.2.2.2.2.2.2.2.2.1,hx.2.2.2.2.2.2.2.2.2.2.2.2.2.2.2.2.2.2.2.2.2.1,hx.2.2.2.2.2.2.2.2.2.2.2.2.2.2.2.2.2.2.2.2.2.2.1,hx.2.2.2.2.2.2.2.2.2.2.2.2.2.2.2.2.2.2.2.2.2.2.2.1⟩ (by omega) (by omega) (Yl.1 q3);split at h
 .omega
 rename_i q4;rw[if_neg q4];have s4:=Zk.sz_ok x.Nested _ ⟨hx.2.2.2.2.2.2.2.2.2.2.2.2.2.2.2.2.2.2.2.2.2.2.2.2.1,hx.2.2.2.2.2.2.2.2.2.2.2.2.2.2.2.2.2.2.2.2.2.2.2.2.2.1,hx.2.2.2.2.2.2.2.2.2.2.2.2.2.2.2.2.2.2.2.2.2.2.2.2.2.2.1,hx.2.2.2.2.2.2.2.2.2.2.2.2.2.2.2.2.2.2.2.2.2.2.2.2.2.2.2.1,hx.2.2.2.2.2.2.2.2.2.2.2.2.2.2.2.2.2.2.2.2.2.2.2.2.2.2.2.2.1,hx.2.2.2.2.2.2.2.2.2.2.2.2.2.2.2.2.2.2.2.2.2.2.2.2.2.2.2.2.2⟩ (by omega) (by omega) (Yl.1 q4);exact⟨by omega,s0.2,s1.2,s2.2,s3.2,s4.2⟩
@[ext] structure Zf where
 Kind:Int
 Atom:Int
 Order:Int
 deriving DecidableEq
def Zf.c(x:Zf):List T:=[.int .i64 x.Kind,.int .i64 x.Atom,.int .i64 x.Order]
@[simp] theorem Zf.c_def(x:Zf):x.c=[.int .i64 x.Kind,.int .i64 x.Atom,.int .i64 x.Order]:=rfl
abbrev Zf.small(x:Zf):Prop:=True
abbrev Zf.okay(x:Zf):Prop:=OkI x.Kind/\OkI x.Atom/\OkI x.Order
theorem Zf.dec(ts:List T)(h:HasShs [.int .i64,.int .i64,.int .i64] ts):∃x:Zf,ts=x.c/\x.okay:=by
 obtain⟨t0,us0,rfl,g0,h0⟩:=Zs h;obtain⟨t1,us1,rfl,g1,h1⟩:=Zs h0;obtain⟨t2,us2,rfl,g2,h2⟩:=Zs h1;cases Zc8 h2;obtain⟨x0,rfl,o0⟩:=Z6 g0;obtain⟨x1,rfl,o1⟩:=Z6 g1;obtain⟨x2,rfl,o2⟩:=Z6 g2;exact⟨⟨x0,x1,x2⟩,rfl,o0,o1,o2⟩
@[ext] structure Plan where
 Steps:List Zf
 deriving DecidableEq
def Plan.c(x:Plan):List T:=[.lst 3 (x.Steps.map Zf.c)]
@[simp] theorem Plan.c_def(x:Plan):x.c=[.lst 3 (x.Steps.map Zf.c)]:=rfl
abbrev Plan.small(x:Plan):Prop:=SmA x.Steps
abbrev Plan.okay(x:Plan):Prop:=OkL Zf.okay x.Steps
theorem Plan.dec(ts:List T)(h:HasShs [.slice [.int .i64,.int .i64,.int .i64]] ts):∃x:Plan,ts=x.c/\x.okay:=by
 obtain⟨t0,us0,rfl,g0,h0⟩:=Zs h;cases Zc8 h0;obtain⟨x0,rfl,o0⟩:=Zd9 Zf.dec g0;exact⟨⟨x0⟩,rfl,o0⟩
def Plan.sz(x:Plan)(l:Int):Int:=Zy (sz1 x.Steps.length l) λl=>l
theorem Plan.sz_ok(x:Plan)(l:Int)(hx:x.okay)(h0:0<=l)(h1:l<=1048576)(h:0<=x.sz l):x.sz l<=l/\x.small:=by
 unfold Plan.sz at h|-;simp only[Zy]at h|-;split at h
 .omega
 rename_i q0;rw[if_neg q0];have s0:=Zes hx.1 h0 h1 (Yl.1 q0);exact⟨by omega,s0.2⟩
@[ext] structure Zh where
 Mask:Int
 Class:Int
 Exact:Bool
 deriving DecidableEq
def Zh.c(x:Zh):List T:=[.int .i64 x.Mask,.int .i64 x.Class,.bool x.Exact]
@[simp] theorem Zh.c_def(x:Zh):x.c=[.int .i64 x.Mask,.int .i64 x.Class,.bool x.Exact]:=rfl
abbrev Zh.small(x:Zh):Prop:=True
abbrev Zh.okay(x:Zh):Prop:=OkI x.Mask/\OkI x.Class
theorem Zh.dec(ts:List T)(h:HasShs [.int .i64,.int .i64,.bool] ts):∃x:Zh,ts=x.c/\x.okay:=by
 obtain⟨t0,us0,rfl,g0,h0⟩:=Zs h;obtain⟨t1,us1,rfl,g1,h1⟩:=Zs h0;obtain⟨t2,us2,rfl,g2,h2⟩:=Zs h1;cases Zc8 h2;obtain⟨x0,rfl,o0⟩:=Z6 g0;obtain⟨x1,rfl,o1⟩:=Z6 g1;obtain⟨x2,rfl⟩:=Z85 g2;exact⟨⟨x0,x1,x2⟩,rfl,o0,o1⟩
@[ext] structure Run where
 Done:Bool
 Cost:Int
 Steps:Int
 Seen:List Zh
 Zba:Zba
 deriving DecidableEq
def Run.c(x:Run):List T:=[.bool x.Done,.int .i64 x.Cost,.int .i64 x.Steps,.lst 3 (x.Seen.map Zh.c),tI x.Zba.Vars,tII x.Zba.Rows]
@[simp] theorem Run.c_def(x:Run):x.c=[.bool x.Done,.int .i64 x.Cost,.int .i64 x.Steps,.lst 3 (x.Seen.map Zh.c),tI x.Zba.Vars,tII x.Zba.Rows]:=rfl
abbrev Run.small(x:Run):Prop:=SmA x.Seen/\SmA x.Zba.Vars/\SmL SmA x.Zba.Rows
abbrev Run.okay(x:Run):Prop:=OkI x.Cost/\OkI x.Steps/\OkL Zh.okay x.Seen/\OkL OkI x.Zba.Vars/\OkL (OkL OkI) x.Zba.Rows
theorem Run.dec(ts:List T)(h:HasShs [.bool,.int .i64,.int .i64,.slice [.int .i64,.int .i64,.bool],.slice [.int .i64],.slice [.slice [.int .i64]]] ts):∃x:Run,ts=x.c/\x.okay:=by
 obtain⟨t0,us0,rfl,g0,h0⟩:=Zs h;obtain⟨t1,us1,rfl,g1,h1⟩:=Zs h0;obtain⟨t2,us2,rfl,g2,h2⟩:=Zs h1;obtain⟨t3,us3,rfl,g3,h3⟩:=Zs h2;obtain⟨t4,us4,rfl,g4,h4⟩:=Zs h3;obtain⟨t5,us5,rfl,g5,h5⟩:=Zs h4;cases Zc8 h5;obtain⟨x0,rfl⟩:=Z85 g0;obtain⟨x1,rfl,o1⟩:=Z6 g1;obtain⟨x2,rfl,o2⟩:=Z6 g2;obtain⟨x3,rfl,o3⟩:=Zd9 Zh.dec g3;obtain⟨x4,rfl,o4⟩:=Zl7 g4;obtain⟨x5,rfl,o5⟩:=Zyx g5;exact⟨⟨x0,x1,x2,x3,⟨x4,x5⟩⟩,rfl,o1,o2,o3,o4,o5⟩
def Run.sz(x:Run)(l:Int):Int:=Zy (sz1 x.Seen.length l) λl=>Zy (Zba.sz x.Zba l) λl=>l
theorem Run.sz_ok(x:Run)(l:Int)(hx:x.okay)(h0:0<=l)(h1:l<=1048576)(h:0<=x.sz l):x.sz l<=l/\x.small:=by
 unfold Run.sz at h|-;simp only[Zy]at h|-;split at h
 .omega
 rename_i q0;rw[if_neg q0];have s0:=Zes hx.2.2.1.1 h0 h1 (Yl.1 q0);split at h
 .omega
 rename_i q1;rw[if_neg q1];have s1:=Zba.sz_ok x.Zba _ ⟨hx.2.2.2.1,hx.2.2.2.2⟩ (by omega) (by omega) (Yl.1 q1);exact⟨by omega,s0.2,s1.2.1,s1.2.2⟩
@[ext] structure Kept where
 Mask:Int
 Size:Int
 deriving DecidableEq
def Kept.c(x:Kept):List T:=[.int .i64 x.Mask,.int .i64 x.Size]
@[simp] theorem Kept.c_def(x:Kept):x.c=[.int .i64 x.Mask,.int .i64 x.Size]:=rfl
abbrev Kept.small(x:Kept):Prop:=True
abbrev Kept.okay(x:Kept):Prop:=OkI x.Mask/\OkI x.Size
theorem Kept.dec(ts:List T)(h:HasShs [.int .i64,.int .i64] ts):∃x:Kept,ts=x.c/\x.okay:=by
 obtain⟨t0,us0,rfl,g0,h0⟩:=Zs h;obtain⟨t1,us1,rfl,g1,h1⟩:=Zs h0;cases Zc8 h1;obtain⟨x0,rfl,o0⟩:=Z6 g0;obtain⟨x1,rfl,o1⟩:=Z6 g1;exact⟨⟨x0,x1⟩,rfl,o0,o1⟩
end Go.Proofs.YtgnfoghkbpkgjaaGreat
