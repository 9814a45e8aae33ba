/-
  Parts of the proofs for this seat: TY.
-/
import Derived.Test.YtgnfoghkbpkgjaaGreatP4
set_option linter.unusedSimpArgs false
set_option linter.unusedVariables false
set_option maxRecDepth 100000
set_option maxHeartbeats 4000000
namespace Go.Proofs.YtgnfoghkbpkgjaaGreat
open Go.AM
@[ext] structure Zi where
 Name:ByteArray
 Arity:Int
 Rows:List (List Int)
 deriving DecidableEq
def Zi.c(x:Zi):List T:=[.str x.Name,.int .i64 x.Arity,tII x.Rows]
@[simp] theorem Zi.c_def(x:Zi):x.c=[.str x.Name,.int .i64 x.Arity,tII x.Rows]:=rfl
abbrev Zi.small(x:Zi):Prop:=SsA x.Name∧SmL SmA x.Rows
abbrev Zi.okay(x:Zi):Prop:=OkS x.Name∧OkI x.Arity∧OkL (OkL OkI) x.Rows
theorem Zi.dec(ts:List T)(h:HasShs [.str,.int .i64,.slice [.slice [.int .i64]]] ts):∃x:Zi,ts=x.c∧x.okay:=by
 obtain⟨t0,us0,rfl,g0,h0⟩:=Zq h;obtain⟨t1,us1,rfl,g1,h1⟩:=Zq h0;obtain⟨t2,us2,rfl,g2,h2⟩:=Zq h1;cases Zdc h2;obtain⟨x0,rfl,o0⟩:=Z3o g0;obtain⟨x1,rfl,o1⟩:=Z0 g1;obtain⟨x2,rfl,o2⟩:=Z3q g2;exact⟨⟨x0,x1,x2⟩,rfl,o0,o1,o2⟩
def Zi.sz(x:Zi)(l:Int):Int:=Zz (sz1 x.Name.size l) fun l=>Zz (szL szI x.Rows l) fun l=>l
theorem Zi.sz_ok(x:Zi)(l:Int)(hx:x.okay)(h0:0≤l)(h1:l≤1048576)(h:0≤x.sz l):x.sz l≤l∧x.small:=by
 unfold Zi.sz at h⊢;simp only[Zz]at h⊢;split at h
 ·omega
 rename_i q0;rw[if_neg q0];have s0:=Zey hx.1 h0 h1 (Y6.1 q0);split at h
 ·omega
 rename_i q1;rw[if_neg q1];have s1:=Znd (f:=szI) (p:=fun y:List Int=>SmA y) hx.2.2.1 (fun y hy l a b c=>Zey (hx.2.2.2 y hy).1 a b c) (by omega) (by omega) (Y6.1 q1);exact⟨by omega,s0.2,s1.2⟩
@[ext] structure Zk where
 Tables:List Zi
 deriving DecidableEq
def Zk.c(x:Zk):List T:=[.lst 3 (x.Tables.map Zi.c)]
@[simp] theorem Zk.c_def(x:Zk):x.c=[.lst 3 (x.Tables.map Zi.c)]:=rfl
abbrev Zk.small(x:Zk):Prop:=SmL Zi.small x.Tables
abbrev Zk.okay(x:Zk):Prop:=OkL Zi.okay x.Tables
theorem Zk.dec(ts:List T)(h:HasShs [.slice [.str,.int .i64,.slice [.slice [.int .i64]]]] ts):∃x:Zk,ts=x.c∧x.okay:=by
 obtain⟨t0,us0,rfl,g0,h0⟩:=Zq h;cases Zdc h0;obtain⟨x0,rfl,o0⟩:=Zdn Zi.dec g0;exact⟨⟨x0⟩,rfl,o0⟩
def Zk.sz(x:Zk)(l:Int):Int:=Zz (szL Zi.sz x.Tables l) fun l=>l
theorem Zk.sz_ok(x:Zk)(l:Int)(hx:x.okay)(h0:0≤l)(h1:l≤1048576)(h:0≤x.sz l):x.sz l≤l∧x.small:=by
 unfold Zk.sz at h⊢;simp only[Zz]at h⊢;split at h
 ·omega
 rename_i q0;rw[if_neg q0];have s0:=Znd (p:=Zi.small) hx.1 (fun y hy l a b c=>Zi.sz_ok y l (hx.2 y hy) a b c) h0 h1 (Y6.1 q0);exact⟨by omega,s0.2⟩
@[ext] structure Atom where
 Name:ByteArray
 Vars:List Int
 deriving DecidableEq
def Atom.c(x:Atom):List T:=[.str x.Name,tI x.Vars]
@[simp] theorem Atom.c_def(x:Atom):x.c=[.str x.Name,tI x.Vars]:=rfl
abbrev Atom.small(x:Atom):Prop:=SsA x.Name∧SmA x.Vars
abbrev Atom.okay(x:Atom):Prop:=OkS x.Name∧OkL OkI x.Vars
theorem Atom.dec(ts:List T)(h:HasShs [.str,.slice [.int .i64]] ts):∃x:Atom,ts=x.c∧x.okay:=by
 obtain⟨t0,us0,rfl,g0,h0⟩:=Zq h;obtain⟨t1,us1,rfl,g1,h1⟩:=Zq h0;cases Zdc h1;obtain⟨x0,rfl,o0⟩:=Z3o g0;obtain⟨x1,rfl,o1⟩:=Zib g1;exact⟨⟨x0,x1⟩,rfl,o0,o1⟩
def Atom.sz(x:Atom)(l:Int):Int:=Zz (sz1 x.Name.size l) fun l=>Zz (sz1 x.Vars.length l) fun l=>l
theorem Atom.sz_ok(x:Atom)(l:Int)(hx:x.okay)(h0:0≤l)(h1:l≤1048576)(h:0≤x.sz l):x.sz l≤l∧x.small:=by
 unfold Atom.sz at h⊢;simp only[Zz]at h⊢;split at h
 ·omega
 rename_i q0;rw[if_neg q0];have s0:=Zey hx.1 h0 h1 (Y6.1 q0);split at h
 ·omega
 rename_i q1;rw[if_neg q1];have s1:=Zey hx.2.1 (by omega) (by omega) (Y6.1 q1);exact⟨by omega,s0.2,s1.2⟩
@[ext] structure Zd where
 Zn:Int
 Atoms:List Atom
 deriving DecidableEq
def Zd.c(x:Zd):List T:=[.int .i64 x.Zn,.lst 2 (x.Atoms.map Atom.c)]
@[simp] theorem Zd.c_def(x:Zd):x.c=[.int .i64 x.Zn,.lst 2 (x.Atoms.map Atom.c)]:=rfl
abbrev Zd.small(x:Zd):Prop:=SmL Atom.small x.Atoms
abbrev Zd.okay(x:Zd):Prop:=OkI x.Zn∧OkL Atom.okay x.Atoms
theorem Zd.dec(ts:List T)(h:HasShs [.int .i64,.slice [.str,.slice [.int .i64]]] ts):∃x:Zd,ts=x.c∧x.okay:=by
 obtain⟨t0,us0,rfl,g0,h0⟩:=Zq h;obtain⟨t1,us1,rfl,g1,h1⟩:=Zq h0;cases Zdc h1;obtain⟨x0,rfl,o0⟩:=Z0 g0;obtain⟨x1,rfl,o1⟩:=Zdn Atom.dec g1;exact⟨⟨x0,x1⟩,rfl,o0,o1⟩
def Zd.sz(x:Zd)(l:Int):Int:=Zz (szL Atom.sz x.Atoms l) fun l=>l
theorem Zd.sz_ok(x:Zd)(l:Int)(hx:x.okay)(h0:0≤l)(h1:l≤1048576)(h:0≤x.sz l):x.sz l≤l∧x.small:=by
 unfold Zd.sz at h⊢;simp only[Zz]at h⊢;split at h
 ·omega
 rename_i q0;rw[if_neg q0];have s0:=Znd (p:=Atom.small) hx.2.1 (fun y hy l a b c=>Atom.sz_ok y l (hx.2.2 y hy) a b c) h0 h1 (Y6.1 q0);exact⟨by omega,s0.2⟩
@[ext] structure Box where
 Low:List Int
 High:List Int
 deriving DecidableEq
def Box.c(x:Box):List T:=[tI x.Low,tI x.High]
@[simp] theorem Box.c_def(x:Box):x.c=[tI x.Low,tI x.High]:=rfl
abbrev Box.small(x:Box):Prop:=SmA x.Low∧SmA x.High
abbrev Box.okay(x:Box):Prop:=OkL OkI x.Low∧OkL OkI x.High
theorem Box.dec(ts:List T)(h:HasShs [.slice [.int .i64],.slice [.int .i64]] ts):∃x:Box,ts=x.c∧x.okay:=by
 obtain⟨t0,us0,rfl,g0,h0⟩:=Zq h;obtain⟨t1,us1,rfl,g1,h1⟩:=Zq h0;cases Zdc h1;obtain⟨x0,rfl,o0⟩:=Zib g0;obtain⟨x1,rfl,o1⟩:=Zib g1;exact⟨⟨x0,x1⟩,rfl,o0,o1⟩
def Box.sz(x:Box)(l:Int):Int:=Zz (sz1 x.Low.length l) fun l=>Zz (sz1 x.High.length l) fun l=>l
theorem Box.sz_ok(x:Box)(l:Int)(hx:x.okay)(h0:0≤l)(h1:l≤1048576)(h:0≤x.sz l):x.sz l≤l∧x.small:=by
 unfold Box.sz at h⊢;simp only[Zz]at h⊢;split at h
 ·omega
 rename_i q0;rw[if_neg q0];have s0:=Zey hx.1.1 h0 h1 (Y6.1 q0);split at h
 ·omega
 rename_i q1;rw[if_neg q1];have s1:=Zey hx.2.1 (by omega) (by omega) (Y6.1 q1);exact⟨by omega,s0.2,s1.2⟩
@[ext] structure Zf where
 From:Int
 Add:Int
 deriving DecidableEq
def Zf.c(x:Zf):List T:=[.int .i64 x.From,.int .i64 x.Add]
@[simp] theorem Zf.c_def(x:Zf):x.c=[.int .i64 x.From,.int .i64 x.Add]:=rfl
abbrev Zf.small(x:Zf):Prop:=True
abbrev Zf.okay(x:Zf):Prop:=OkI x.From∧OkI x.Add
theorem Zf.dec(ts:List T)(h:HasShs [.int .i64,.int .i64] ts):∃x:Zf,ts=x.c∧x.okay:=by
 obtain⟨t0,us0,rfl,g0,h0⟩:=Zq h;obtain⟨t1,us1,rfl,g1,h1⟩:=Zq h0;cases Zdc h1;obtain⟨x0,rfl,o0⟩:=Z0 g0;obtain⟨x1,rfl,o1⟩:=Z0 g1;exact⟨⟨x0,x1⟩,rfl,o0,o1⟩
@[ext] structure Zh where
 Fixed:Int
 Z2:Int
 Z3:Int
 Z4:Int
 Z5:Int
 Steps:List Zf
 deriving DecidableEq
def Zh.c(x:Zh):List T:=[.int .i64 x.Fixed,.int .i64 x.Z2,.int .i64 x.Z3,.int .i64 x.Z4,.int .i64 x.Z5,.lst 2 (x.Steps.map Zf.c)]
@[simp] theorem Zh.c_def(x:Zh):x.c=[.int .i64 x.Fixed,.int .i64 x.Z2,.int .i64 x.Z3,.int .i64 x.Z4,.int .i64 x.Z5,.lst 2 (x.Steps.map Zf.c)]:=rfl
abbrev Zh.small(x:Zh):Prop:=SmA x.Steps
abbrev Zh.okay(x:Zh):Prop:=OkI x.Fixed∧OkI x.Z2∧OkI x.Z3∧OkI x.Z4∧OkI x.Z5∧OkL Zf.okay x.Steps
theorem Zh.dec(ts:List T)(h:HasShs [.int .i64,.int .i64,.int .i64,.int .i64,.int .i64,.slice [.int .i64,.int .i64]] ts):∃x:Zh,ts=x.c∧x.okay:=by
 obtain⟨t0,us0,rfl,g0,h0⟩:=Zq h;obtain⟨t1,us1,rfl,g1,h1⟩:=Zq h0;obtain⟨t2,us2,rfl,g2,h2⟩:=Zq h1;obtain⟨t3,us3,rfl,g3,h3⟩:=Zq h2;obtain⟨t4,us4,rfl,g4,h4⟩:=Zq h3;obtain⟨t5,us5,rfl,g5,h5⟩:=Zq h4;cases Zdc h5;obtain⟨x0,rfl,o0⟩:=Z0 g0;obtain⟨x1,rfl,o1⟩:=Z0 g1;obtain⟨x2,rfl,o2⟩:=Z0 g2;obtain⟨x3,rfl,o3⟩:=Z0 g3;obtain⟨x4,rfl,o4⟩:=Z0 g4;obtain⟨x5,rfl,o5⟩:=Zdn Zf.dec g5;exact⟨⟨x0,x1,x2,x3,x4,x5⟩,rfl,o0,o1,o2,o3,o4,o5⟩
def Zh.sz(x:Zh)(l:Int):Int:=Zz (sz1 x.Steps.length l) fun l=>l
theorem Zh.sz_ok(x:Zh)(l:Int)(hx:x.okay)(h0:0≤l)(h1:l≤1048576)(h:0≤x.sz l):x.sz l≤l∧x.small:=by
 unfold Zh.sz at h⊢;simp only[Zz]at h⊢;split at h
 ·omega
 rename_i q0;rw[if_neg q0];have s0:=Zey hx.2.2.2.2.2.1 h0 h1 (Y6.1 q0);exact⟨by omega,s0.2⟩
@[ext] structure Zj where
 Scan:Zh
 Sort_:Zh
 Hash:Zh
 Merge:Zh
 Nested:Zh
 deriving DecidableEq
def Zj.c(x:Zj):List T:=[.int .i64 x.Scan.Fixed,.int .i64 x.Scan.Z2,.int .i64 x.Scan.Z3,.int .i64 x.Scan.Z4,.int .i64 x.Scan.Z5,.lst 2 (x.Scan.Steps.map Zf.c),.int .i64 x.Sort_.Fixed,.int .i64 x.Sort_.Z2,.int .i64 x.Sort_.Z3,.int .i64 x.Sort_.Z4,.int .i64 x.Sort_.Z5,.lst 2 (x.Sort_.Steps.map Zf.c),.int .i64 x.Hash.Fixed,.int .i64 x.Hash.Z2,.int .i64 x.Hash.Z3,.int .i64 x.Hash.Z4,.int .i64 x.Hash.Z5,.lst 2 (x.Hash.Steps.map Zf.c),.int .i64 x.Merge.Fixed,.int .i64 x.Merge.Z2,.int .i64 x.Merge.Z3,.int .i64 x.Merge.Z4,.int .i64 x.Merge.Z5,.lst 2 (x.Merge.Steps.map Zf.c),.int .i64 x.Nested.Fixed,.int .i64 x.Nested.Z2,.int .i64 x.Nested.Z3,.int .i64 x.Nested.Z4,.int .i64 x.Nested.Z5,.lst 2 (x.Nested.Steps.map Zf.c)]
@[simp] theorem Zj.c_def(x:Zj):x.c=[.int .i64 x.Scan.Fixed,.int .i64 x.Scan.Z2,.int .i64 x.Scan.Z3,.int .i64 x.Scan.Z4,.int .i64 x.Scan.Z5,.lst 2 (x.Scan.Steps.map Zf.c),.int .i64 x.Sort_.Fixed,.int .i64 x.Sort_.Z2,.int .i64 x.Sort_.Z3,.int .i64 x.Sort_.Z4,.int .i64 x.Sort_.Z5,.lst 2 (x.Sort_.Steps.map Zf.c),.int .i64 x.Hash.Fixed,.int .i64 x.Hash.Z2,.int .i64 x.Hash.Z3,.int .i64 x.Hash.Z4,.int .i64 x.Hash.Z5,.lst 2 (x.Hash.Steps.map Zf.c),.int .i64 x.Merge.Fixed,.int .i64 x.Merge.Z2,.int .i64 x.Merge.Z3,.int .i64 x.Merge.Z4,.int .i64 x.Merge.Z5,.lst 2 (x.Merge.Steps.map Zf.c),.int .i64 x.Nested.Fixed,.int .i64 x.Nested.Z2,.int .i64 x.Nested.Z3,.int .i64 x.Nested.Z4,.int .i64 x.Nested.Z5,.lst 2 (x.Nested.Steps.map Zf.c)]:=rfl
abbrev Zj.small(x:Zj):Prop:=SmA x.Scan.Steps∧SmA x.Sort_.Steps∧SmA x.Hash.Steps∧SmA x.Merge.Steps∧SmA x.Nested.Steps
abbrev Zj.okay(x:Zj):Prop:=OkI x.Scan.Fixed∧OkI x.Scan.Z2∧OkI x.Scan.Z3∧OkI x.Scan.Z4∧OkI x.Scan.Z5∧OkL Zf.okay x.Scan.Steps∧OkI x.Sort_.Fixed∧OkI x.Sort_.Z2∧OkI x.Sort_.Z3∧OkI x.Sort_.Z4∧OkI x.Sort_.Z5∧OkL Zf.okay x.Sort_.Steps∧OkI x.Hash.Fixed∧OkI x.Hash.Z2∧OkI x.Hash.Z3∧OkI x.Hash.Z4∧OkI x.Hash.Z5∧OkL Zf.okay x.Hash.Steps∧OkI x.Merge.Fixed∧OkI x.Merge.Z2∧OkI x.Merge.Z3∧OkI x.Merge.Z4∧OkI x.Merge.Z5∧OkL Zf.okay x.Merge.Steps∧OkI x.Nested.Fixed∧OkI x.Nested.Z2∧OkI x.Nested.Z3∧OkI x.Nested.Z4∧OkI x.Nested.Z5∧OkL Zf.okay x.Nested.Steps
theorem Zj.dec(ts:List T)(h:HasShs [.int .i64,.int .i64,.int .i64,.int .i64,.int .i64,.slice [.int .i64,.int .i64],.int .i64,.int .i64,.int .i64,.int .i64,.int .i64,.slice [.int .i64,.int .i64],.int .i64,.int .i64,.int .i64,.int .i64,.int .i64,.slice [.int .i64,.int .i64],.int .i64,.int .i64,.int .i64,.int .i64,.int .i64,.slice [.int .i64,.int .i64],.int .i64,.int .i64,.int .i64,.int .i64,.int .i64,.slice [.int .i64,.int .i64]] ts):∃x:Zj,ts=x.c∧x.okay:=by
 obtain⟨t0,us0,rfl,g0,h0⟩:=Zq h;obtain⟨t1,us1,rfl,g1,h1⟩:=Zq h0;obtain⟨t2,us2,rfl,g2,h2⟩:=Zq h1;obtain⟨t3,us3,rfl,g3,h3⟩:=Zq h2;obtain⟨t4,us4,rfl,g4,h4⟩:=Zq h3;obtain⟨t5,us5,rfl,g5,h5⟩:=Zq h4;obtain⟨t6,us6,rfl,g6,h6⟩:=Zq h5;obtain⟨t7,us7,rfl,g7,h7⟩:=Zq h6;obtain⟨t8,us8,rfl,g8,h8⟩:=Zq h7;obtain⟨t9,us9,rfl,g9,h9⟩:=Zq h8;obtain⟨t10,us10,rfl,g10,h10⟩:=Zq h9;obtain⟨t11,us11,rfl,g11,h11⟩:=Zq h10;obtain⟨t12,us12,rfl,g12,h12⟩:=Zq h11;obtain⟨t13,us13,rfl,g13,h13⟩:=Zq h12;obtain⟨t14,us14,rfl,g14,h14⟩:=Zq h13;obtain⟨t15,us15,rfl,g15,h15⟩:=Zq h14;obtain⟨t16,us16,rfl,g16,h16⟩:=Zq h15;obtain⟨t17,us17,rfl,g17,h17⟩:=Zq h16;obtain⟨t18,us18,rfl,g18,h18⟩:=Zq h17;obtain⟨t19,us19,rfl,g19,h19⟩:=Zq h18;obtain⟨t20,us20,rfl,g20,h20⟩:=Zq h19;obtain⟨t21,us21,rfl,g21,h21⟩:=Zq h20;obtain⟨t22,us22,rfl,g22,h22⟩:=Zq h21;obtain⟨t23,us23,rfl,g23,h23⟩:=Zq h22;obtain⟨t24,us24,rfl,g24,h24⟩:=Zq h23;obtain⟨t25,us25,rfl,g25,h25⟩:=Zq h24;obtain⟨t26,us26,rfl,g26,h26⟩:=Zq h25;obtain⟨t27,us27,rfl,g27,h27⟩:=Zq h26;obtain⟨t28,us28,rfl,g28,h28⟩:=Zq h27;obtain⟨t29,us29,rfl,g29,h29⟩:=Zq h28;cases Zdc h29;obtain⟨x0,rfl,o0⟩:=Z0 g0;obtain⟨x1,rfl,o1⟩:=Z0 g1;obtain⟨x2,rfl,o2⟩:=Z0 g2;obtain⟨x3,rfl,o3⟩:=Z0 g3;obtain⟨x4,rfl,o4⟩:=Z0 g4;obtain⟨x5,rfl,o5⟩:=Zdn Zf.dec g5;obtain⟨x6,rfl,o6⟩:=Z0 g6;obtain⟨x7,rfl,o7⟩:=Z0 g7;obtain⟨x8,rfl,o8⟩:=Z0 g8;obtain⟨x9,rfl,o9⟩:=Z0 g9;obtain⟨x10,rfl,o10⟩:=Z0 g10;obtain⟨x11,rfl,o11⟩:=Zdn Zf.dec g11;obtain⟨x12,rfl,o12⟩:=Z0 g12;obtain⟨x13,rfl,o13⟩:=Z0 g13;obtain⟨x14,rfl,o14⟩:=Z0 g14;obtain⟨x15,rfl,o15⟩:=Z0 g15;obtain⟨x16,rfl,o16⟩:=Z0 g16;obtain⟨x17,rfl,o17⟩:=Zdn Zf.dec g17;obtain⟨x18,rfl,o18⟩:=Z0 g18;obtain⟨x19,rfl,o19⟩:=Z0 g19;obtain⟨x20,rfl,o20⟩:=Z0 g20;obtain⟨x21,rfl,o21⟩:=Z0 g21;obtain⟨x22,rfl,o22⟩:=Z0 g22;obtain⟨x23,rfl,o23⟩:=Zdn Zf.dec g23;obtain⟨x24,rfl,o24⟩:=Z0 g24;obtain⟨x25,rfl,o25⟩:=Z0 g25;obtain⟨x26,rfl,o26⟩:=Z0 g26;obtain⟨x27,rfl,o27⟩:=Z0 g27;obtain⟨x28,rfl,o28⟩:=Z0 g28;obtain⟨x29,rfl,o29⟩:=Zdn Zf.dec g29;exact⟨⟨⟨x0,x1,x2,x3,x4,x5⟩,⟨x6,x7,x8,x9,x10,x11⟩,⟨x12,x13,x14,x15,x16,x17⟩,⟨x18,x19,x20,x21,x22,x23⟩,⟨x24,x25,x26,x27,x28,x29⟩⟩,rfl,o0,o1,o2,o3,o4,o5,o6,o7,o8,o9,o10,o11,o12,o13,o14,o15,o16,o17,o18,o19,o20,o21,o22,o23,o24,o25,o26,o27,o28,o29⟩
def Zj.sz(x:Zj)(l:Int):Int:=Zz (Zh.sz x.Scan l) fun l=>Zz (Zh.sz x.Sort_ l) fun l=>Zz (Zh.sz x.Hash l) fun l=>Zz (Zh.sz x.Merge l) fun l=>Zz (Zh.sz x.Nested l) fun l=>l
theorem Zj.sz_ok(x:Zj)(l:Int)(hx:x.okay)(h0:0≤l)(h1:l≤1048576)(h:0≤x.sz l):x.sz l≤l∧x.small:=by
 unfold Zj.sz at h⊢;simp only[Zz]at h⊢;split at h
 ·omega
 rename_i q0;rw[if_neg q0];have s0:=Zh.sz_ok x.Scan _ ⟨hx.1,hx.2.1,hx.2.2.1,hx.2.2.2.1,hx.2.2.2.2.1,hx.2.2.2.2.2.1⟩ h0 h1 (Y6.1 q0);split at h
 ·omega
 rename_i q1;rw[if_neg q1];have s1:=Zh.sz_ok x.Sort_ _ ⟨hx.2.2.2.2.2.2.1,hx.2.2.2.2.2.2.2.1,hx.2.2.2.2.2.2.2.2.1,hx.2.2.2.2.2.2.2.2.2.1,hx.2.2.2.2.2.2.2.2.2.2.1,hx.2.2.2.2.2.2.2.2.2.2.2.1⟩ (by omega) (by omega) (Y6.1 q1);split at h
 ·omega
 rename_i q2;rw[if_neg q2];have s2:=Zh.sz_ok x.Hash _ ⟨hx.2.2.2.2.2.2.2.2.2.2.2.2.1,hx.2.2.2.2.2.2.2.2.2.2.2.2.2.1,hx.2.2.2.2.2.2.2.2.2.2.2.2.2.2.1,hx.2.2.2.2.2.2.2.2.2.2.2.2.2.2.2.1,hx.2.2.2.2.2.2.2.2.2.2.2.2.2.2.2.2.1,hx.2.2.2.2.2.2.2.2.2.2.2.2.2.2.2.2.2.1⟩ (by omega) (by omega) (Y6.1 q2);split at h
 ·omega
 rename_i q3;rw[if_neg q3];have s3:=Zh.sz_ok x.Merge _ ⟨hx.2.2.2.2.2.2.2.2.2.2.2.2.2.2.2.2.2.2.1,hx.2.2.2.2.2.2.2.2.2.2.2.2.2.2.2.2.2.2.2.1,hx.2.2.2.2.2.2.2.2.2.2.2.2.2.2.2.2.2.2.2.2.1,hx.2.2.2.2.2.2.2.2.2.2.2.2.2.2.2.2.2.2.2.2.2.1,hx.2.2.2.2.2.2.2.2.2.2.2.2.2.2.2.2.2.2.2.2.2.2.1,hx.2.2.2.2.2.2.2.2.2.2.2.2.2.2.2.2.2.2.2.2.2.2.2.1⟩ (by omega) (by omega) (Y6.1 q3);split at h
 ·omega
 rename_i q4;rw[if_neg q4];have s4:=Zh.sz_ok x.Nested _ ⟨hx.2.2.2.2.2.2.2.2.2.2.2.2.2.2.2.2.2.2.2.2.2.2.2.2.1,hx.2.2.2.2.2.2.2.2.2.2.2.2.2.2.2.2.2.2.2.2.2.2.2.2.2.1,hx.2.2.2.2.2.2.2.2.2.2.2.2.2.2.2.2.2.2.2.2.2.2.2.2.2.2.1,hx.2.2.2.2.2.2.2.2.2.2.2.2.2.2.2.2.2.2.2.2.2.2.2.2.2.2.2.1,hx.2.2.2.2.2.2.2.2.2.2.2.2.2.2.2.2.2.2.2.2.2.2.2.2.2.2.2.2.1,hx.2.2.2.2.2.2.2.2.2.2.2.2.2.2.2.2.2.2.2.2.2.2.2.2.2.2.2.2.2⟩ (by omega) (by omega) (Y6.1 q4);exact⟨by omega,s0.2,s1.2,s2.2,s3.2,s4.2⟩
@[ext] structure Zg where
 Kind:Int
 Atom:Int
 Order:Int
 deriving DecidableEq
def Zg.c(x:Zg):List T:=[.int .i64 x.Kind,.int .i64 x.Atom,.int .i64 x.Order]
@[simp] theorem Zg.c_def(x:Zg):x.c=[.int .i64 x.Kind,.int .i64 x.Atom,.int .i64 x.Order]:=rfl
abbrev Zg.small(x:Zg):Prop:=True
abbrev Zg.okay(x:Zg):Prop:=OkI x.Kind∧OkI x.Atom∧OkI x.Order
theorem Zg.dec(ts:List T)(h:HasShs [.int .i64,.int .i64,.int .i64] ts):∃x:Zg,ts=x.c∧x.okay:=by
 obtain⟨t0,us0,rfl,g0,h0⟩:=Zq h;obtain⟨t1,us1,rfl,g1,h1⟩:=Zq h0;obtain⟨t2,us2,rfl,g2,h2⟩:=Zq h1;cases Zdc h2;obtain⟨x0,rfl,o0⟩:=Z0 g0;obtain⟨x1,rfl,o1⟩:=Z0 g1;obtain⟨x2,rfl,o2⟩:=Z0 g2;exact⟨⟨x0,x1,x2⟩,rfl,o0,o1,o2⟩
@[ext] structure Plan where
 Steps:List Zg
 deriving DecidableEq
def Plan.c(x:Plan):List T:=[.lst 3 (x.Steps.map Zg.c)]
@[simp] theorem Plan.c_def(x:Plan):x.c=[.lst 3 (x.Steps.map Zg.c)]:=rfl
abbrev Plan.small(x:Plan):Prop:=SmA x.Steps
abbrev Plan.okay(x:Plan):Prop:=OkL Zg.okay x.Steps
theorem Plan.dec(ts:List T)(h:HasShs [.slice [.int .i64,.int .i64,.int .i64]] ts):∃x:Plan,ts=x.c∧x.okay:=by
 obtain⟨t0,us0,rfl,g0,h0⟩:=Zq h;cases Zdc h0;obtain⟨x0,rfl,o0⟩:=Zdn Zg.dec g0;exact⟨⟨x0⟩,rfl,o0⟩
def Plan.sz(x:Plan)(l:Int):Int:=Zz (sz1 x.Steps.length l) fun l=>l
theorem Plan.sz_ok(x:Plan)(l:Int)(hx:x.okay)(h0:0≤l)(h1:l≤1048576)(h:0≤x.sz l):x.sz l≤l∧x.small:=by
 unfold Plan.sz at h⊢;simp only[Zz]at h⊢;split at h
 ·omega
 rename_i q0;rw[if_neg q0];have s0:=Zey hx.1 h0 h1 (Y6.1 q0);exact⟨by omega,s0.2⟩
@[ext] structure Zbb where
 Version:Int
 Ratio:Int
 Slack:Int
 Box:Box
 Budgets:List Int
 Plans:List Plan
 Contours:List (List Int)
 deriving DecidableEq
def Zbb.c(x:Zbb):List T:=[.int .i64 x.Version,.int .i64 x.Ratio,.int .i64 x.Slack,tI x.Box.Low,tI x.Box.High,tI x.Budgets,.lst 1 (x.Plans.map Plan.c),tII x.Contours]
@[simp] theorem Zbb.c_def(x:Zbb):x.c=[.int .i64 x.Version,.int .i64 x.Ratio,.int .i64 x.Slack,tI x.Box.Low,tI x.Box.High,tI x.Budgets,.lst 1 (x.Plans.map Plan.c),tII x.Contours]:=rfl
abbrev Zbb.small(x:Zbb):Prop:=SmA x.Box.Low∧SmA x.Box.High∧SmA x.Budgets∧SmL Plan.small x.Plans∧SmL SmA x.Contours
abbrev Zbb.okay(x:Zbb):Prop:=OkI x.Version∧OkI x.Ratio∧OkI x.Slack∧OkL OkI x.Box.Low∧OkL OkI x.Box.High∧OkL OkI x.Budgets∧OkL Plan.okay x.Plans∧OkL (OkL OkI) x.Contours
theorem Zbb.dec(ts:List T)(h:HasShs [.int .i64,.int .i64,.int .i64,.slice [.int .i64],.slice [.int .i64],.slice [.int .i64],.slice [.slice [.int .i64,.int .i64,.int .i64]],.slice [.slice [.int .i64]]] ts):∃x:Zbb,ts=x.c∧x.okay:=by
 obtain⟨t0,us0,rfl,g0,h0⟩:=Zq h;obtain⟨t1,us1,rfl,g1,h1⟩:=Zq h0;obtain⟨t2,us2,rfl,g2,h2⟩:=Zq h1;obtain⟨t3,us3,rfl,g3,h3⟩:=Zq h2;obtain⟨t4,us4,rfl,g4,h4⟩:=Zq h3;obtain⟨t5,us5,rfl,g5,h5⟩:=Zq h4;obtain⟨t6,us6,rfl,g6,h6⟩:=Zq h5;obtain⟨t7,us7,rfl,g7,h7⟩:=Zq h6;cases Zdc h7;obtain⟨x0,rfl,o0⟩:=Z0 g0;obtain⟨x1,rfl,o1⟩:=Z0 g1;obtain⟨x2,rfl,o2⟩:=Z0 g2;obtain⟨x3,rfl,o3⟩:=Zib g3;obtain⟨x4,rfl,o4⟩:=Zib g4;obtain⟨x5,rfl,o5⟩:=Zib g5;obtain⟨x6,rfl,o6⟩:=Zdn Plan.dec g6;obtain⟨x7,rfl,o7⟩:=Z3q g7;exact⟨⟨x0,x1,x2,⟨x3,x4⟩,x5,x6,x7⟩,rfl,o0,o1,o2,o3,o4,o5,o6,o7⟩
def Zbb.sz(x:Zbb)(l:Int):Int:=Zz (Box.sz x.Box l) fun l=>Zz (sz1 x.Budgets.length l) fun l=>Zz (szL Plan.sz x.Plans l) fun l=>Zz (szL szI x.Contours l) fun l=>l
theorem Zbb.sz_ok(x:Zbb)(l:Int)(hx:x.okay)(h0:0≤l)(h1:l≤1048576)(h:0≤x.sz l):x.sz l≤l∧x.small:=by
 unfold Zbb.sz at h⊢;simp only[Zz]at h⊢;split at h
 ·omega
 rename_i q0;rw[if_neg q0];have s0:=Box.sz_ok x.Box _ ⟨hx.2.2.2.1,hx.2.2.2.2.1⟩ h0 h1 (Y6.1 q0);split at h
 ·omega
 rename_i q1;rw[if_neg q1];have s1:=Zey hx.2.2.2.2.2.1.1 (by omega) (by omega) (Y6.1 q1);split at h
 ·omega
 rename_i q2;rw[if_neg q2];have s2:=Znd (p:=Plan.small) hx.2.2.2.2.2.2.1.1 (fun y hy l a b c=>Plan.sz_ok y l (hx.2.2.2.2.2.2.1.2 y hy) a b c) (by omega) (by omega) (Y6.1 q2);split at h
 ·omega
 rename_i q3;rw[if_neg q3];have s3:=Znd (f:=szI) (p:=fun y:List Int=>SmA y) hx.2.2.2.2.2.2.2.1 (fun y hy l a b c=>Zey (hx.2.2.2.2.2.2.2.2 y hy).1 a b c) (by omega) (by omega) (Y6.1 q3);exact⟨by omega,s0.2.1,s0.2.2,s1.2,s2.2,s3.2⟩
@[ext] structure Zu where
 Contour:Int
 Plan:Int
 Budget:Int
 Cost:Int
 Done:Bool
 deriving DecidableEq
def Zu.c(x:Zu):List T:=[.int .i64 x.Contour,.int .i64 x.Plan,.int .i64 x.Budget,.int .i64 x.Cost,.bool x.Done]
@[simp] theorem Zu.c_def(x:Zu):x.c=[.int .i64 x.Contour,.int .i64 x.Plan,.int .i64 x.Budget,.int .i64 x.Cost,.bool x.Done]:=rfl
abbrev Zu.small(x:Zu):Prop:=True
abbrev Zu.okay(x:Zu):Prop:=OkI x.Contour∧OkI x.Plan∧OkI x.Budget∧OkI x.Cost
theorem Zu.dec(ts:List T)(h:HasShs [.int .i64,.int .i64,.int .i64,.int .i64,.bool] ts):∃x:Zu,ts=x.c∧x.okay:=by
 obtain⟨t0,us0,rfl,g0,h0⟩:=Zq h;obtain⟨t1,us1,rfl,g1,h1⟩:=Zq h0;obtain⟨t2,us2,rfl,g2,h2⟩:=Zq h1;obtain⟨t3,us3,rfl,g3,h3⟩:=Zq h2;obtain⟨t4,us4,rfl,g4,h4⟩:=Zq h3;cases Zdc h4;obtain⟨x0,rfl,o0⟩:=Z0 g0;obtain⟨x1,rfl,o1⟩:=Z0 g1;obtain⟨x2,rfl,o2⟩:=Z0 g2;obtain⟨x3,rfl,o3⟩:=Z0 g3;obtain⟨x4,rfl⟩:=dec_bool g4;exact⟨⟨x0,x1,x2,x3,x4⟩,rfl,o0,o1,o2,o3⟩
end Go.Proofs.YtgnfoghkbpkgjaaGreat
