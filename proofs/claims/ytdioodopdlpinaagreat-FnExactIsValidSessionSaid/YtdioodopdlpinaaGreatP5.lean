/-
  Parts of the proofs for this seat: TY.
-/
import Derived.Test.YtdioodopdlpinaaGreatP4
set_option linter.unusedSimpArgs false
set_option linter.unusedVariables false
set_option maxRecDepth 100000
set_option maxHeartbeats 4000000
namespace Go.Proofs.YtdioodopdlpinaaGreat
open Go.AM
@[ext] structure Zh where
 Name:ByteArray
 Arity:Int
 Rows:List (List Int)
 deriving DecidableEq
def Zh.c(x:Zh):List T:=[.str x.Name,.int .i64 x.Arity,tII x.Rows]
@[simp] theorem Zh.c_def(x:Zh):x.c=[.str x.Name,.int .i64 x.Arity,tII x.Rows]:=rfl
abbrev Zh.small(x:Zh):Prop:=SsA x.Name/\SmL SmA x.Rows
abbrev Zh.okay(x:Zh):Prop:=OkS x.Name/\OkI x.Arity/\OkL (OkL OkI) x.Rows
theorem Zh.dec(ts:List T)(h:HasShs [.str,.int .i64,.slice [.slice [.int .i64]]] ts):∃x:Zh,ts=x.c/\x.okay:=by
 obtain⟨t0,us0,rfl,g0,h0⟩:=Z4 h;obtain⟨t1,us1,rfl,g1,h1⟩:=Z4 h0;obtain⟨t2,us2,rfl,g2,h2⟩:=Z4 h1;cases Zfx h2;obtain⟨x0,rfl,o0⟩:=Zmz g0;obtain⟨x1,rfl,o1⟩:=Zbg g1;obtain⟨x2,rfl,o2⟩:=Zbbz g2;exact⟨⟨x0,x1,x2⟩,rfl,o0,o1,o2⟩
def Zh.sz(x:Zh)(l:Int):Int:=Zz (sz1 x.Name.size l) λl=>Zz (szL szI x.Rows l) λl=>l
theorem Zh.Zbl(x:Zh)(l:Int)(hx:x.okay)(h0:0<=l)(h1:l<=1048576)(h:0<=x.sz l):x.sz l<=l/\x.small:=by
 unfold Zh.sz at h|-;simp only[Zz]at h|-;split at h
 .omega
 rename_i q0;rw[if_neg q0];have s0:=Zdy hx.1 h0 h1 (Yn.1 q0);split at h
 .omega
 rename_i q1;rw[if_neg q1];have s1:=Zhw (f:=szI) (p:=λy:List Int=>SmA y) hx.2.2.1 (λy hy l a b c=>Zdy (hx.2.2.2 y hy).1 a b c) (by omega) (by omega) (Yn.1 q1);exact⟨by omega,s0.2,s1.2⟩
@[ext] structure Zm where
 Tables:List Zh
 deriving DecidableEq
def Zm.c(x:Zm):List T:=[.lst 3 (x.Tables.map Zh.c)]
@[simp] theorem Zm.c_def(x:Zm):x.c=[.lst 3 (x.Tables.map Zh.c)]:=rfl
abbrev Zm.small(x:Zm):Prop:=SmL Zh.small x.Tables
abbrev Zm.okay(x:Zm):Prop:=OkL Zh.okay x.Tables
def Zm.sz(x:Zm)(l:Int):Int:=Zz (szL Zh.sz x.Tables l) λl=>l
theorem Zm.Zbl(x:Zm)(l:Int)(hx:x.okay)(h0:0<=l)(h1:l<=1048576)(h:0<=x.sz l):x.sz l<=l/\x.small:=by
 unfold Zm.sz at h|-;simp only[Zz]at h|-;split at h
 .omega
 rename_i q0;rw[if_neg q0];have s0:=Zhw (p:=Zh.small) hx.1 (λy hy l a b c=>Zh.Zbl y l (hx.2 y hy) a b c) h0 h1 (Yn.1 q0);exact⟨by omega,s0.2⟩
@[ext] structure Atom where
 Name:ByteArray
 Vars:List Int
 deriving DecidableEq
def Atom.c(x:Atom):List T:=[.str x.Name,tI x.Vars]
@[simp] theorem Atom.c_def(x:Atom):x.c=[.str x.Name,tI x.Vars]:=rfl
abbrev Atom.small(x:Atom):Prop:=SsA x.Name/\SmA x.Vars
abbrev Atom.okay(x:Atom):Prop:=OkS x.Name/\OkL OkI x.Vars
theorem Atom.dec(ts:List T)(h:HasShs [.str,.slice [.int .i64]] ts):∃x:Atom,ts=x.c/\x.okay:=by
 obtain⟨t0,us0,rfl,g0,h0⟩:=Z4 h;obtain⟨t1,us1,rfl,g1,h1⟩:=Z4 h0;cases Zfx h1;obtain⟨x0,rfl,o0⟩:=Zmz g0;obtain⟨x1,rfl,o1⟩:=Zkh g1;exact⟨⟨x0,x1⟩,rfl,o0,o1⟩
def Atom.sz(x:Atom)(l:Int):Int:=Zz (sz1 x.Name.size l) λl=>Zz (sz1 x.Vars.length l) λl=>l
theorem Atom.Zbl(x:Atom)(l:Int)(hx:x.okay)(h0:0<=l)(h1:l<=1048576)(h:0<=x.sz l):x.sz l<=l/\x.small:=by
 unfold Atom.sz at h|-;simp only[Zz]at h|-;split at h
 .omega
 rename_i q0;rw[if_neg q0];have s0:=Zdy hx.1 h0 h1 (Yn.1 q0);split at h
 .omega
 rename_i q1;rw[if_neg q1];have s1:=Zdy hx.2.1 (by omega) (by omega) (Yn.1 q1);exact⟨by omega,s0.2,s1.2⟩
@[ext] structure Ze where
 Zg:Int
 Atoms:List Atom
 deriving DecidableEq
def Ze.c(x:Ze):List T:=[.int .i64 x.Zg,.lst 2 (x.Atoms.map Atom.c)]
@[simp] theorem Ze.c_def(x:Ze):x.c=[.int .i64 x.Zg,.lst 2 (x.Atoms.map Atom.c)]:=rfl
abbrev Ze.small(x:Ze):Prop:=SmL Atom.small x.Atoms
abbrev Ze.okay(x:Ze):Prop:=OkI x.Zg/\OkL Atom.okay x.Atoms
def Ze.sz(x:Ze)(l:Int):Int:=Zz (szL Atom.sz x.Atoms l) λl=>l
theorem Ze.Zbl(x:Ze)(l:Int)(hx:x.okay)(h0:0<=l)(h1:l<=1048576)(h:0<=x.sz l):x.sz l<=l/\x.small:=by
 unfold Ze.sz at h|-;simp only[Zz]at h|-;split at h
 .omega
 rename_i q0;rw[if_neg q0];have s0:=Zhw (p:=Atom.small) hx.2.1 (λy hy l a b c=>Atom.Zbl y l (hx.2.2 y hy) a b c) h0 h1 (Yn.1 q0);exact⟨by omega,s0.2⟩
@[ext] structure Zn where
 Name:ByteArray
 From:List Int
 To:Int
 deriving DecidableEq
def Zn.c(x:Zn):List T:=[.str x.Name,tI x.From,.int .i64 x.To]
@[simp] theorem Zn.c_def(x:Zn):x.c=[.str x.Name,tI x.From,.int .i64 x.To]:=rfl
abbrev Zn.small(x:Zn):Prop:=SsA x.Name/\SmA x.From
abbrev Zn.okay(x:Zn):Prop:=OkS x.Name/\OkL OkI x.From/\OkI x.To
theorem Zn.dec(ts:List T)(h:HasShs [.str,.slice [.int .i64],.int .i64] ts):∃x:Zn,ts=x.c/\x.okay:=by
 obtain⟨t0,us0,rfl,g0,h0⟩:=Z4 h;obtain⟨t1,us1,rfl,g1,h1⟩:=Z4 h0;obtain⟨t2,us2,rfl,g2,h2⟩:=Z4 h1;cases Zfx h2;obtain⟨x0,rfl,o0⟩:=Zmz g0;obtain⟨x1,rfl,o1⟩:=Zkh g1;obtain⟨x2,rfl,o2⟩:=Zbg g2;exact⟨⟨x0,x1,x2⟩,rfl,o0,o1,o2⟩
def Zn.sz(x:Zn)(l:Int):Int:=Zz (sz1 x.Name.size l) λl=>Zz (sz1 x.From.length l) λl=>l
theorem Zn.Zbl(x:Zn)(l:Int)(hx:x.okay)(h0:0<=l)(h1:l<=1048576)(h:0<=x.sz l):x.sz l<=l/\x.small:=by
 unfold Zn.sz at h|-;simp only[Zz]at h|-;split at h
 .omega
 rename_i q0;rw[if_neg q0];have s0:=Zdy hx.1 h0 h1 (Yn.1 q0);split at h
 .omega
 rename_i q1;rw[if_neg q1];have s1:=Zdy hx.2.1.1 (by omega) (by omega) (Yn.1 q1);exact⟨by omega,s0.2,s1.2⟩
@[ext] structure Zl where
 Name:ByteArray
 Column:Int
 Into:ByteArray
 IntoColumn:Int
 deriving DecidableEq
def Zl.c(x:Zl):List T:=[.str x.Name,.int .i64 x.Column,.str x.Into,.int .i64 x.IntoColumn]
@[simp] theorem Zl.c_def(x:Zl):x.c=[.str x.Name,.int .i64 x.Column,.str x.Into,.int .i64 x.IntoColumn]:=rfl
abbrev Zl.small(x:Zl):Prop:=SsA x.Name/\SsA x.Into
abbrev Zl.okay(x:Zl):Prop:=OkS x.Name/\OkI x.Column/\OkS x.Into/\OkI x.IntoColumn
theorem Zl.dec(ts:List T)(h:HasShs [.str,.int .i64,.str,.int .i64] ts):∃x:Zl,ts=x.c/\x.okay:=by
 obtain⟨t0,us0,rfl,g0,h0⟩:=Z4 h;obtain⟨t1,us1,rfl,g1,h1⟩:=Z4 h0;obtain⟨t2,us2,rfl,g2,h2⟩:=Z4 h1;obtain⟨t3,us3,rfl,g3,h3⟩:=Z4 h2;cases Zfx h3;obtain⟨x0,rfl,o0⟩:=Zmz g0;obtain⟨x1,rfl,o1⟩:=Zbg g1;obtain⟨x2,rfl,o2⟩:=Zmz g2;obtain⟨x3,rfl,o3⟩:=Zbg g3;exact⟨⟨x0,x1,x2,x3⟩,rfl,o0,o1,o2,o3⟩
def Zl.sz(x:Zl)(l:Int):Int:=Zz (sz1 x.Name.size l) λl=>Zz (sz1 x.Into.size l) λl=>l
theorem Zl.Zbl(x:Zl)(l:Int)(hx:x.okay)(h0:0<=l)(h1:l<=1048576)(h:0<=x.sz l):x.sz l<=l/\x.small:=by
 unfold Zl.sz at h|-;simp only[Zz]at h|-;split at h
 .omega
 rename_i q0;rw[if_neg q0];have s0:=Zdy hx.1 h0 h1 (Yn.1 q0);split at h
 .omega
 rename_i q1;rw[if_neg q1];have s1:=Zdy hx.2.2.1 (by omega) (by omega) (Yn.1 q1);exact⟨by omega,s0.2,s1.2⟩
@[ext] structure Zo where
 Columns:List Int
 Values:List (List Int)
 Counts:List Int
 deriving DecidableEq
def Zo.c(x:Zo):List T:=[tI x.Columns,tII x.Values,tI x.Counts]
@[simp] theorem Zo.c_def(x:Zo):x.c=[tI x.Columns,tII x.Values,tI x.Counts]:=rfl
abbrev Zo.small(x:Zo):Prop:=SmA x.Columns/\SmL SmA x.Values/\SmA x.Counts
abbrev Zo.okay(x:Zo):Prop:=OkL OkI x.Columns/\OkL (OkL OkI) x.Values/\OkL OkI x.Counts
theorem Zo.dec(ts:List T)(h:HasShs [.slice [.int .i64],.slice [.slice [.int .i64]],.slice [.int .i64]] ts):∃x:Zo,ts=x.c/\x.okay:=by
 obtain⟨t0,us0,rfl,g0,h0⟩:=Z4 h;obtain⟨t1,us1,rfl,g1,h1⟩:=Z4 h0;obtain⟨t2,us2,rfl,g2,h2⟩:=Z4 h1;cases Zfx h2;obtain⟨x0,rfl,o0⟩:=Zkh g0;obtain⟨x1,rfl,o1⟩:=Zbbz g1;obtain⟨x2,rfl,o2⟩:=Zkh g2;exact⟨⟨x0,x1,x2⟩,rfl,o0,o1,o2⟩
def Zo.sz(x:Zo)(l:Int):Int:=Zz (sz1 x.Columns.length l) λl=>Zz (szL szI x.Values l) λl=>Zz (sz1 x.Counts.length l) λl=>l
theorem Zo.Zbl(x:Zo)(l:Int)(hx:x.okay)(h0:0<=l)(h1:l<=1048576)(h:0<=x.sz l):x.sz l<=l/\x.small:=by
 unfold Zo.sz at h|-;simp only[Zz]at h|-;split at h
 .omega
 rename_i q0;rw[if_neg q0];have s0:=Zdy hx.1.1 h0 h1 (Yn.1 q0);split at h
 .omega
 rename_i q1;rw[if_neg q1];have s1:=Zhw (f:=szI) (p:=λy:List Int=>SmA y) hx.2.1.1 (λy hy l a b c=>Zdy (hx.2.1.2 y hy).1 a b c) (by omega) (by omega) (Yn.1 q1);split at h
 .omega
 rename_i q2;rw[if_neg q2];have s2:=Zdy hx.2.2.1 (by omega) (by omega) (Yn.1 q2);exact⟨by omega,s0.2,s1.2,s2.2⟩
@[ext] structure Zk where
 Name:ByteArray
 Arity:Int
 RowCount:Int
 Groups:List Zo
 deriving DecidableEq
def Zk.c(x:Zk):List T:=[.str x.Name,.int .i64 x.Arity,.int .i64 x.RowCount,.lst 3 (x.Groups.map Zo.c)]
@[simp] theorem Zk.c_def(x:Zk):x.c=[.str x.Name,.int .i64 x.Arity,.int .i64 x.RowCount,.lst 3 (x.Groups.map Zo.c)]:=rfl
abbrev Zk.small(x:Zk):Prop:=SsA x.Name/\SmL Zo.small x.Groups
abbrev Zk.okay(x:Zk):Prop:=OkS x.Name/\OkI x.Arity/\OkI x.RowCount/\OkL Zo.okay x.Groups
theorem Zk.dec(ts:List T)(h:HasShs [.str,.int .i64,.int .i64,.slice [.slice [.int .i64],.slice [.slice [.int .i64]],.slice [.int .i64]]] ts):∃x:Zk,ts=x.c/\x.okay:=by
 obtain⟨t0,us0,rfl,g0,h0⟩:=Z4 h;obtain⟨t1,us1,rfl,g1,h1⟩:=Z4 h0;obtain⟨t2,us2,rfl,g2,h2⟩:=Z4 h1;obtain⟨t3,us3,rfl,g3,h3⟩:=Z4 h2;cases Zfx h3;obtain⟨x0,rfl,o0⟩:=Zmz g0;obtain⟨x1,rfl,o1⟩:=Zbg g1;obtain⟨x2,rfl,o2⟩:=Zbg g2;obtain⟨x3,rfl,o3⟩:=Zen Zo.dec g3;exact⟨⟨x0,x1,x2,x3⟩,rfl,o0,o1,o2,o3⟩
def Zk.sz(x:Zk)(l:Int):Int:=Zz (sz1 x.Name.size l) λl=>Zz (szL Zo.sz x.Groups l) λl=>l
theorem Zk.Zbl(x:Zk)(l:Int)(hx:x.okay)(h0:0<=l)(h1:l<=1048576)(h:0<=x.sz l):x.sz l<=l/\x.small:=by
 unfold Zk.sz at h|-;simp only[Zz]at h|-;split at h
 .omega
 rename_i q0;rw[if_neg q0];have s0:=Zdy hx.1 h0 h1 (Yn.1 q0);split at h
 .omega
 rename_i q1;rw[if_neg q1];have s1:=Zhw (p:=Zo.small) hx.2.2.2.1 (λy hy l a b c=>Zo.Zbl y l (hx.2.2.2.2 y hy) a b c) (by omega) (by omega) (Yn.1 q1);exact⟨by omega,s0.2,s1.2⟩
@[ext] structure Zv where
 Version:Int
 Tables:List Zk
 deriving DecidableEq
def Zv.c(x:Zv):List T:=[.int .i64 x.Version,.lst 4 (x.Tables.map Zk.c)]
@[simp] theorem Zv.c_def(x:Zv):x.c=[.int .i64 x.Version,.lst 4 (x.Tables.map Zk.c)]:=rfl
abbrev Zv.small(x:Zv):Prop:=SmL Zk.small x.Tables
abbrev Zv.okay(x:Zv):Prop:=OkI x.Version/\OkL Zk.okay x.Tables
def Zv.sz(x:Zv)(l:Int):Int:=Zz (szL Zk.sz x.Tables l) λl=>l
theorem Zv.Zbl(x:Zv)(l:Int)(hx:x.okay)(h0:0<=l)(h1:l<=1048576)(h:0<=x.sz l):x.sz l<=l/\x.small:=by
 unfold Zv.sz at h|-;simp only[Zz]at h|-;split at h
 .omega
 rename_i q0;rw[if_neg q0];have s0:=Zhw (p:=Zk.small) hx.2.1 (λy hy l a b c=>Zk.Zbl y l (hx.2.2 y hy) a b c) h0 h1 (Yn.1 q0);exact⟨by omega,s0.2⟩
@[ext] structure Z3 where
 Zm:Zm
 Zv:Zv
 Dependencies:List Zn
 Inclusions:List Zl
 deriving DecidableEq
def Z3.c(x:Z3):List T:=[.lst 3 (x.Zm.Tables.map Zh.c),.int .i64 x.Zv.Version,.lst 4 (x.Zv.Tables.map Zk.c),.lst 3 (x.Dependencies.map Zn.c),.lst 4 (x.Inclusions.map Zl.c)]
@[simp] theorem Z3.c_def(x:Z3):x.c=[.lst 3 (x.Zm.Tables.map Zh.c),.int .i64 x.Zv.Version,.lst 4 (x.Zv.Tables.map Zk.c),.lst 3 (x.Dependencies.map Zn.c),.lst 4 (x.Inclusions.map Zl.c)]:=rfl
abbrev Z3.small(x:Z3):Prop:=SmL Zh.small x.Zm.Tables/\SmL Zk.small x.Zv.Tables/\SmL Zn.small x.Dependencies/\SmL Zl.small x.Inclusions
abbrev Z3.okay(x:Z3):Prop:=OkL Zh.okay x.Zm.Tables/\OkI x.Zv.Version/\OkL Zk.okay x.Zv.Tables/\OkL Zn.okay x.Dependencies/\OkL Zl.okay x.Inclusions
def Z3.sz(x:Z3)(l:Int):Int:=Zz (Zm.sz x.Zm l) λl=>Zz (Zv.sz x.Zv l) λl=>Zz (szL Zn.sz x.Dependencies l) λl=>Zz (szL Zl.sz x.Inclusions l) λl=>l
theorem Z3.Zbl(x:Z3)(l:Int)(hx:x.okay)(h0:0<=l)(h1:l<=1048576)(h:0<=x.sz l):x.sz l<=l/\x.small:=by
 unfold Z3.sz at h|-;simp only[Zz]at h|-;split at h
 .omega
 rename_i q0;rw[if_neg q0];have s0:=Zm.Zbl x.Zm _ hx.1 h0 h1 (Yn.1 q0);split at h
 .omega
 rename_i q1;rw[if_neg q1];have s1:=Zv.Zbl x.Zv _ ⟨hx.2.1,hx.2.2.1⟩ (by omega) (by omega) (Yn.1 q1);split at h
 .omega
 rename_i q2;rw[if_neg q2];have s2:=Zhw (p:=Zn.small) hx.2.2.2.1.1 (λy hy l a b c=>Zn.Zbl y l (hx.2.2.2.1.2 y hy) a b c) (by omega) (by omega) (Yn.1 q2);split at h
 .omega
 rename_i q3;rw[if_neg q3];have s3:=Zhw (p:=Zl.small) hx.2.2.2.2.1 (λy hy l a b c=>Zl.Zbl y l (hx.2.2.2.2.2 y hy) a b c) (by omega) (by omega) (Yn.1 q3);exact⟨by omega,s0.2,s1.2,s2.2,s3.2⟩
@[ext] structure Box where
 Low:List Int
 High:List Int
 deriving DecidableEq
def Box.c(x:Box):List T:=[tI x.Low,tI x.High]
@[simp] theorem Box.c_def(x:Box):x.c=[tI x.Low,tI x.High]:=rfl
abbrev Box.small(x:Box):Prop:=SmA x.Low/\SmA x.High
abbrev Box.okay(x:Box):Prop:=OkL OkI x.Low/\OkL OkI x.High
def Box.sz(x:Box)(l:Int):Int:=Zz (sz1 x.Low.length l) λl=>Zz (sz1 x.High.length l) λl=>l
theorem Box.Zbl(x:Box)(l:Int)(hx:x.okay)(h0:0<=l)(h1:l<=1048576)(h:0<=x.sz l):x.sz l<=l/\x.small:=by
 unfold Box.sz at h|-;simp only[Zz]at h|-;split at h
 .omega
 rename_i q0;rw[if_neg q0];have s0:=Zdy hx.1.1 h0 h1 (Yn.1 q0);split at h
 .omega
 rename_i q1;rw[if_neg q1];have s1:=Zdy hx.2.1 (by omega) (by omega) (Yn.1 q1);exact⟨by omega,s0.2,s1.2⟩
@[ext] structure Zf where
 From:Int
 Add:Int
 deriving DecidableEq
def Zf.c(x:Zf):List T:=[.int .i64 x.From,.int .i64 x.Add]
@[simp] theorem Zf.c_def(x:Zf):x.c=[.int .i64 x.From,.int .i64 x.Add]:=rfl
abbrev Zf.small(x:Zf):Prop:=True
abbrev Zf.okay(x:Zf):Prop:=OkI x.From/\OkI x.Add
theorem Zf.dec(ts:List T)(h:HasShs [.int .i64,.int .i64] ts):∃x:Zf,ts=x.c/\x.okay:=by
 obtain⟨t0,us0,rfl,g0,h0⟩:=Z4 h;obtain⟨t1,us1,rfl,g1,h1⟩:=Z4 h0;cases Zfx h1;obtain⟨x0,rfl,o0⟩:=Zbg g0;obtain⟨x1,rfl,o1⟩:=Zbg g1;exact⟨⟨x0,x1⟩,rfl,o0,o1⟩
@[ext] structure Zq where
 Fixed:Int
 Zr:Int
 Zs:Int
 Zu:Int
 Zt:Int
 Steps:List Zf
 deriving DecidableEq
def Zq.c(x:Zq):List T:=[.int .i64 x.Fixed,.int .i64 x.Zr,.int .i64 x.Zs,.int .i64 x.Zu,.int .i64 x.Zt,.lst 2 (x.Steps.map Zf.c)]
@[simp] theorem Zq.c_def(x:Zq):x.c=[.int .i64 x.Fixed,.int .i64 x.Zr,.int .i64 x.Zs,.int .i64 x.Zu,.int .i64 x.Zt,.lst 2 (x.Steps.map Zf.c)]:=rfl
abbrev Zq.small(x:Zq):Prop:=SmA x.Steps
abbrev Zq.okay(x:Zq):Prop:=OkI x.Fixed/\OkI x.Zr/\OkI x.Zs/\OkI x.Zu/\OkI x.Zt/\OkL Zf.okay x.Steps
def Zq.sz(x:Zq)(l:Int):Int:=Zz (sz1 x.Steps.length l) λl=>l
theorem Zq.Zbl(x:Zq)(l:Int)(hx:x.okay)(h0:0<=l)(h1:l<=1048576)(h:0<=x.sz l):x.sz l<=l/\x.small:=by
 unfold Zq.sz at h|-;simp only[Zz]at h|-;split at h
 .omega
 rename_i q0;rw[if_neg q0];have s0:=Zdy hx.2.2.2.2.2.1 h0 h1 (Yn.1 q0);exact⟨by omega,s0.2⟩
@[ext] structure Zb where
 Scan:Zq
 Sort_:Zq
 Hash:Zq
 Merge:Zq
 Nested:Zq
 deriving DecidableEq
def Zb.c(x:Zb):List T:=[.int .i64 x.Scan.Fixed,.int .i64 x.Scan.Zr,.int .i64 x.Scan.Zs,.int .i64 x.Scan.Zu,.int .i64 x.Scan.Zt,.lst 2 (x.Scan.Steps.map Zf.c),.int .i64 x.Sort_.Fixed,.int .i64 x.Sort_.Zr,.int .i64 x.Sort_.Zs,.int .i64 x.Sort_.Zu,.int .i64 x.Sort_.Zt,.lst 2 (x.Sort_.Steps.map Zf.c),.int .i64 x.Hash.Fixed,.int .i64 x.Hash.Zr,.int .i64 x.Hash.Zs,.int .i64 x.Hash.Zu,.int .i64 x.Hash.Zt,.lst 2 (x.Hash.Steps.map Zf.c),.int .i64 x.Merge.Fixed,.int .i64 x.Merge.Zr,.int .i64 x.Merge.Zs,.int .i64 x.Merge.Zu,.int .i64 x.Merge.Zt,.lst 2 (x.Merge.Steps.map Zf.c),.int .i64 x.Nested.Fixed,.int .i64 x.Nested.Zr,.int .i64 x.Nested.Zs,.int .i64 x.Nested.Zu,.int .i64 x.Nested.Zt,.lst 2 (x.Nested.Steps.map Zf.c)]
@[simp] theorem Zb.c_def(x:Zb):x.c=[.int .i64 x.Scan.Fixed,.int .i64 x.Scan.Zr,.int .i64 x.Scan.Zs,.int .i64 x.Scan.Zu,.int .i64 x.Scan.Zt,.lst 2 (x.Scan.Steps.map Zf.c),.int .i64 x.Sort_.Fixed,.int .i64 x.Sort_.Zr,.int .i64 x.Sort_.Zs,.int .i64 x.Sort_.Zu,.int .i64 x.Sort_.Zt,.lst 2 (x.Sort_.Steps.map Zf.c),.int .i64 x.Hash.Fixed,.int .i64 x.Hash.Zr,.int .i64 x.Hash.Zs,.int .i64 x.Hash.Zu,.int .i64 x.Hash.Zt,.lst 2 (x.Hash.Steps.map Zf.c),.int .i64 x.Merge.Fixed,.int .i64 x.Merge.Zr,.int .i64 x.Merge.Zs,.int .i64 x.Merge.Zu,.int .i64 x.Merge.Zt,.lst 2 (x.Merge.Steps.map Zf.c),.int .i64 x.Nested.Fixed,.int .i64 x.Nested.Zr,.int .i64 x.Nested.Zs,.int .i64 x.Nested.Zu,.int .i64 x.Nested.Zt,.lst 2 (x.Nested.Steps.map Zf.c)]:=rfl
abbrev Zb.small(x:Zb):Prop:=SmA x.Scan.Steps/\SmA x.Sort_.Steps/\SmA x.Hash.Steps/\SmA x.Merge.Steps/\SmA x.Nested.Steps
abbrev Zb.okay(x:Zb):Prop:=OkI x.Scan.Fixed/\OkI x.Scan.Zr/\OkI x.Scan.Zs/\OkI x.Scan.Zu/\OkI x.Scan.Zt/\OkL Zf.okay x.Scan.Steps/\OkI x.Sort_.Fixed/\OkI x.Sort_.Zr/\OkI x.Sort_.Zs/\OkI x.Sort_.Zu/\OkI x.Sort_.Zt/\OkL Zf.okay x.Sort_.Steps/\OkI x.Hash.Fixed/\OkI x.Hash.Zr/\OkI x.Hash.Zs/\OkI x.Hash.Zu/\OkI x.Hash.Zt/\OkL Zf.okay x.Hash.Steps/\OkI x.Merge.Fixed/\OkI x.Merge.Zr/\OkI x.Merge.Zs/\OkI x.Merge.Zu/\OkI x.Merge.Zt/\OkL Zf.okay x.Merge.Steps/\OkI x.Nested.Fixed/\OkI x.Nested.Zr/\OkI x.Nested.Zs/\OkI x.Nested.Zu/\OkI x.Nested.Zt/\OkL Zf.okay x.Nested.Steps
def Zb.sz(x:Zb)(l:Int):Int:=Zz (Zq.sz x.Scan l) λl=>Zz (Zq.sz x.Sort_ l) λl=>Zz (Zq.sz x.Hash l) λl=>Zz (Zq.sz x.Merge l) λl=>Zz (Zq.sz x.Nested l) λl=>l
theorem Zb.Zbl(x:Zb)(l:Int)(hx:x.okay)(h0:0<=l)(h1:l<=1048576)(h:0<=x.sz l):x.sz l<=l/\x.small:=by
 unfold Zb.sz at h|-;simp only[Zz]at h|-;split at h
 .omega
 rename_i q0;rw[if_neg q0];have s0:=Zq.Zbl x.Scan _ ⟨hx.1,hx.2.1,hx.2.2.1,hx.2.2.2.1,hx.2.2.2.2.1,hx.2.2.2.2.2.1⟩ h0 h1 (Yn.1 q0);split at h
 .omega
 rename_i q1;rw[if_neg q1];have s1:=Zq.Zbl x.Sort_ _ ⟨hx.2.2.2.2.2.2.1,hx.2.2.2.2.2.2.2.1,hx.2.2.2.2.2.2.2.2.1,hx.2.2.2.2.2.2.2.2.2.1,hx.2.2.2.2.2.2.2.2.2.2.1,hx.2.2.2.2.2.2.2.2.2.2.2.1⟩ (by omega) (by omega) (Yn.1 q1);split at h
 .omega
 rename_i q2;rw[if_neg q2];have s2:=Zq.Zbl x.Hash _ ⟨hx.2.2.2.2.2.2.2.2.2.2.2.2.1,hx.2.2.2.2.2.2.2.2.2.2.2.2.2.1,hx.2.2.2.2.2.2.2.2.2.2.2.2.2.2.1,hx.2.2.2.2.2.2.2.2.2.2.2.2.2.2.2.1,hx.2.2.2.2.2.2.2.2.2.2.2.2.2.2.2.2.1,hx.2.2.2.2.2.2.2.2.2.2.2.2.2.2.2.2.2.1⟩ (by omega) (by omega) (Yn.1 q2);split at h
 .omega
 rename_i q3;rw[if_neg q3];have s3:=Zq.Zbl x.Merge _ ⟨hx.2.2.2.2.2.2.2.2.2.2.2.2.2.2.2.2.2.2.1,hx.2.2.2.2.2.2.2.2.2.2.2.2.2.2.2.2.2.2.2.1,hx.2.2.2.2.2.2.2.2.2.2.2.2.2.2.2.2.2.2.2.2.1,hx.2.2.2.2.2.2.2.2.2.2.2.2.2.2.2.2.2.2.2.2.2.1,hx.2.2.2.2.2.2.2.2.2.2.2.2.2.2.2.2.2.2.2.2.2.2.1,hx.2.2.2.2.2.2.2.2.2.2.2.2.2.2.2.2.2.2.2.2.2.2.2.1⟩ (by omega) (by omega) (Yn.1 q3);split at h
 .omega
 rename_i q4;rw[if_neg q4];have s4:=Zq.Zbl x.Nested _ ⟨hx.2.2.2.2.2.2.2.2.2.2.2.2.2.2.2.2.2.2.2.2.2.2.2.2.1,hx.2.2.2.2.2.2.2.2.2.2.2.2.2.2.2.2.2.2.2.2.2.2.2.2.2.1,hx.2.2.2.2.2.2.2.2.2.2.2.2.2.2.2.2.2.2.2.2.2.2.2.2.2.2.1,hx.2.2.2.2.2.2.2.2.2.2.2.2.2.2.2.2.2.2.2.2.2.2.2.2.2.2.2.1,hx.2.2.2.2.2.2.2.2.2.2.2.2.2.2.2.2.2.2.2.2.2.2.2.2.2.2.2.2.1,hx.2.2.2.2.2.2.2.2.2.2.2.2.2.2.2.2.2.2.2.2.2.2.2.2.2.2.2.2.2⟩ (by omega) (by omega) (Yn.1 q4);exact⟨by omega,s0.2,s1.2,s2.2,s3.2,s4.2⟩
@[ext] structure Zc where
 Kind:Int
 Atom:Int
 Order:Int
 deriving DecidableEq
def Zc.c(x:Zc):List T:=[.int .i64 x.Kind,.int .i64 x.Atom,.int .i64 x.Order]
@[simp] theorem Zc.c_def(x:Zc):x.c=[.int .i64 x.Kind,.int .i64 x.Atom,.int .i64 x.Order]:=rfl
abbrev Zc.small(x:Zc):Prop:=True
abbrev Zc.okay(x:Zc):Prop:=OkI x.Kind/\OkI x.Atom/\OkI x.Order
theorem Zc.dec(ts:List T)(h:HasShs [.int .i64,.int .i64,.int .i64] ts):∃x:Zc,ts=x.c/\x.okay:=by
 obtain⟨t0,us0,rfl,g0,h0⟩:=Z4 h;obtain⟨t1,us1,rfl,g1,h1⟩:=Z4 h0;obtain⟨t2,us2,rfl,g2,h2⟩:=Z4 h1;cases Zfx h2;obtain⟨x0,rfl,o0⟩:=Zbg g0;obtain⟨x1,rfl,o1⟩:=Zbg g1;obtain⟨x2,rfl,o2⟩:=Zbg g2;exact⟨⟨x0,x1,x2⟩,rfl,o0,o1,o2⟩
@[ext] structure Plan where
 Steps:List Zc
 deriving DecidableEq
def Plan.c(x:Plan):List T:=[.lst 3 (x.Steps.map Zc.c)]
@[simp] theorem Plan.c_def(x:Plan):x.c=[.lst 3 (x.Steps.map Zc.c)]:=rfl
abbrev Plan.small(x:Plan):Prop:=SmA x.Steps
abbrev Plan.okay(x:Plan):Prop:=OkL Zc.okay x.Steps
def Plan.sz(x:Plan)(l:Int):Int:=Zz (sz1 x.Steps.length l) λl=>l
theorem Plan.Zbl(x:Plan)(l:Int)(hx:x.okay)(h0:0<=l)(h1:l<=1048576)(h:0<=x.sz l):x.sz l<=l/\x.small:=by
 unfold Plan.sz at h|-;simp only[Zz]at h|-;split at h
 .omega
 rename_i q0;rw[if_neg q0];have s0:=Zdy hx.1 h0 h1 (Yn.1 q0);exact⟨by omega,s0.2⟩
@[ext] structure Region where
 Plan:Plan
 Box:Box
 Percent:Int
 deriving DecidableEq
def Region.c(x:Region):List T:=[.lst 3 (x.Plan.Steps.map Zc.c),tI x.Box.Low,tI x.Box.High,.int .i64 x.Percent]
@[simp] theorem Region.c_def(x:Region):x.c=[.lst 3 (x.Plan.Steps.map Zc.c),tI x.Box.Low,tI x.Box.High,.int .i64 x.Percent]:=rfl
abbrev Region.small(x:Region):Prop:=SmA x.Plan.Steps/\SmA x.Box.Low/\SmA x.Box.High
abbrev Region.okay(x:Region):Prop:=OkL Zc.okay x.Plan.Steps/\OkL OkI x.Box.Low/\OkL OkI x.Box.High/\OkI x.Percent
def Region.sz(x:Region)(l:Int):Int:=Zz (Plan.sz x.Plan l) λl=>Zz (Box.sz x.Box l) λl=>l
theorem Region.Zbl(x:Region)(l:Int)(hx:x.okay)(h0:0<=l)(h1:l<=1048576)(h:0<=x.sz l):x.sz l<=l/\x.small:=by
 unfold Region.sz at h|-;simp only[Zz]at h|-;split at h
 .omega
 rename_i q0;rw[if_neg q0];have s0:=Plan.Zbl x.Plan _ hx.1 h0 h1 (Yn.1 q0);split at h
 .omega
 rename_i q1;rw[if_neg q1];have s1:=Box.Zbl x.Box _ ⟨hx.2.1,hx.2.2.1⟩ (by omega) (by omega) (Yn.1 q1);exact⟨by omega,s0.2,s1.2.1,s1.2.2⟩
@[ext] structure Zp where
 Ze:Ze
 Region:Region
 Version:Int
 Used:Int
 deriving DecidableEq
def Zp.c(x:Zp):List T:=[.int .i64 x.Ze.Zg,.lst 2 (x.Ze.Atoms.map Atom.c),.lst 3 (x.Region.Plan.Steps.map Zc.c),tI x.Region.Box.Low,tI x.Region.Box.High,.int .i64 x.Region.Percent,.int .i64 x.Version,.int .i64 x.Used]
@[simp] theorem Zp.c_def(x:Zp):x.c=[.int .i64 x.Ze.Zg,.lst 2 (x.Ze.Atoms.map Atom.c),.lst 3 (x.Region.Plan.Steps.map Zc.c),tI x.Region.Box.Low,tI x.Region.Box.High,.int .i64 x.Region.Percent,.int .i64 x.Version,.int .i64 x.Used]:=rfl
abbrev Zp.small(x:Zp):Prop:=SmL Atom.small x.Ze.Atoms/\SmA x.Region.Plan.Steps/\SmA x.Region.Box.Low/\SmA x.Region.Box.High
abbrev Zp.okay(x:Zp):Prop:=OkI x.Ze.Zg/\OkL Atom.okay x.Ze.Atoms/\OkL Zc.okay x.Region.Plan.Steps/\OkL OkI x.Region.Box.Low/\OkL OkI x.Region.Box.High/\OkI x.Region.Percent/\OkI x.Version/\OkI x.Used
theorem Zp.dec(ts:List T)(h:HasShs [.int .i64,.slice [.str,.slice [.int .i64]],.slice [.int .i64,.int .i64,.int .i64],.slice [.int .i64],.slice [.int .i64],.int .i64,.int .i64,.int .i64] ts):∃x:Zp,ts=x.c/\x.okay:=by
 obtain⟨t0,us0,rfl,g0,h0⟩:=Z4 h;obtain⟨t1,us1,rfl,g1,h1⟩:=Z4 h0;obtain⟨t2,us2,rfl,g2,h2⟩:=Z4 h1;obtain⟨t3,us3,rfl,g3,h3⟩:=Z4 h2;obtain⟨t4,us4,rfl,g4,h4⟩:=Z4 h3;obtain⟨t5,us5,rfl,g5,h5⟩:=Z4 h4;obtain⟨t6,us6,rfl,g6,h6⟩:=Z4 h5;obtain⟨t7,us7,rfl,g7,h7⟩:=Z4 h6;cases Zfx h7;obtain⟨x0,rfl,o0⟩:=Zbg g0;obtain⟨x1,rfl,o1⟩:=Zen Atom.dec g1;obtain⟨x2,rfl,o2⟩:=Zen Zc.dec g2;obtain⟨x3,rfl,o3⟩:=Zkh g3;obtain⟨x4,rfl,o4⟩:=Zkh g4;obtain⟨x5,rfl,o5⟩:=Zbg g5;obtain⟨x6,rfl,o6⟩:=Zbg g6;obtain⟨x7,rfl,o7⟩:=Zbg g7;exact⟨⟨⟨x0,x1⟩,⟨⟨x2⟩,⟨x3,x4⟩,x5⟩,x6,x7⟩,rfl,o0,o1,o2,o3,o4,o5,o6,o7⟩
def Zp.sz(x:Zp)(l:Int):Int:=Zz (Ze.sz x.Ze l) λl=>Zz (Region.sz x.Region l) λl=>l
theorem Zp.Zbl(x:Zp)(l:Int)(hx:x.okay)(h0:0<=l)(h1:l<=1048576)(h:0<=x.sz l):x.sz l<=l/\x.small:=by
 unfold Zp.sz at h|-;simp only[Zz]at h|-;split at h
 .omega
 rename_i q0;rw[if_neg q0];have s0:=Ze.Zbl x.Ze _ ⟨hx.1,hx.2.1⟩ h0 h1 (Yn.1 q0);split at h
 .omega
 rename_i q1;rw[if_neg q1];have s1:=Region.Zbl x.Region _ ⟨hx.2.2.1,hx.2.2.2.1,hx.2.2.2.2.1,hx.2.2.2.2.2.1⟩ (by omega) (by omega) (Yn.1 q1);exact⟨by omega,s0.2,s1.2.1,s1.2.2.1,s1.2.2.2⟩
@[ext] structure Zbn where
 Clock:Int
 Entries:List Zp
 deriving DecidableEq
def Zbn.c(x:Zbn):List T:=[.int .i64 x.Clock,.lst 8 (x.Entries.map Zp.c)]
@[simp] theorem Zbn.c_def(x:Zbn):x.c=[.int .i64 x.Clock,.lst 8 (x.Entries.map Zp.c)]:=rfl
abbrev Zbn.small(x:Zbn):Prop:=SmL Zp.small x.Entries
abbrev Zbn.okay(x:Zbn):Prop:=OkI x.Clock/\OkL Zp.okay x.Entries
def Zbn.sz(x:Zbn)(l:Int):Int:=Zz (szL Zp.sz x.Entries l) λl=>l
theorem Zbn.Zbl(x:Zbn)(l:Int)(hx:x.okay)(h0:0<=l)(h1:l<=1048576)(h:0<=x.sz l):x.sz l<=l/\x.small:=by
 unfold Zbn.sz at h|-;simp only[Zz]at h|-;split at h
 .omega
 rename_i q0;rw[if_neg q0];have s0:=Zhw (p:=Zp.small) hx.2.1 (λy hy l a b c=>Zp.Zbl y l (hx.2.2 y hy) a b c) h0 h1 (Yn.1 q0);exact⟨by omega,s0.2⟩
@[ext] structure Zbw where
 Z3:Z3
 Zb:Zb
 Cache:Zbn
 Ratio:Int
 Slack:Int
 Queries:Int
 Spent:Int
 deriving DecidableEq
def Zbw.c(x:Zbw):List T:=[.lst 3 (x.Z3.Zm.Tables.map Zh.c),.int .i64 x.Z3.Zv.Version,.lst 4 (x.Z3.Zv.Tables.map Zk.c),.lst 3 (x.Z3.Dependencies.map Zn.c),.lst 4 (x.Z3.Inclusions.map Zl.c),.int .i64 x.Zb.Scan.Fixed,.int .i64 x.Zb.Scan.Zr,.int .i64 x.Zb.Scan.Zs,.int .i64 x.Zb.Scan.Zu,.int .i64 x.Zb.Scan.Zt,.lst 2 (x.Zb.Scan.Steps.map Zf.c),.int .i64 x.Zb.Sort_.Fixed,.int .i64 x.Zb.Sort_.Zr,.int .i64 x.Zb.Sort_.Zs,.int .i64 x.Zb.Sort_.Zu,.int .i64 x.Zb.Sort_.Zt,.lst 2 (x.Zb.Sort_.Steps.map Zf.c),.int .i64 x.Zb.Hash.Fixed,.int .i64 x.Zb.Hash.Zr,.int .i64 x.Zb.Hash.Zs,.int .i64 x.Zb.Hash.Zu,.int .i64 x.Zb.Hash.Zt,.lst 2 (x.Zb.Hash.Steps.map Zf.c),.int .i64 x.Zb.Merge.Fixed,.int .i64 x.Zb.Merge.Zr,.int .i64 x.Zb.Merge.Zs,.int .i64 x.Zb.Merge.Zu,.int .i64 x.Zb.Merge.Zt,.lst 2 (x.Zb.Merge.Steps.map Zf.c),.int .i64 x.Zb.Nested.Fixed,.int .i64 x.Zb.Nested.Zr,.int .i64 x.Zb.Nested.Zs,.int .i64 x.Zb.Nested.Zu,.int .i64 x.Zb.Nested.Zt,.lst 2 (x.Zb.Nested.Steps.map Zf.c),.int .i64 x.Cache.Clock,.lst 8 (x.Cache.Entries.map Zp.c),.int .i64 x.Ratio,.int .i64 x.Slack,.int .i64 x.Queries,.int .i64 x.Spent]
@[simp] theorem Zbw.c_def(x:Zbw):x.c=[.lst 3 (x.Z3.Zm.Tables.map Zh.c),.int .i64 x.Z3.Zv.Version,.lst 4 (x.Z3.Zv.Tables.map Zk.c),.lst 3 (x.Z3.Dependencies.map Zn.c),.lst 4 (x.Z3.Inclusions.map Zl.c),.int .i64 x.Zb.Scan.Fixed,.int .i64 x.Zb.Scan.Zr,.int .i64 x.Zb.Scan.Zs,.int .i64 x.Zb.Scan.Zu,.int .i64 x.Zb.Scan.Zt,.lst 2 (x.Zb.Scan.Steps.map Zf.c),.int .i64 x.Zb.Sort_.Fixed,.int .i64 x.Zb.Sort_.Zr,.int .i64 x.Zb.Sort_.Zs,.int .i64 x.Zb.Sort_.Zu,.int .i64 x.Zb.Sort_.Zt,.lst 2 (x.Zb.Sort_.Steps.map Zf.c),.int .i64 x.Zb.Hash.Fixed,.int .i64 x.Zb.Hash.Zr,.int .i64 x.Zb.Hash.Zs,.int .i64 x.Zb.Hash.Zu,.int .i64 x.Zb.Hash.Zt,.lst 2 (x.Zb.Hash.Steps.map Zf.c),.int .i64 x.Zb.Merge.Fixed,.int .i64 x.Zb.Merge.Zr,.int .i64 x.Zb.Merge.Zs,.int .i64 x.Zb.Merge.Zu,.int .i64 x.Zb.Merge.Zt,.lst 2 (x.Zb.Merge.Steps.map Zf.c),.int .i64 x.Zb.Nested.Fixed,.int .i64 x.Zb.Nested.Zr,.int .i64 x.Zb.Nested.Zs,.int .i64 x.Zb.Nested.Zu,.int .i64 x.Zb.Nested.Zt,.lst 2 (x.Zb.Nested.Steps.map Zf.c),.int .i64 x.Cache.Clock,.lst 8 (x.Cache.Entries.map Zp.c),.int .i64 x.Ratio,.int .i64 x.Slack,.int .i64 x.Queries,.int .i64 x.Spent]:=rfl
abbrev Zbw.small(x:Zbw):Prop:=SmL Zh.small x.Z3.Zm.Tables/\SmL Zk.small x.Z3.Zv.Tables/\SmL Zn.small x.Z3.Dependencies/\SmL Zl.small x.Z3.Inclusions/\SmA x.Zb.Scan.Steps/\SmA x.Zb.Sort_.Steps/\SmA x.Zb.Hash.Steps/\SmA x.Zb.Merge.Steps/\SmA x.Zb.Nested.Steps/\SmL Zp.small x.Cache.Entries
abbrev Zbw.okay(x:Zbw):Prop:=OkL Zh.okay x.Z3.Zm.Tables/\OkI x.Z3.Zv.Version/\OkL Zk.okay x.Z3.Zv.Tables/\OkL Zn.okay x.Z3.Dependencies/\OkL Zl.okay x.Z3.Inclusions/\OkI x.Zb.Scan.Fixed/\OkI x.Zb.Scan.Zr/\OkI x.Zb.Scan.Zs/\OkI x.Zb.Scan.Zu/\OkI x.Zb.Scan.Zt/\OkL Zf.okay x.Zb.Scan.Steps/\OkI x.Zb.Sort_.Fixed/\OkI x.Zb.Sort_.Zr/\OkI x.Zb.Sort_.Zs/\OkI x.Zb.Sort_.Zu/\OkI x.Zb.Sort_.Zt/\OkL Zf.okay x.Zb.Sort_.Steps/\OkI x.Zb.Hash.Fixed/\OkI x.Zb.Hash.Zr/\OkI x.Zb.Hash.Zs/\OkI x.Zb.Hash.Zu/\OkI x.Zb.Hash.Zt/\OkL Zf.okay x.Zb.Hash.Steps/\OkI x.Zb.Merge.Fixed/\OkI x.Zb.Merge.Zr/\OkI x.Zb.Merge.Zs/\OkI x.Zb.Merge.Zu/\OkI x.Zb.Merge.Zt/\OkL Zf.okay x.Zb.Merge.Steps/\OkI x.Zb.Nested.Fixed/\OkI x.Zb.Nested.Zr/\OkI x.Zb.Nested.Zs/\OkI x.Zb.Nested.Zu/\OkI x.Zb.Nested.Zt/\OkL Zf.okay x.Zb.Nested.Steps/\OkI x.Cache.Clock/\OkL Zp.okay x.Cache.Entries/\OkI x.Ratio/\OkI x.Slack/\OkI x.Queries/\OkI x.Spent
theorem Zbw.dec(ts:List T)(h:HasShs [.slice [.str,.int .i64,.slice [.slice [.int .i64]]],.int .i64,.slice [.str,.int .i64,.int .i64,.slice [.slice [.int .i64],.slice [.slice [.int .i64]],.slice [.int .i64]]],.slice [.str,.slice [.int .i64],.int .i64],.slice [.str,.int .i64,.str,.int .i64],.int .i64,.int .i64,.int .i64,.int .i64,.int .i64,.slice [.int .i64,.int .i64],.int .i64,.int .i64,.int .i64,.int .i64,.int .i64,.slice [.int .i64,.int .i64],.int .i64,.int .i64,.int .i64,.int .i64,.int .i64,.slice [.int .i64,.int .i64],.int .i64,.int .i64,.int .i64,.int .i64,.int .i64,.slice [.int .i64,.int .i64],.int .i64,.int .i64,.int .i64,.int .i64,.int .i64,.slice [.int .i64,.int .i64],.int .i64,.slice [.int .i64,.slice [.str,.slice [.int .i64]],.slice [.int .i64,.int .i64,.int .i64],.slice [.int .i64],.slice [.int .i64],.int .i64,.int .i64,.int .i64],.int .i64,.int .i64,.int .i64,.int .i64] ts):∃x:Zbw,ts=x.c/\x.okay:=by
 obtain⟨t0,us0,rfl,g0,h0⟩:=Z4 h;obtain⟨t1,us1,rfl,g1,h1⟩:=Z4 h0;obtain⟨t2,us2,rfl,g2,h2⟩:=Z4 h1;obtain⟨t3,us3,rfl,g3,h3⟩:=Z4 h2;obtain⟨t4,us4,rfl,g4,h4⟩:=Z4 h3;obtain⟨t5,us5,rfl,g5,h5⟩:=Z4 h4;obtain⟨t6,us6,rfl,g6,h6⟩:=Z4 h5;obtain⟨t7,us7,rfl,g7,h7⟩:=Z4 h6;obtain⟨t8,us8,rfl,g8,h8⟩:=Z4 h7;obtain⟨t9,us9,rfl,g9,h9⟩:=Z4 h8;obtain⟨t10,us10,rfl,g10,h10⟩:=Z4 h9;obtain⟨t11,us11,rfl,g11,h11⟩:=Z4 h10;obtain⟨t12,us12,rfl,g12,h12⟩:=Z4 h11;obtain⟨t13,us13,rfl,g13,h13⟩:=Z4 h12;obtain⟨t14,us14,rfl,g14,h14⟩:=Z4 h13;obtain⟨t15,us15,rfl,g15,h15⟩:=Z4 h14;obtain⟨t16,us16,rfl,g16,h16⟩:=Z4 h15;obtain⟨t17,us17,rfl,g17,h17⟩:=Z4 h16;obtain⟨t18,us18,rfl,g18,h18⟩:=Z4 h17;obtain⟨t19,us19,rfl,g19,h19⟩:=Z4 h18;obtain⟨t20,us20,rfl,g20,h20⟩:=Z4 h19;obtain⟨t21,us21,rfl,g21,h21⟩:=Z4 h20;obtain⟨t22,us22,rfl,g22,h22⟩:=Z4 h21;obtain⟨t23,us23,rfl,g23,h23⟩:=Z4 h22;obtain⟨t24,us24,rfl,g24,h24⟩:=Z4 h23;obtain⟨t25,us25,rfl,g25,h25⟩:=Z4 h24;obtain⟨t26,us26,rfl,g26,h26⟩:=Z4 h25;obtain⟨t27,us27,rfl,g27,h27⟩:=Z4 h26;obtain⟨t28,us28,rfl,g28,h28⟩:=Z4 h27;obtain⟨t29,us29,rfl,g29,h29⟩:=Z4 h28;obtain⟨t30,us30,rfl,g30,h30⟩:=Z4 h29;obtain⟨t31,us31,rfl,g31,h31⟩:=Z4 h30;obtain⟨t32,us32,rfl,g32,h32⟩:=Z4 h31;obtain⟨t33,us33,rfl,g33,h33⟩:=Z4 h32;obtain⟨t34,us34,rfl,g34,h34⟩:=Z4 h33;obtain⟨t35,us35,rfl,g35,h35⟩:=Z4 h34;obtain⟨t36,us36,rfl,g36,h36⟩:=Z4 h35;obtain⟨t37,us37,rfl,g37,h37⟩:=Z4 h36;obtain⟨t38,us38,rfl,g38,h38⟩:=Z4 h37;obtain⟨t39,us39,rfl,g39,h39⟩:=Z4 h38;obtain⟨t40,us40,rfl,g40,h40⟩:=Z4 h39;cases Zfx h40;obtain⟨x0,rfl,o0⟩:=Zen Zh.dec g0;obtain⟨x1,rfl,o1⟩:=Zbg g1;obtain⟨x2,rfl,o2⟩:=Zen Zk.dec g2;obtain⟨x3,rfl,o3⟩:=Zen Zn.dec g3;obtain⟨x4,rfl,o4⟩:=Zen Zl.dec g4;obtain⟨x5,rfl,o5⟩:=Zbg g5;obtain⟨x6,rfl,o6⟩:=Zbg g6;obtain⟨x7,rfl,o7⟩:=Zbg g7;obtain⟨x8,rfl,o8⟩:=Zbg g8;obtain⟨x9,rfl,o9⟩:=Zbg g9;obtain⟨x10,rfl,o10⟩:=Zen Zf.dec g10;obtain⟨x11,rfl,o11⟩:=Zbg g11;obtain⟨x12,rfl,o12⟩:=Zbg g12;obtain⟨x13,rfl,o13⟩:=Zbg g13;obtain⟨x14,rfl,o14⟩:=Zbg g14;obtain⟨x15,rfl,o15⟩:=Zbg g15;obtain⟨x16,rfl,o16⟩:=Zen Zf.dec g16;obtain⟨x17,rfl,o17⟩:=Zbg g17;obtain⟨x18,rfl,o18⟩:=Zbg g18;obtain⟨x19,rfl,o19⟩:=Zbg g19;obtain⟨x20,rfl,o20⟩:=Zbg g20;obtain⟨x21,rfl,o21⟩:=Zbg g21;obtain⟨x22,rfl,o22⟩:=Zen Zf.dec g22;obtain⟨x23,rfl,o23⟩:=Zbg g23;obtain⟨x24,rfl,o24⟩:=Zbg g24;obtain⟨x25,rfl,o25⟩:=Zbg g25;obtain⟨x26,rfl,o26⟩:=Zbg g26;obtain⟨x27,rfl,o27⟩:=Zbg g27;obtain⟨x28,rfl,o28⟩:=Zen Zf.dec g28;obtain⟨x29,rfl,o29⟩:=Zbg g29;obtain⟨x30,rfl,o30⟩:=Zbg g30;obtain⟨x31,rfl,o31⟩:=Zbg g31;obtain⟨x32,rfl,o32⟩:=Zbg g32;obtain⟨x33,rfl,o33⟩:=Zbg g33;obtain⟨x34,rfl,o34⟩:=Zen Zf.dec g34;obtain⟨x35,rfl,o35⟩:=Zbg g35;obtain⟨x36,rfl,o36⟩:=Zen Zp.dec g36;obtain⟨x37,rfl,o37⟩:=Zbg g37;obtain⟨x38,rfl,o38⟩:=Zbg g38;obtain⟨x39,rfl,o39⟩:=Zbg g39;obtain⟨x40,rfl,o40⟩:=Zbg g40;exact⟨⟨⟨⟨x0⟩,⟨x1,x2⟩,x3,x4⟩,⟨⟨x5,x6,x7,x8,x9,x10⟩,⟨x11,x12,x13,x14,x15,x16⟩,⟨x17,x18,x19,x20,x21,x22⟩,⟨x23,x24,x25,x26,x27,x28⟩,⟨x29,x30,x31,x32,x33,x34⟩⟩,⟨x35,x36⟩,x37,x38,x39,x40⟩,rfl,o0,o1,o2,o3,o4,o5,o6,o7,o8,o9,o10,o11,o12,o13,o14,o15,o16,o17,o18,o19,o20,o21,o22,o23,o24,o25,o26,o27,o28,o29,o30,o31,o32,o33,o34,o35,o36,o37,o38,o39,o40⟩
def Zbw.sz(x:Zbw)(l:Int):Int:=Zz (Z3.sz x.Z3 l) λl=>Zz (Zb.sz x.Zb l) λl=>Zz (Zbn.sz x.Cache l) λl=>l
theorem Zbw.Zbl(x:Zbw)(l:Int)(hx:x.okay)(h0:0<=l)(h1:l<=1048576)(h:0<=x.sz l):x.sz l<=l/\x.small:=by
 unfold Zbw.sz at h|-;simp only[Zz]at h|-;split at h
 .omega
 rename_i q0;rw[if_neg q0];have s0:=Z3.Zbl x.Z3 _ ⟨hx.1,hx.2.1,hx.2.2.1,hx.2.2.2.1,hx.2.2.2.2.1⟩ h0 h1 (Yn.1 q0);split at h
 .omega
 rename_i q1;rw[if_neg q1];have s1:=Zb.Zbl x.Zb _ ⟨hx.2.2.2.2.2.1,hx.2.2.2.2.2.2.1,hx.2.2.2.2.2.2.2.1,hx.2.2.2.2.2.2.2.2.1,hx.2.2.2.2.2.2.2.2.2.1,hx.2.2.2.2.2.2.2.2.2.2.1,hx.2.2.2.2.2.2.2.2.2.2.2.1,hx.2.2.2.2.2.2.2.2.2.2.2.2.1,hx.2.2.2.2.2.2.2.2.2.2.2.2.2.1,hx.2.2.2.2.2.2.2.2.2.2.2.2.2.2.1,hx.2.2.2.2.2.2.2.2.2.2.2.2.2.2.2.1,hx.2.2.2.2.2.2.2.2.2.2.2.2.2.2.2.2.1,hx.2.2.2.2.2.2.2.2.2.2.2.2.2.2.2.2.2.1,hx.2.2.2.2.2.2.2.2.2.2.2.2.2.2.2.2.2.2.1,hx.2.2.2.2.2.2.2.2.2.2.2.2.2.2.2.2.2.2.2.1,hx.2.2.2.2.2.2.2.2.2.2.2.2.2.2.2.2.2.2.2.2.1,hx.2.2.2.2.2.2.2.2.2.2.2.2.2.2.2.2.2.2.2.2.2.1,hx.2.2.2.2.2.2.2.2.2.2.2.2.2.2.2.2.2.2.2.2.2.2.1,hx.2.2.2.2.2.2.2.2.2.2.2.2.2.2.2.2.2.2.2.2.2.2.2.1,hx.2.2.2.2.2.2.2.2.2.2.2.2.2.2.2.2.2.2.2.2.2.2.2.2.1,hx.2.2.2.2.2.2.2.2.2.2.2.2.2.2.2.2.2.2.2.2.2.2.2.2.2.1,hx.2.2.2.2.2.2.2.2.2.2.2.2.2.2.2.2.2.2.2.2.2.2.2.2.2.2.1,hx.2.2.2.2.2.2.2.2.2.2.2.2.2.2.2.2.2.2.2.2.2.2.2.2.2.2.2.1,hx.2.2.2.2.2.2.2.2.2.2.2.2.2.2.2.2.2.2.2.2.2.2.2.2.2.2.2.2.1,hx.2.2.2.2.2.2.2.2.2.2.2.2.2.2.2.2.2.2.2.2.2.2.2.2.2.2.2.2.2.1,hx.2.2.2.2.2.2.2.2.2.2.2.2.2.2.2.2.2.2.2.2.2.2.2.2.2.2.2.2.2.2.1,hx.2.2.2.2.2.2.2.2.2.2.2.2.2.2.2.2.2.2.2.2.2.2.2.2.2.2.2.2.2.2.2.1,hx.2.2.2.2.2.2.2.2.2.2.2.2.2.2.2.2.2.2.2.2.2.2.2.2.2.2.2.2.2.2.2.2.1,hx.2.2.2.2.2.2.2.2.2.2.2.2.2.2.2.2.2.2.2.2.2.2.2.2.2.2.2.2.2.2.2.2.2.1,hx.2.2.2.2.2.2.2.2.2.2.2.2.2.2.2.2.2.2.2.2.2.2.2.2.2.2.2.2.2.2.2.2.2.2.1⟩ (by omega) (by omega) (Yn.1 q1);split at h
 .omega
 rename_i q2;rw[if_neg q2];have s2:=Zbn.Zbl x.Cache _ ⟨hx.2.2.2.2.2.2.2.2.2.2.2.2.2.2.2.2.2.2.2.2.2.2.2.2.2.2.2.2.2.2.2.2.2.2.2.1,hx.2.2.2.2.2.2.2.2.2.2.2.2.2.2.2.2.2.2.2.2.2.2.2.2.2.2.2.2.2.2.2.2.2.2.2.2.1⟩ (by omega) (by omega) (Yn.1 q2);exact⟨by omega,s0.2.1,s0.2.2.1,s0.2.2.2.1,s0.2.2.2.2,s1.2.1,s1.2.2.1,s1.2.2.2.1,s1.2.2.2.2.1,s1.2.2.2.2.2,s2.2⟩
end Go.Proofs.YtdioodopdlpinaaGreat
