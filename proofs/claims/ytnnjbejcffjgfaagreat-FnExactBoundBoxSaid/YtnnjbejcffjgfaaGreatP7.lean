/-
  Parts of the proofs for this seat: TY TX PW EX H.
-/
import Derived.Test.YtnnjbejcffjgfaaGreatRows
import Derived.Test.YtnnjbejcffjgfaaGreatP4
import Derived.Test.YtnnjbejcffjgfaaGreatP5
set_option linter.unusedSectionVars false
set_option linter.unusedSimpArgs false
set_option linter.unusedVariables false
set_option maxRecDepth 100000
set_option maxHeartbeats 4000000
namespace Go.Proofs.YtnnjbejcffjgfaaGreat
open Go.AM
noncomputable section
@[ext] structure Ze where
 Name:ByteArray
 Arity:Int
 Rows:List (List Int)
 deriving DecidableEq
def Ze.c(x:Ze):List T:=[.str x.Name,.int .i64 x.Arity,tII x.Rows]
@[simp] theorem Ze.c_def(x:Ze):x.c=[.str x.Name,.int .i64 x.Arity,tII x.Rows]:=rfl
abbrev Ze.Zq(x:Ze):Prop:=SsA x.Name/\SmL SmA x.Rows
abbrev Ze.okay(x:Ze):Prop:=OkS x.Name/\OkI x.Arity/\OkL (OkL OkI) x.Rows
theorem Ze.dec(ts:List T)(h:HasShs [.str,.int .i64,.slice [.slice [.int .i64]]] ts):∃x:Ze,ts=x.c/\x.okay:=by
 obtain⟨t0,us0,rfl,g0,h0⟩:=Zby h;obtain⟨t1,us1,rfl,g1,h1⟩:=Zby h0;obtain⟨t2,us2,rfl,g2,h2⟩:=Zby h1;cases Zhi h2;obtain⟨x0,rfl,o0⟩:=Zox g0;obtain⟨x1,rfl,o1⟩:=Zih g1;obtain⟨x2,rfl,o2⟩:=Zbow g2;exact⟨⟨x0,x1,x2⟩,rfl,o0,o1,o2⟩
def Ze.sz(x:Ze)(l:Int):Int:=Zz (sz1 x.Name.size l) λl=>Zz (szL szI x.Rows l) λl=>l
theorem Ze.sz_ok(x:Ze)(l:Int)(hx:x.okay)(h0:0<=l)(h1:l<=1048576)(h:0<=x.sz l):x.sz l<=l/\x.Zq:=by
 unfold Ze.sz at h|-;simp only[Zz]at h|-;split at h
 .omega
 rename_i q0;rw[if_neg q0];have s0:=Zfl hx.1 h0 h1 (Ym.1 q0);split at h
 .omega
 rename_i q1;rw[if_neg q1];have s1:=Zj2 (f:=szI) (p:=λy:List Int=>SmA y) hx.2.2.1 (λy hy l a b c=>Zfl (hx.2.2.2 y hy).1 a b c) (by omega) (by omega) (Ym.1 q1);exact⟨by omega,s0.2,s1.2⟩
@[ext] structure Zi where
 Tables:List Ze
 deriving DecidableEq
def Zi.c(x:Zi):List T:=[.lst 3 (x.Tables.map Ze.c)]
@[simp] theorem Zi.c_def(x:Zi):x.c=[.lst 3 (x.Tables.map Ze.c)]:=rfl
abbrev Zi.Zq(x:Zi):Prop:=SmL Ze.Zq x.Tables
abbrev Zi.okay(x:Zi):Prop:=OkL Ze.okay x.Tables
def Zi.sz(x:Zi)(l:Int):Int:=Zz (szL Ze.sz x.Tables l) λl=>l
theorem Zi.sz_ok(x:Zi)(l:Int)(hx:x.okay)(h0:0<=l)(h1:l<=1048576)(h:0<=x.sz l):x.sz l<=l/\x.Zq:=by
 unfold Zi.sz at h|-;simp only[Zz]at h|-;split at h
 .omega
 rename_i q0;rw[if_neg q0];have s0:=Zj2 (p:=Ze.Zq) hx.1 (λy hy l a b c=>Ze.sz_ok y l (hx.2 y hy) a b c) h0 h1 (Ym.1 q0);exact⟨by omega,s0.2⟩
@[ext] structure Atom where
 Name:ByteArray
 Vars:List Int
 deriving DecidableEq
def Atom.c(x:Atom):List T:=[.str x.Name,tI x.Vars]
@[simp] theorem Atom.c_def(x:Atom):x.c=[.str x.Name,tI x.Vars]:=rfl
abbrev Atom.Zq(x:Atom):Prop:=SsA x.Name/\SmA x.Vars
abbrev Atom.okay(x:Atom):Prop:=OkS x.Name/\OkL OkI x.Vars
theorem Atom.dec(ts:List T)(h:HasShs [.str,.slice [.int .i64]] ts):∃x:Atom,ts=x.c/\x.okay:=by
 obtain⟨t0,us0,rfl,g0,h0⟩:=Zby h;obtain⟨t1,us1,rfl,g1,h1⟩:=Zby h0;cases Zhi h1;obtain⟨x0,rfl,o0⟩:=Zox g0;obtain⟨x1,rfl,o1⟩:=Zs5 g1;exact⟨⟨x0,x1⟩,rfl,o0,o1⟩
def Atom.sz(x:Atom)(l:Int):Int:=Zz (sz1 x.Name.size l) λl=>Zz (sz1 x.Vars.length l) λl=>l
theorem Atom.sz_ok(x:Atom)(l:Int)(hx:x.okay)(h0:0<=l)(h1:l<=1048576)(h:0<=x.sz l):x.sz l<=l/\x.Zq:=by
 unfold Atom.sz at h|-;simp only[Zz]at h|-;split at h
 .omega
 rename_i q0;rw[if_neg q0];have s0:=Zfl hx.1 h0 h1 (Ym.1 q0);split at h
 .omega
 rename_i q1;rw[if_neg q1];have s1:=Zfl hx.2.1 (by omega) (by omega) (Ym.1 q1);exact⟨by omega,s0.2,s1.2⟩
@[ext] structure Zc where
 Zp:Int
 Atoms:List Atom
 deriving DecidableEq
def Zc.c(x:Zc):List T:=[.int .i64 x.Zp,.lst 2 (x.Atoms.map Atom.c)]
@[simp] theorem Zc.c_def(x:Zc):x.c=[.int .i64 x.Zp,.lst 2 (x.Atoms.map Atom.c)]:=rfl
abbrev Zc.Zq(x:Zc):Prop:=SmL Atom.Zq x.Atoms
abbrev Zc.okay(x:Zc):Prop:=OkI x.Zp/\OkL Atom.okay x.Atoms
theorem Zc.dec(ts:List T)(h:HasShs [.int .i64,.slice [.str,.slice [.int .i64]]] ts):∃x:Zc,ts=x.c/\x.okay:=by
 obtain⟨t0,us0,rfl,g0,h0⟩:=Zby h;obtain⟨t1,us1,rfl,g1,h1⟩:=Zby h0;cases Zhi h1;obtain⟨x0,rfl,o0⟩:=Zih g0;obtain⟨x1,rfl,o1⟩:=Zj3 Atom.dec g1;exact⟨⟨x0,x1⟩,rfl,o0,o1⟩
def Zc.sz(x:Zc)(l:Int):Int:=Zz (szL Atom.sz x.Atoms l) λl=>l
theorem Zc.sz_ok(x:Zc)(l:Int)(hx:x.okay)(h0:0<=l)(h1:l<=1048576)(h:0<=x.sz l):x.sz l<=l/\x.Zq:=by
 unfold Zc.sz at h|-;simp only[Zz]at h|-;split at h
 .omega
 rename_i q0;rw[if_neg q0];have s0:=Zj2 (p:=Atom.Zq) hx.2.1 (λy hy l a b c=>Atom.sz_ok y l (hx.2.2 y hy) a b c) h0 h1 (Ym.1 q0);exact⟨by omega,s0.2⟩
@[ext] structure Zk where
 Name:ByteArray
 From:List Int
 To:Int
 deriving DecidableEq
def Zk.c(x:Zk):List T:=[.str x.Name,tI x.From,.int .i64 x.To]
@[simp] theorem Zk.c_def(x:Zk):x.c=[.str x.Name,tI x.From,.int .i64 x.To]:=rfl
abbrev Zk.Zq(x:Zk):Prop:=SsA x.Name/\SmA x.From
abbrev Zk.okay(x:Zk):Prop:=OkS x.Name/\OkL OkI x.From/\OkI x.To
theorem Zk.dec(ts:List T)(h:HasShs [.str,.slice [.int .i64],.int .i64] ts):∃x:Zk,ts=x.c/\x.okay:=by
 obtain⟨t0,us0,rfl,g0,h0⟩:=Zby h;obtain⟨t1,us1,rfl,g1,h1⟩:=Zby h0;obtain⟨t2,us2,rfl,g2,h2⟩:=Zby h1;cases Zhi h2;obtain⟨x0,rfl,o0⟩:=Zox g0;obtain⟨x1,rfl,o1⟩:=Zs5 g1;obtain⟨x2,rfl,o2⟩:=Zih g2;exact⟨⟨x0,x1,x2⟩,rfl,o0,o1,o2⟩
def Zk.sz(x:Zk)(l:Int):Int:=Zz (sz1 x.Name.size l) λl=>Zz (sz1 x.From.length l) λl=>l
theorem Zk.sz_ok(x:Zk)(l:Int)(hx:x.okay)(h0:0<=l)(h1:l<=1048576)(h:0<=x.sz l):x.sz l<=l/\x.Zq:=by
 unfold Zk.sz at h|-;simp only[Zz]at h|-;split at h
 .omega
 rename_i q0;rw[if_neg q0];have s0:=Zfl hx.1 h0 h1 (Ym.1 q0);split at h
 .omega
 rename_i q1;rw[if_neg q1];have s1:=Zfl hx.2.1.1 (by omega) (by omega) (Ym.1 q1);exact⟨by omega,s0.2,s1.2⟩
@[ext] structure Zj where
 Name:ByteArray
 Column:Int
 Into:ByteArray
 IntoColumn:Int
 deriving DecidableEq
def Zj.c(x:Zj):List T:=[.str x.Name,.int .i64 x.Column,.str x.Into,.int .i64 x.IntoColumn]
@[simp] theorem Zj.c_def(x:Zj):x.c=[.str x.Name,.int .i64 x.Column,.str x.Into,.int .i64 x.IntoColumn]:=rfl
abbrev Zj.Zq(x:Zj):Prop:=SsA x.Name/\SsA x.Into
abbrev Zj.okay(x:Zj):Prop:=OkS x.Name/\OkI x.Column/\OkS x.Into/\OkI x.IntoColumn
theorem Zj.dec(ts:List T)(h:HasShs [.str,.int .i64,.str,.int .i64] ts):∃x:Zj,ts=x.c/\x.okay:=by
 obtain⟨t0,us0,rfl,g0,h0⟩:=Zby h;obtain⟨t1,us1,rfl,g1,h1⟩:=Zby h0;obtain⟨t2,us2,rfl,g2,h2⟩:=Zby h1;obtain⟨t3,us3,rfl,g3,h3⟩:=Zby h2;cases Zhi h3;obtain⟨x0,rfl,o0⟩:=Zox g0;obtain⟨x1,rfl,o1⟩:=Zih g1;obtain⟨x2,rfl,o2⟩:=Zox g2;obtain⟨x3,rfl,o3⟩:=Zih g3;exact⟨⟨x0,x1,x2,x3⟩,rfl,o0,o1,o2,o3⟩
def Zj.sz(x:Zj)(l:Int):Int:=Zz (sz1 x.Name.size l) λl=>Zz (sz1 x.Into.size l) λl=>l
theorem Zj.sz_ok(x:Zj)(l:Int)(hx:x.okay)(h0:0<=l)(h1:l<=1048576)(h:0<=x.sz l):x.sz l<=l/\x.Zq:=by
 unfold Zj.sz at h|-;simp only[Zz]at h|-;split at h
 .omega
 rename_i q0;rw[if_neg q0];have s0:=Zfl hx.1 h0 h1 (Ym.1 q0);split at h
 .omega
 rename_i q1;rw[if_neg q1];have s1:=Zfl hx.2.2.1 (by omega) (by omega) (Ym.1 q1);exact⟨by omega,s0.2,s1.2⟩
@[ext] structure Zg where
 Columns:List Int
 Values:List (List Int)
 Counts:List Int
 deriving DecidableEq
def Zg.c(x:Zg):List T:=[tI x.Columns,tII x.Values,tI x.Counts]
@[simp] theorem Zg.c_def(x:Zg):x.c=[tI x.Columns,tII x.Values,tI x.Counts]:=rfl
abbrev Zg.Zq(x:Zg):Prop:=SmA x.Columns/\SmL SmA x.Values/\SmA x.Counts
abbrev Zg.okay(x:Zg):Prop:=OkL OkI x.Columns/\OkL (OkL OkI) x.Values/\OkL OkI x.Counts
theorem Zg.dec(ts:List T)(h:HasShs [.slice [.int .i64],.slice [.slice [.int .i64]],.slice [.int .i64]] ts):∃x:Zg,ts=x.c/\x.okay:=by
 obtain⟨t0,us0,rfl,g0,h0⟩:=Zby h;obtain⟨t1,us1,rfl,g1,h1⟩:=Zby h0;obtain⟨t2,us2,rfl,g2,h2⟩:=Zby h1;cases Zhi h2;obtain⟨x0,rfl,o0⟩:=Zs5 g0;obtain⟨x1,rfl,o1⟩:=Zbow g1;obtain⟨x2,rfl,o2⟩:=Zs5 g2;exact⟨⟨x0,x1,x2⟩,rfl,o0,o1,o2⟩
def Zg.sz(x:Zg)(l:Int):Int:=Zz (sz1 x.Columns.length l) λl=>Zz (szL szI x.Values l) λl=>Zz (sz1 x.Counts.length l) λl=>l
theorem Zg.sz_ok(x:Zg)(l:Int)(hx:x.okay)(h0:0<=l)(h1:l<=1048576)(h:0<=x.sz l):x.sz l<=l/\x.Zq:=by
 unfold Zg.sz at h|-;simp only[Zz]at h|-;split at h
 .omega
 rename_i q0;rw[if_neg q0];have s0:=Zfl hx.1.1 h0 h1 (Ym.1 q0);split at h
 .omega
 rename_i q1;rw[if_neg q1];have s1:=Zj2 (f:=szI) (p:=λy:List Int=>SmA y) hx.2.1.1 (λy hy l a b c=>Zfl (hx.2.1.2 y hy).1 a b c) (by omega) (by omega) (Ym.1 q1);split at h
 .omega
 rename_i q2;rw[if_neg q2];have s2:=Zfl hx.2.2.1 (by omega) (by omega) (Ym.1 q2);exact⟨by omega,s0.2,s1.2,s2.2⟩
@[ext] structure Zf where
 Name:ByteArray
 Arity:Int
 RowCount:Int
 Groups:List Zg
 deriving DecidableEq
def Zf.c(x:Zf):List T:=[.str x.Name,.int .i64 x.Arity,.int .i64 x.RowCount,.lst 3 (x.Groups.map Zg.c)]
@[simp] theorem Zf.c_def(x:Zf):x.c=[.str x.Name,.int .i64 x.Arity,.int .i64 x.RowCount,.lst 3 (x.Groups.map Zg.c)]:=rfl
abbrev Zf.Zq(x:Zf):Prop:=SsA x.Name/\SmL Zg.Zq x.Groups
abbrev Zf.okay(x:Zf):Prop:=OkS x.Name/\OkI x.Arity/\OkI x.RowCount/\OkL Zg.okay x.Groups
theorem Zf.dec(ts:List T)(h:HasShs [.str,.int .i64,.int .i64,.slice [.slice [.int .i64],.slice [.slice [.int .i64]],.slice [.int .i64]]] ts):∃x:Zf,ts=x.c/\x.okay:=by
 obtain⟨t0,us0,rfl,g0,h0⟩:=Zby h;obtain⟨t1,us1,rfl,g1,h1⟩:=Zby h0;obtain⟨t2,us2,rfl,g2,h2⟩:=Zby h1;obtain⟨t3,us3,rfl,g3,h3⟩:=Zby h2;cases Zhi h3;obtain⟨x0,rfl,o0⟩:=Zox g0;obtain⟨x1,rfl,o1⟩:=Zih g1;obtain⟨x2,rfl,o2⟩:=Zih g2;obtain⟨x3,rfl,o3⟩:=Zj3 Zg.dec g3;exact⟨⟨x0,x1,x2,x3⟩,rfl,o0,o1,o2,o3⟩
def Zf.sz(x:Zf)(l:Int):Int:=Zz (sz1 x.Name.size l) λl=>Zz (szL Zg.sz x.Groups l) λl=>l
theorem Zf.sz_ok(x:Zf)(l:Int)(hx:x.okay)(h0:0<=l)(h1:l<=1048576)(h:0<=x.sz l):x.sz l<=l/\x.Zq:=by
 unfold Zf.sz at h|-;simp only[Zz]at h|-;split at h
 .omega
 rename_i q0;rw[if_neg q0];have s0:=Zfl hx.1 h0 h1 (Ym.1 q0);split at h
 .omega
 rename_i q1;rw[if_neg q1];have s1:=Zj2 (p:=Zg.Zq) hx.2.2.2.1 (λy hy l a b c=>Zg.sz_ok y l (hx.2.2.2.2 y hy) a b c) (by omega) (by omega) (Ym.1 q1);exact⟨by omega,s0.2,s1.2⟩
@[ext] structure Zl where
 Version:Int
 Tables:List Zf
 deriving DecidableEq
def Zl.c(x:Zl):List T:=[.int .i64 x.Version,.lst 4 (x.Tables.map Zf.c)]
@[simp] theorem Zl.c_def(x:Zl):x.c=[.int .i64 x.Version,.lst 4 (x.Tables.map Zf.c)]:=rfl
abbrev Zl.Zq(x:Zl):Prop:=SmL Zf.Zq x.Tables
abbrev Zl.okay(x:Zl):Prop:=OkI x.Version/\OkL Zf.okay x.Tables
def Zl.sz(x:Zl)(l:Int):Int:=Zz (szL Zf.sz x.Tables l) λl=>l
theorem Zl.sz_ok(x:Zl)(l:Int)(hx:x.okay)(h0:0<=l)(h1:l<=1048576)(h:0<=x.sz l):x.sz l<=l/\x.Zq:=by
 unfold Zl.sz at h|-;simp only[Zz]at h|-;split at h
 .omega
 rename_i q0;rw[if_neg q0];have s0:=Zj2 (p:=Zf.Zq) hx.2.1 (λy hy l a b c=>Zf.sz_ok y l (hx.2.2 y hy) a b c) h0 h1 (Ym.1 q0);exact⟨by omega,s0.2⟩
@[ext] structure Zh where
 Zi:Zi
 Zl:Zl
 Dependencies:List Zk
 Inclusions:List Zj
 deriving DecidableEq
def Zh.c(x:Zh):List T:=[.lst 3 (x.Zi.Tables.map Ze.c),.int .i64 x.Zl.Version,.lst 4 (x.Zl.Tables.map Zf.c),.lst 3 (x.Dependencies.map Zk.c),.lst 4 (x.Inclusions.map Zj.c)]
@[simp] theorem Zh.c_def(x:Zh):x.c=[.lst 3 (x.Zi.Tables.map Ze.c),.int .i64 x.Zl.Version,.lst 4 (x.Zl.Tables.map Zf.c),.lst 3 (x.Dependencies.map Zk.c),.lst 4 (x.Inclusions.map Zj.c)]:=rfl
abbrev Zh.Zq(x:Zh):Prop:=SmL Ze.Zq x.Zi.Tables/\SmL Zf.Zq x.Zl.Tables/\SmL Zk.Zq x.Dependencies/\SmL Zj.Zq x.Inclusions
abbrev Zh.okay(x:Zh):Prop:=OkL Ze.okay x.Zi.Tables/\OkI x.Zl.Version/\OkL Zf.okay x.Zl.Tables/\OkL Zk.okay x.Dependencies/\OkL Zj.okay x.Inclusions
theorem Zh.dec(ts:List T)(h:HasShs [.slice [.str,.int .i64,.slice [.slice [.int .i64]]],.int .i64,.slice [.str,.int .i64,.int .i64,.slice [.slice [.int .i64],.slice [.slice [.int .i64]],.slice [.int .i64]]],.slice [.str,.slice [.int .i64],.int .i64],.slice [.str,.int .i64,.str,.int .i64]] ts):∃x:Zh,ts=x.c/\x.okay:=by
 obtain⟨t0,us0,rfl,g0,h0⟩:=Zby h;obtain⟨t1,us1,rfl,g1,h1⟩:=Zby h0;obtain⟨t2,us2,rfl,g2,h2⟩:=Zby h1;obtain⟨t3,us3,rfl,g3,h3⟩:=Zby h2;obtain⟨t4,us4,rfl,g4,h4⟩:=Zby h3;cases Zhi h4;obtain⟨x0,rfl,o0⟩:=Zj3 Ze.dec g0;obtain⟨x1,rfl,o1⟩:=Zih g1;obtain⟨x2,rfl,o2⟩:=Zj3 Zf.dec g2;obtain⟨x3,rfl,o3⟩:=Zj3 Zk.dec g3;obtain⟨x4,rfl,o4⟩:=Zj3 Zj.dec g4;exact⟨⟨⟨x0⟩,⟨x1,x2⟩,x3,x4⟩,rfl,o0,o1,o2,o3,o4⟩
def Zh.sz(x:Zh)(l:Int):Int:=Zz (Zi.sz x.Zi l) λl=>Zz (Zl.sz x.Zl l) λl=>Zz (szL Zk.sz x.Dependencies l) λl=>Zz (szL Zj.sz x.Inclusions l) λl=>l
theorem Zh.sz_ok(x:Zh)(l:Int)(hx:x.okay)(h0:0<=l)(h1:l<=1048576)(h:0<=x.sz l):x.sz l<=l/\x.Zq:=by
 unfold Zh.sz at h|-;simp only[Zz]at h|-;split at h
 .omega
 rename_i q0;rw[if_neg q0];have s0:=Zi.sz_ok x.Zi _ hx.1 h0 h1 (Ym.1 q0);split at h
 .omega
 rename_i q1;rw[if_neg q1];have s1:=Zl.sz_ok x.Zl _ ⟨hx.2.1,hx.2.2.1⟩ (by omega) (by omega) (Ym.1 q1);split at h
 .omega
 rename_i q2;rw[if_neg q2];have s2:=Zj2 (p:=Zk.Zq) hx.2.2.2.1.1 (λy hy l a b c=>Zk.sz_ok y l (hx.2.2.2.1.2 y hy) a b c) (by omega) (by omega) (Ym.1 q2);split at h
 .omega
 rename_i q3;rw[if_neg q3];have s3:=Zj2 (p:=Zj.Zq) hx.2.2.2.2.1 (λy hy l a b c=>Zj.sz_ok y l (hx.2.2.2.2.2 y hy) a b c) (by omega) (by omega) (Ym.1 q3);exact⟨by omega,s0.2,s1.2,s2.2,s3.2⟩
@[ext] structure Box where
 Low:List Int
 High:List Int
 deriving DecidableEq
def Box.c(x:Box):List T:=[tI x.Low,tI x.High]
@[simp] theorem Box.c_def(x:Box):x.c=[tI x.Low,tI x.High]:=rfl
abbrev Box.Zq(x:Box):Prop:=SmA x.Low/\SmA x.High
abbrev Box.okay(x:Box):Prop:=OkL OkI x.Low/\OkL OkI x.High
def Box.sz(x:Box)(l:Int):Int:=Zz (sz1 x.Low.length l) λl=>Zz (sz1 x.High.length l) λl=>l
@[simp] theorem Ze.map_inj(xs ys:List Ze):xs.map Ze.c=ys.map Ze.c↔xs=ys:=Zcf (by
 intro a b h;simp at h
 simp[Ze.ext_iff,h])
@[simp] theorem Zi.map_inj(xs ys:List Zi):xs.map Zi.c=ys.map Zi.c↔xs=ys:=Zcf (by
 intro a b h;simp at h
 simp[Zi.ext_iff,h])
@[simp] theorem Zg.map_inj(xs ys:List Zg):xs.map Zg.c=ys.map Zg.c↔xs=ys:=Zcf (by
 intro a b h;simp at h
 simp[Zg.ext_iff,h])
@[simp] theorem Zf.map_inj(xs ys:List Zf):xs.map Zf.c=ys.map Zf.c↔xs=ys:=Zcf (by
 intro a b h;simp at h
 simp[Zf.ext_iff,h])
@[simp] theorem Zl.map_inj(xs ys:List Zl):xs.map Zl.c=ys.map Zl.c↔xs=ys:=Zcf (by
 intro a b h;simp at h
 simp[Zl.ext_iff,h])
@[simp] theorem Zk.map_inj(xs ys:List Zk):xs.map Zk.c=ys.map Zk.c↔xs=ys:=Zcf (by
 intro a b h;simp at h
 simp[Zk.ext_iff,h])
@[simp] theorem Zj.map_inj(xs ys:List Zj):xs.map Zj.c=ys.map Zj.c↔xs=ys:=Zcf (by
 intro a b h;simp at h
 simp[Zj.ext_iff,h])
@[simp] theorem Zj.flat(xs:List Zj):(xs.map Zj.c).all (λx=>x.all Zbd)=true:=Zj5 (λ_=>rfl) xs
@[simp] theorem Zj.flat2(xs:List Zj):xs.all ((λx=>x.all Zbd) ∘ Zj.c)=true:=Zj6 (λ_=>rfl) xs
@[simp] theorem Zh.map_inj(xs ys:List Zh):xs.map Zh.c=ys.map Zh.c↔xs=ys:=Zcf (by
 intro a b h;simp at h
 simp[Zh.ext_iff,Zi.ext_iff,Zl.ext_iff,h])
@[simp] theorem Atom.map_inj(xs ys:List Atom):xs.map Atom.c=ys.map Atom.c↔xs=ys:=Zcf (by
 intro a b h;simp at h
 simp[Atom.ext_iff,h])
@[simp] theorem Zc.map_inj(xs ys:List Zc):xs.map Zc.c=ys.map Zc.c↔xs=ys:=Zcf (by
 intro a b h;simp at h
 simp[Zc.ext_iff,h])
@[ext] structure Za where
 Num:Int
 Den:Int
 deriving DecidableEq
def Za.c(x:Za):List T:=[.int .i64 x.Num,.int .i64 x.Den]
@[simp] theorem Za.c_def(x:Za):x.c=[.int .i64 x.Num,.int .i64 x.Den]:=rfl
@[simp] theorem Za.map_inj(xs ys:List Za):xs.map Za.c=ys.map Za.c↔xs=ys:=Zcf (by
 intro a b h;simp at h
 simp[Za.ext_iff,h])
@[simp] theorem Za.flat(xs:List Za):(xs.map Za.c).all (λx=>x.all Zbd)=true:=Zj5 (λ_=>rfl) xs
@[simp] theorem Za.flat2(xs:List Za):xs.all ((λx=>x.all Zbd) ∘ Za.c)=true:=Zj6 (λ_=>rfl) xs
@[simp] theorem lcR_inj(xs ys:List (List Za)):xs.map (lc 2 Za.c)=ys.map (lc 2 Za.c)↔xs=ys:=Zcf (by
 intro a b h
 simpa[lc]using h)
@[ext] structure Program where
 Objective:List Int
 Rows:List (List Int)
 Limits:List Int
 deriving DecidableEq
def Program.c(x:Program):List T:=[.lst 1 (x.Objective.map ic),.lst 1 (x.Rows.map isc),.lst 1 (x.Limits.map ic)]
@[simp] theorem Program.c_def(x:Program):x.c=[.lst 1 (x.Objective.map ic),.lst 1 (x.Rows.map isc),.lst 1 (x.Limits.map ic)]:=rfl
@[simp] theorem Program.map_inj(xs ys:List Program):xs.map Program.c=ys.map Program.c↔xs=ys:=Zcf (by
 intro a b h;simp at h
 simp[Program.ext_iff,h])
@[ext] structure Zm where
 Basic:List Int
 Free:List Int
 Cells:List (List Za)
 Limits:List Za
 Costs:List Za
 Value:Za
 deriving DecidableEq
def Zm.c(x:Zm):List T:=[.lst 1 (x.Basic.map ic),.lst 1 (x.Free.map ic),.lst 1 (x.Cells.map (lc 2 Za.c)),.lst 2 (x.Limits.map Za.c),.lst 2 (x.Costs.map Za.c),.int .i64 x.Value.Num,.int .i64 x.Value.Den]
@[simp] theorem Zm.c_def(x:Zm):x.c=[.lst 1 (x.Basic.map ic),.lst 1 (x.Free.map ic),.lst 1 (x.Cells.map (lc 2 Za.c)),.lst 2 (x.Limits.map Za.c),.lst 2 (x.Costs.map Za.c),.int .i64 x.Value.Num,.int .i64 x.Value.Den]:=rfl
@[simp] theorem Zm.map_inj(xs ys:List Zm):xs.map Zm.c=ys.map Zm.c↔xs=ys:=Zcf (by
 intro a b h;simp at h
 simp[Zm.ext_iff,Za.ext_iff,h])
@[ext] structure Zo where
 From:Int
 To:Int
 Bits:Int
 deriving DecidableEq
def Zo.c(x:Zo):List T:=[.int .i64 x.From,.int .i64 x.To,.int .i64 x.Bits]
@[simp] theorem Zo.c_def(x:Zo):x.c=[.int .i64 x.From,.int .i64 x.To,.int .i64 x.Bits]:=rfl
@[simp] theorem Zo.map_inj(xs ys:List Zo):xs.map Zo.c=ys.map Zo.c↔xs=ys:=Zcf (by
 intro a b h;simp at h
 simp[Zo.ext_iff,h])
@[simp] theorem Zo.flat(xs:List Zo):(xs.map Zo.c).all (λx=>x.all Zbd)=true:=Zj5 (λ_=>rfl) xs
@[simp] theorem Zo.flat2(xs:List Zo):xs.all ((λx=>x.all Zbd) ∘ Zo.c)=true:=Zj6 (λ_=>rfl) xs
@[ext] structure Z4 where
 bad:Bool
 deriving DecidableEq
def Z4.c(x:Z4):List T:=[.bool x.bad]
@[simp] theorem Z4.c_def(x:Z4):x.c=[.bool x.bad]:=rfl
@[simp] theorem Z4.map_inj(xs ys:List Z4):xs.map Z4.c=ys.map Z4.c↔xs=ys:=Zcf (by
 intro a b h;simp at h
 simp[Z4.ext_iff,h])
@[simp] theorem Z4.flat(xs:List Z4):(xs.map Z4.c).all (λx=>x.all Zbd)=true:=Zj5 (λ_=>rfl) xs
@[simp] theorem Z4.flat2(xs:List Z4):xs.all ((λx=>x.all Zbd) ∘ Z4.c)=true:=Zj6 (λ_=>rfl) xs
def inR(a b c:Int):Bool:=decide (b<=a/\a<=c)
def Zcl(c:Int):Int:=if c<0 then -1 else if c=0 then 0 else if c=1 then 1 else if c=2 then 4 else if c=3 then 16 else if c=4 then 64 else if c=5 then 256 else if c=6 then 1024 else if c=7 then 4096 else -1
theorem cls8{c:Int}(h:inR c 0 7=true):c=0\/c=1\/c=2\/c=3\/c=4\/c=5\/c=6\/c=7:=by
 simp[inR]at h;omega
theorem Zboz{c:Int}(h:inR c 0 7=false):Zcl c=-1:=by
 simp[inR]at h;unfold Zcl;split
 .rfl
 .repeat' split
  all_goals omega
def Zcx(n:Int):Int:=if n<0 then -1 else if n<=0 then 0 else if n<=1 then 1 else if n<=4 then 2 else if n<=16 then 3 else if n<=64 then 4 else if n<=256 then 5 else if n<=1024 then 6 else if n<=4096 then 7 else -1
theorem Zbo0{α:Type}(p:α->Bool){xs:List α}{i:Nat}(h:i<xs.length):(xs.drop i).all p=(p xs[i] && (xs.drop (i+1)).all p):=by
 rw[Yd h,Y5]
theorem drop_any{α:Type}(p:α->Bool){xs:List α}{i:Nat}(h:i<xs.length):(xs.drop i).any p=(p xs[i] || (xs.drop (i+1)).any p):=by
 rw[Yd h,Yck]
def domAll:List Int->List Int->Bool
 |x::xs,y::ys=>decide (y<=x) && domAll xs ys
 |_,_=>true
def dom(xs ys:List Int):Bool:=decide (xs.length=ys.length) && domAll xs ys
def bit4(a b c d:Bool):Int:=(if a then 1 else 0)+(if b then 2 else 0)+(if c then 4 else 0)+(if d then 8 else 0)
def Zbo(p:Nat->Bool):Int:=bit4 (p 0) (p 1) (p 2) (p 3)
theorem in4{v:Int}(h:inR v 0 3=true):v=0\/v=1\/v=2\/v=3:=by simp[inR]at h;omega
def has(xs:List Int)(v:Int):Bool:=xs.any (λx=>decide (v=x))
theorem Zij{xs:List Int}{v:Int}:has xs v=true↔v∈xs:=by
 simp only[has,List.any_eq_true,decide_eq_true_eq];exact⟨λ⟨x,h,e⟩=>e▸h,λh=>⟨v,h,rfl⟩⟩
def addV(p:Nat->Bool)(vs:List Int):Nat->Bool:=λu=>p u || has vs u
theorem Z8p(p:Nat->Bool):addV p []=p:=by funext u;simp[addV,has]
theorem Zcc8(p:Nat->Bool)(v:Int)(vs:List Int):addV (addV p [v]) vs=addV p (v::vs):=by funext u;simp[addV,has,Bool.or_assoc]
theorem Z8q(p:Nat->Bool){vs:List Int}{i:Nat}(h:i<vs.length):addV p (vs.drop i)=addV (addV p [vs[i]]) (vs.drop (i+1)):=by
 rw[Yd h,Zcc8]
theorem or_d:∀a b c d:Bool,orI (bit4 a b c d) 1=bit4 true b c d/\orI (bit4 a b c d) 2=bit4 a true c d/\orI (bit4 a b c d) 4=bit4 a b true d/\orI (bit4 a b c d) 8=bit4 a b c true:=by decide
theorem Z0i(p:Nat->Bool){v:Int}(h:inR v 0 3=true):orI (Zbo p) (shlI 1 v)=Zbo (addV p [v]):=by
 have q:=or_d (p 0) (p 1) (p 2) (p 3);rcases in4 h with rfl|rfl|rfl|rfl<;>simp[addV,has,Zbo,shlI,Zw,q]
theorem and_d:∀a b c d:Bool,(andI (shrI (bit4 a b c d) 0) 1=1↔a=true)/\(andI (shrI (bit4 a b c d) 1) 1=1↔b=true)/\(andI (shrI (bit4 a b c d) 2) 1=1↔c=true)/\(andI (shrI (bit4 a b c d) 3) 1=1↔d=true):=by decide
theorem at_bit(p:Nat->Bool){v:Int}(h:inR v 0 3=true):andI (shrI (Zbo p) v) 1=1↔p v.toNat=true:=by
 have q:=and_d (p 0) (p 1) (p 2) (p 3);rcases in4 h with rfl|rfl|rfl|rfl<;>simp[Zbo,q]
theorem and4:∀a b c d a' b' c' d':Bool,andI (bit4 a b c d) (bit4 a' b' c' d')=bit4 (a && a') (b && b') (c && c') (d && d'):=by decide
theorem and_bits(p q:Nat->Bool):andI (Zbo p) (Zbo q)=Zbo (λu=>p u && q u):=and4 _ _ _ _ _ _ _ _
theorem zero4:∀a b c d:Bool,bit4 a b c d=0↔(a=false/\b=false/\c=false/\d=false):=by decide
theorem Zcc9(p:Nat->Bool):Zbo p=0↔∀u,u<4->p u=false:=by
 rw[Zbo,zero4];constructor
 .rintro⟨h0,h1,h2,h3⟩ u hu
  match u,hu with
  |0,_=>exact h0
  |1,_=>exact h1
  |2,_=>exact h2
  |3,_=>exact h3
 .intro h;exact⟨h 0 (by omega),h 1 (by omega),h 2 (by omega),h 3 (by omega)⟩
def Zb4{α:Type}(p:α->Bool):List α->Nat->Int
 |[],_=>-1
 |x::xs,i=>if p x=true then i else Zb4 p xs (i+1)
theorem Zs6{α:Type}(p:α->Bool){xs:List α}{i:Nat}(h:i<xs.length):Zb4 p (xs.drop i) i=if p xs[i]=true then(i:Int)else Zb4 p (xs.drop (i+1)) (i+1):=by
 rw[Yd h,Zb4]
theorem Z0j{α:Type}(p:α->Bool)(xs:List α):∀i,xs.any p=false->Zb4 p xs i=-1:=by
 induction xs with
 |nil=>intro i _;rfl
 |cons x xs ih=>intro i h;simp at h;simp[Zb4,h];apply ih;simp;exact h.2
theorem Z0k{α:Type}(p:α->Bool)(xs:List α):∀i,xs.any p=true->0<=Zb4 p xs i:=by
 induction xs with
 |nil=>intro i h;simp at h
 |cons x xs ih =>
  intro i h;unfold Zb4;split
  .omega
  .rename_i hx;simp only[Yck,hx,Y7]at h;exact ih _ h
def nmOk(s:ByteArray):Bool:=match s[0]? with
 |some b=>decide (s.size=1) && decide (97<=(b.toNat:Int)) && decide ((b.toNat:Int)<=122)
 |none=>false
theorem get0{s:ByteArray}(h:s.size=1):∃b,s[0]?=some b:=⟨s[0],getElem?_pos s 0 (by omega)⟩
def Zem(n:Int)(c:List Int):List Int->Bool
 |[]=>true
 |v::rest=>inR v 0 (n-1) && !has c v && Zem n (c++[v]) rest
theorem Zbo1(n:Int){vs:List Int}{k:Nat}(h:k<vs.length):Zem n (vs.take k) (vs.drop k)=(inR vs[k] 0 (n-1) && !has (vs.take k) vs[k] && Zem n (vs.take (k+1)) (vs.drop (k+1))):=by
 conv=>lhs;rw[Yd h,Zem]
 rw[List.take_add_one,Yj h];rfl
theorem Z0l{n:Int}:∀{vs c:List Int},Zem n c vs=true->∀v∈vs,inR v 0 (n-1)=true
 |[],_,_,v,hv=>by cases hv
 |x::xs,c,h,v,hv=>by
  simp only[Zem,Yc]at h
  cases hv with
  |head=>exact h.1.1
  |tail _ hv=>exact Z0l h.2 v hv
def Zcg(n:Int)(a:Atom):Bool:=nmOk a.Name && inR a.Vars.length 1 3 && Zem n [] a.Vars
def addA(p:Nat->Bool)(qa:List Atom):Nat->Bool:=λu=>p u || qa.any λa=>has a.Vars u
theorem Zbo2(p:Nat->Bool){qa:List Atom}{i:Nat}(h:i<qa.length):addA p (qa.drop i)=addA (addV p qa[i].Vars) (qa.drop (i+1)):=by
 rw[Yd h];funext u;simp only[addA,Yck,addV,Bool.or_assoc]
def Z6(n:Int)(qa:List Atom):Bool :=
 inR n 1 4 && inR qa.length 1 4 && qa.all (Zcg n) && (List.range n.toNat).all (addA (λ_=>false) qa)
def bl(p:Nat->Bool)(n:Nat):List (List T):=(List.range n).map λu=>[T.bool (p u)]
@[simp] theorem bl_get(p:Nat->Bool)(n i:Nat)(h:i<(bl p n).length):(bl p n)[i]=[T.bool (p i)]:=by simp[bl]
theorem bl_any(p:Nat->Bool)(n:Nat):((List.range n).map p).any (λx=>false == x)=!(List.range n).all p:=by
 rw[List.any_map,Ycn];simp
theorem Z0m:∀a b c d:Bool,(bit4 a b c d=1↔(a=true/\b=false/\c=false/\d=false))/\(bit4 a b c d=3↔(a=true/\b=true/\c=false/\d=false))/\(bit4 a b c d=7↔(a=true/\b=true/\c=true/\d=false))/\(bit4 a b c d=15↔(a=true/\b=true/\c=true/\d=true)):=by decide
theorem all_in{n:Int}{qa:List Atom}(h:qa.all (Zcg n)=true):∀u:Int,n<=u->qa.any (λa=>has a.Vars u)=false:=by
 intro u hu;rw[Ydn];intro a ha hc;rw[Zij]at hc;have:=Yn.1 h a ha;simp only[Zcg,Yc]at this;have:=Z0l this.2 _ hc;simp[inR]at this;omega
def Zbm(n:Int)(qa:List Atom):Int:=if Z6 n qa=true then shlI 1 qa.length-1 else 0
theorem Zj7{n:Int}{qa:List Atom}(h:Z6 n qa=true):(qa.length=1\/qa.length=2\/qa.length=3\/qa.length=4)/\shlI 1 qa.length=2 ^ qa.length/\IntKind.wrap .i64 (shlI 1 qa.length-1)=shlI 1 qa.length-1/\IntKind.wrap .i64 (shlI 1 qa.length-1+1)=shlI 1 qa.length-1+1:=by
 simp only[Z6,Yc]at h;have h2:=h.1.1.2;simp[inR]at h2;have h3:qa.length=1\/qa.length=2\/qa.length=3\/qa.length=4:=by omega
 refine⟨h3,?_⟩;rcases h3 with h3|h3|h3|h3<;>rw[h3]<;>decide
def Zx(m:Int)(i:Nat):Bool:=decide (andI (shrI m i) 1=1)
def hasV(m:Int):List Atom->Nat->Int->Bool
 |[],_,_=>false
 |a::as',i,u=>(Zx m i && has a.Vars u) || hasV m as' (i+1) u
theorem Z8r(m:Int){qa:List Atom}{i:Nat}(h:i<qa.length)(u:Int):hasV m (qa.drop i) i u=((Zx m i && has qa[i].Vars u) || hasV m (qa.drop (i+1)) (i+1) u):=by
 rw[Yd h,hasV]
def pV(m:Int)(qa:List Atom):Nat->Bool:=λu=>hasV m qa 0 u
def Var4(qa:List Atom):Prop:=∀a∈qa,∀v∈a.Vars,inR v 0 3=true
theorem Zbo3{n:Int}{qa:List Atom}(h:Z6 n qa=true):∀a∈qa,∀v∈a.Vars,inR v 0 (n-1)=true:=by
 intro a ha v hv;simp only[Z6,Yc]at h;have:=Yn.1 h.1.2 a ha;simp only[Zcg,Yc]at this;exact Z0l this.2 v hv
theorem Zl5{n:Int}{qa:List Atom}(h:Z6 n qa=true):1<=n/\n<=4:=by
 simp only[Z6,Yc]at h;have:=h.1.1.1;simpa[inR]using this
theorem Zen{n:Int}{qa:List Atom}(h:Z6 n qa=true):1<=qa.length/\qa.length<=4:=by
 simp only[Z6,Yc]at h;have:=h.1.1.2;simp[inR]at this;omega
theorem Zcda{n:Int}{qa:List Atom}(h:Z6 n qa=true):∀a∈qa,1<=a.Vars.length/\a.Vars.length<=3:=by
 intro a ha;simp only[Z6,Yc]at h;have:=Yn.1 h.1.2 a ha;simp only[Zcg,Yc]at this;have:=this.1.2;simp[inR]at this;omega
theorem Zs7{n:Int}{qa:List Atom}(h:Z6 n qa=true):Var4 qa:=by
 intro a ha v hv;have:=Zbo3 h a ha v hv;have h2:=Zl5 h;simp[inR]at this|-;omega
def addM(m:Int)(p:Nat->Bool)(qa:List Atom)(i:Nat):Nat->Bool:=λu=>p u || hasV m (qa.drop i) i u
theorem Zcdb(m:Int)(p:Nat->Bool){qa:List Atom}{i:Nat}(h:i<qa.length):addM m p qa i=addM m (if Zx m i=true then addV p qa[i].Vars else p) qa (i+1):=by
 funext u;rw[addM,Z8r _ h];rcases tf (Zx m i)with e|e<;>simp[addM,addV,e,Bool.or_assoc]
def varL(m:Int)(qa:List Atom)(k:Nat):List Int:=((List.range k).filter (pV m qa)).map λu:Nat=>(u:Int)
theorem Zcdc(m:Int)(qa:List Atom)(k:Nat):varL m qa (k+1)=varL m qa k++if hasV m qa 0 k=true then[(k:Int)]else[]:=by
 unfold varL;rw[Ybs,Ycz,Y0];rcases tf (hasV m qa 0 k)with e|e<;>simp[pV,e]
theorem Z8s(m:Int)(qa:List Atom)(k:Nat):(varL m qa k).length<=k:=by
 unfold varL;simp;exact Y2 (Ycs _ _) (by simp)
theorem Zbo4{α:Type}(p:α->Bool){xs:List α}{i:Nat}(h:i<xs.length):(xs.take (i+1)).filter p=(xs.take i).filter p++if p xs[i]=true then[xs[i]]else[]:=by
 rw[List.take_add_one,Yj h,Ycz];rcases tf (p xs[i])with e|e<;>simp[e]
def vin(qa:List Atom)(m v:Int):Bool:=inR v 0 3 && pV m qa v.toNat
def shr(qa:List Atom)(a b:Int):Bool:=(List.range 4).any λu=>pV a qa u && pV b qa u
theorem pV_lt{n:Int}{qa:List Atom}(h:Z6 n qa=true){m:Int}{u:Nat}(hp:pV m qa u=true):(u:Int)<n:=by
 have:∀(l:List Atom) (i:Nat),(∀a∈l,a∈qa)->hasV m l i u=true->(u:Int)<n:=by
  intro l
  induction l with
  |nil=>intro i _ hh;simp[hasV]at hh
  |cons a l ih =>
   intro i hs hh;simp only[hasV,Bool.or_eq_true,Yc]at hh;rcases hh with hh|hh
   .have:=Zbo3 h a (hs a (by simp)) u (Zij.1 hh.2);simp[inR]at this;omega
   .exact ih (i+1) (λb hb=>hs b (by simp[hb])) hh
 exact this qa 0 (λa ha=>ha) hp
theorem Zbo5{n:Int}{qa:List Atom}(h:Z6 n qa=true)(m v:Int):has (varL m qa n.toNat) v=vin qa m v:=by
 have hn:=Zl5 h;rw[Ycn,Zij];simp only[varL,Yr,Ycj,Ybo,vin,Yc];constructor
 .rintro⟨u,⟨h1,h2⟩,rfl⟩;refine⟨by simp[inR];omega,by simpa using h2⟩
 .rintro⟨h1,h2⟩;have h3:=pV_lt h h2;simp[inR]at h1;exact⟨v.toNat,⟨by omega,h2⟩,by omega⟩
theorem Zbo6(qa:List Atom)(a b:Int):andI (Zbo (pV a qa)) (Zbo (pV b qa))=0↔shr qa a b=false:=by
 rw[and_bits,Zcc9,shr,Ydn];simp
theorem hd0{xs:List Int}(h:0<xs.length):xs.head?.getD 0=xs[0]:=by cases xs with|nil=>simp at h|cons x xs=>rfl
def cmpR:List Int->List Int->Int
 |[],[]=>0
 |[],_::_=>-1
 |_::_,[]=>1
 |a::x,b::y=>if a<b then -1 else if b<a then 1 else cmpR x y
def leR(a b:List Int):Bool:=decide (cmpR a b<=0)
def srtR(rows:List (List Int)):List (List Int):=rows.mergeSort leR
def cptR:List (List Int)->List (List Int)
 |[]=>[]
 |[a]=>[a]
 |a::b::l=>if a=b then cptR (b::l)else a::cptR (b::l)
def srtI(l:List Int):List Int:=l.mergeSort λx y=>decide (x<=y)
def cptI:List Int->List Int
 |[]=>[]
 |[a]=>[a]
 |a::b::l=>if a=b then cptI (b::l)else a::cptI (b::l)
def Zbo7(es:List (List T))(rows:List (List Int)):Prop:=es=rows.map isc/\rows.length<=4096/\∀r∈rows,r.length<=4
def Zbo8(es:List (List T))(l:List Int):Prop:=es=l.map ic/\l.length<=4096
open Classical in
def extS(es:List (List T))(k:List (List Int)->AV×List Blk):Option (AV×List Blk):=if h:∃rows,Zbo7 es rows then some (k h.choose)else none
open Classical in
def extI(es:List (List T))(k:List Int->AV×List Blk):Option (AV×List Blk):=if h:∃l,Zbo8 es l then some (k h.choose)else none
def ext:Z1:=λf xs h0=>match xs,h0 with
 |[.own 0,.fn 276 []],[.arr 56 1 fr es]=>if f=277 then extS es λrows=>(.tup [],[.arr 56 1 fr ((srtR rows).map isc)])else none
 |[.own 0,.fn 279 []],[.arr 56 1 fr es]=>if f=278 then extS es λrows=>(.own 1,[.dead,.arr 56 1 fr ((cptR rows).map isc)])else none
 |[.own 0],[.arr 3 1 fr es]=>if f=251 then extI es λl=>(.tup [],[.arr 3 1 fr ((srtI l).map ic)])else if f=252 then extI es λl=>(.own 1,[.dead,.arr 3 1 fr ((cptI l).map ic)])else none
 |_,_=>none
open Go.ChangeShapes Go.WideShapes Go.ChangeAt Go.RowKit
theorem own:ownKnob Tryz.prog.godebug=none:=by kernel_rfl
theorem laidOut:laidOutB Tryz.prog=true:=by kernel_rfl
def tbl:Nat->Option MFun:=λf=>if f=277\/f=251 then none else tblOf Tryz.prog [4000003,4000004,4000005,4000006,2000010,2000011,2000018,3000020,3000021,3000022,2000025,3000027,2000035,2000036,2000037,2000038,2000039,3000052,3000053,3000054,3000055,3000056,2000072,2000073,2000074,2000075,2000076,3000094,3000095,6000105,2000113,2000114,2000115,7000119,3000138,3000139,142,6000143,6000146,8000152,6000153,2000158,2000159,6000171,189,6000192,6000194,9000196,6000197,7000197,6000198,6000199,8000199,2000202,8000209,7000212,8000215,6000216,6000218,6000234,6000235,6000236,6000238,7000238,9000242,6000242,7000242,251,252,254,6000255,6000256,8000256,6000265,277,278,282,6000284,6000285,6000287,7000287,9000290,6000290,7000290,302,6000313,6000314,321,323,325] f
def rawF(f:Nat)(fn:Func):Option MFun:=Zig Tryz.prog (inlOf [4000003,4000004,4000005,4000006,2000010,2000011,2000018,3000020,3000021,3000022,2000025,3000027,2000035,2000036,2000037,2000038,2000039,3000052,3000053,3000054,3000055,3000056,2000072,2000073,2000074,2000075,2000076,3000094,3000095,6000105,2000113,2000114,2000115,7000119,3000138,3000139,142,6000143,6000146,8000152,6000153,2000158,2000159,6000171,189,6000192,6000194,9000196,6000197,7000197,6000198,6000199,8000199,2000202,8000209,7000212,8000215,6000216,6000218,6000234,6000235,6000236,6000238,7000238,9000242,6000242,7000242,251,252,254,6000255,6000256,8000256,6000265,277,278,282,6000284,6000285,6000287,7000287,9000290,6000290,7000290,302,6000313,6000314,321,323,325] f) (Zs4 fn) fn
theorem tbl_ok:TblOK Tryz.prog tbl:=by
 intro f m h;unfold tbl at h;split at h
 .cases h
 .exact tblOK _ _ f m h
theorem Zb{f:Nat}{fn:Func}{m:MFun}(hf:Tryz.prog.funcs[f]?=some fn)(hc:Zgu Tryz.prog f=true:=by kernel_rfl)(h:Zig Tryz.prog (inlOf [4000003,4000004,4000005,4000006,2000010,2000011,2000018,3000020,3000021,3000022,2000025,3000027,2000035,2000036,2000037,2000038,2000039,3000052,3000053,3000054,3000055,3000056,2000072,2000073,2000074,2000075,2000076,3000094,3000095,6000105,2000113,2000114,2000115,7000119,3000138,3000139,142,6000143,6000146,8000152,6000153,2000158,2000159,6000171,189,6000192,6000194,9000196,6000197,7000197,6000198,6000199,8000199,2000202,8000209,7000212,8000215,6000216,6000218,6000234,6000235,6000236,6000238,7000238,9000242,6000242,7000242,251,252,254,6000255,6000256,8000256,6000265,277,278,282,6000284,6000285,6000287,7000287,9000290,6000290,7000290,302,6000313,6000314,321,323,325] f) (Zs4 fn) fn=some m:=by kernel_rfl)(hne:¬(f=277\/f=251):=by decide):tbl f=some m:=by
 unfold tbl;rw[if_neg hne];exact tblOf_eq hf hc h
def C:Z1:=Zb3 ext tbl
theorem run{f:Nat}{xs:List AV}{m:MFun}(ht:tbl f=some m)(hl:xs.length=m.np){r:AV×List Blk}(h:Ev C [.fin 0 m.res] m.body ⟨Zgt xs 0,[[]],[]⟩=some r):C f xs []=some r:=Zbob (h0:=[]) ht hl h
theorem runM{f:Nat}{xs:List AV}{h0:List Blk}{m:MFun}(ht:tbl f=some m)(hl:xs.length=m.np){r:AV×List Blk}(h:Ev C [.fin h0.length m.res] m.body ⟨Zgt xs 0,[Zf6 h0 0],h0⟩=some r):C f xs h0=some r:=Zbob ht hl h
abbrev Zcdd:Nat:=6
abbrev Zcde:Nat:=7
abbrev Zcdf:Nat:=8
abbrev Zcdg:Nat:=10
abbrev Zcdh:Nat:=11
abbrev Zcdi:Nat:=13
abbrev Zcdj:Nat:=14
abbrev Zbo9:Nat:=19
abbrev Zcdk:Nat:=20
abbrev Zcdl:Nat:=21
abbrev Zs8:Nat:=22
abbrev Zbpa:Nat:=23
abbrev Zbpb:Nat:=26
abbrev Zbpc:Nat:=27
abbrev Zbpd:Nat:=28
abbrev Zcdm:Nat:=29
abbrev Zcdn:Nat:=30
abbrev Zcdo:Nat:=31
abbrev Zcdp:Nat:=32
abbrev Zcdq:Nat:=33
abbrev Zcdr:Nat:=35
abbrev Zcds:Nat:=36
abbrev Zcdt:Nat:=37
abbrev Zcdu:Nat:=38
abbrev Zcdv:Nat:=39
abbrev Zcdw:Nat:=42
abbrev Zcdx:Nat:=43
abbrev Zcdy:Nat:=44
abbrev Zcdz:Nat:=45
abbrev Zcd0:Nat:=46
abbrev Zcd1:Nat:=52
abbrev Zcd2:Nat:=53
abbrev Zcd3:Nat:=54
abbrev Zcd4:Nat:=55
abbrev Zcd5:Nat:=56
abbrev Zcd6:Nat:=62
abbrev Zcd7:Nat:=63
abbrev Zcd8:Nat:=64
abbrev Zcd9:Nat:=65
abbrev Zcea:Nat:=66
abbrev Zceb:Nat:=72
abbrev Zcec:Nat:=73
abbrev Zced:Nat:=74
abbrev Zcee:Nat:=75
abbrev Zcef:Nat:=76
abbrev Zceg:Nat:=81
abbrev Zceh:Nat:=82
abbrev Zcei:Nat:=83
abbrev Zcej:Nat:=84
abbrev Zcek:Nat:=85
abbrev Zcel:Nat:=94
abbrev Zcem:Nat:=95
abbrev Z8t:Nat:=96
abbrev Zcen:Nat:=102
abbrev Zceo:Nat:=103
abbrev Zcep:Nat:=104
abbrev Zceq:Nat:=113
abbrev Zcer:Nat:=114
abbrev Zces:Nat:=115
abbrev Zcet:Nat:=125
abbrev Zceu:Nat:=126
abbrev Z0n:Nat:=138
abbrev Z0o:Nat:=139
abbrev Zcev:Nat:=144
abbrev Zcew:Nat:=145
abbrev Zcex:Nat:=158
abbrev Zcey:Nat:=159
abbrev Zcez:Nat:=177
abbrev Zce0:Nat:=178
abbrev Zce1:Nat:=193
abbrev Zce2:Nat:=202
abbrev Zce3:Nat:=222
abbrev Zbc:Nat:=3
abbrev t_bool:Nat:=4
abbrev Zs9:Nat:=56
abbrev Z0p:Nat:=112
abbrev Z0q:Nat:=114
abbrev Z0r:Nat:=116
abbrev Zta:Nat:=141
abbrev Ztb:Nat:=153
abbrev Z0s:Nat:=200
end
end Go.Proofs.YtnnjbejcffjgfaaGreat
