/-
  Parts of the proofs for this seat: TY TX PW EX H.
-/
import Derived.Test.YtnnjbejcffjgfaaGreatRows
import Derived.Test.YtnnjbejcffjgfaaGreatP4
import Derived.Test.YtnnjbejcffjgfaaGreatP5
set_option linter.unusedSectionVars false
set_option linter.unusedSimpArgs false
set_option linter.unusedVariables false
set_option maxRecDepth 100000
set_option maxHeartbeats 4000000
namespace Go.Proofs.YtnnjbejcffjgfaaGreat
open Go.AM
noncomputable section
@[ext] structure Ze where
 Name:ByteArray
 Arity:Int
 Rows:List (List Int)
 deriving DecidableEq
def Ze.c(x:Ze):List T:=[.str x.Name,.int .i64 x.Arity,tII x.Rows]
@[simp] theorem Ze.c_def(x:Ze):x.c=[.str x.Name,.int .i64 x.Arity,tII x.Rows]:=rfl
abbrev Ze.Zq(x:Ze):Prop:=SsA x.Name/\SmL SmA x.Rows
abbrev Ze.okay(x:Ze):Prop:=OkS x.Name/\OkI x.Arity/\OkL (OkL OkI) x.Rows
theorem Ze.dec(ts:List T)(h:HasShs [.str,.int .i64,.slice [.slice [.int .i64]]] ts):∃x:Ze,ts=x.c/\x.okay:=by
 obtain⟨t0,us0,rfl,g0,h0⟩:=Zbt h;obtain⟨t1,us1,rfl,g1,h1⟩:=Zbt h0;obtain⟨t2,us2,rfl,g2,h2⟩:=Zbt h1;cases Zhl h2;obtain⟨x0,rfl,o0⟩:=Zoz g0;obtain⟨x1,rfl,o1⟩:=Zhc g1;obtain⟨x2,rfl,o2⟩:=Zbpd g2;exact⟨⟨x0,x1,x2⟩,rfl,o0,o1,o2⟩
def Ze.sz(x:Ze)(l:Int):Int:=Zz (sz1 x.Name.size l) λl=>Zz (szL szI x.Rows l) λl=>l
theorem Ze.sz_ok(x:Ze)(l:Int)(hx:x.okay)(h0:0<=l)(h1:l<=1048576)(h:0<=x.sz l):x.sz l<=l/\x.Zq:=by
 unfold Ze.sz at h|-;simp only[Zz]at h|-;split at h
 .omega
 rename_i q0;rw[if_neg q0];have s0:=Zfl hx.1 h0 h1 (Ym.1 q0);split at h
 .omega
 rename_i q1;rw[if_neg q1];have s1:=Zj7 (f:=szI) (p:=λy:List Int=>SmA y) hx.2.2.1 (λy hy l a b c=>Zfl (hx.2.2.2 y hy).1 a b c) (by omega) (by omega) (Ym.1 q1);exact⟨by omega,s0.2,s1.2⟩
@[ext] structure Zi where
 Tables:List Ze
 deriving DecidableEq
def Zi.c(x:Zi):List T:=[.lst 3 (x.Tables.map Ze.c)]
@[simp] theorem Zi.c_def(x:Zi):x.c=[.lst 3 (x.Tables.map Ze.c)]:=rfl
abbrev Zi.Zq(x:Zi):Prop:=SmL Ze.Zq x.Tables
abbrev Zi.okay(x:Zi):Prop:=OkL Ze.okay x.Tables
def Zi.sz(x:Zi)(l:Int):Int:=Zz (szL Ze.sz x.Tables l) λl=>l
theorem Zi.sz_ok(x:Zi)(l:Int)(hx:x.okay)(h0:0<=l)(h1:l<=1048576)(h:0<=x.sz l):x.sz l<=l/\x.Zq:=by
 unfold Zi.sz at h|-;simp only[Zz]at h|-;split at h
 .omega
 rename_i q0;rw[if_neg q0];have s0:=Zj7 (p:=Ze.Zq) hx.1 (λy hy l a b c=>Ze.sz_ok y l (hx.2 y hy) a b c) h0 h1 (Ym.1 q0);exact⟨by omega,s0.2⟩
@[ext] structure Atom where
 Name:ByteArray
 Vars:List Int
 deriving DecidableEq
def Atom.c(x:Atom):List T:=[.str x.Name,tI x.Vars]
@[simp] theorem Atom.c_def(x:Atom):x.c=[.str x.Name,tI x.Vars]:=rfl
abbrev Atom.Zq(x:Atom):Prop:=SsA x.Name/\SmA x.Vars
abbrev Atom.okay(x:Atom):Prop:=OkS x.Name/\OkL OkI x.Vars
theorem Atom.dec(ts:List T)(h:HasShs [.str,.slice [.int .i64]] ts):∃x:Atom,ts=x.c/\x.okay:=by
 obtain⟨t0,us0,rfl,g0,h0⟩:=Zbt h;obtain⟨t1,us1,rfl,g1,h1⟩:=Zbt h0;cases Zhl h1;obtain⟨x0,rfl,o0⟩:=Zoz g0;obtain⟨x1,rfl,o1⟩:=Ztb g1;exact⟨⟨x0,x1⟩,rfl,o0,o1⟩
def Atom.sz(x:Atom)(l:Int):Int:=Zz (sz1 x.Name.size l) λl=>Zz (sz1 x.Vars.length l) λl=>l
theorem Atom.sz_ok(x:Atom)(l:Int)(hx:x.okay)(h0:0<=l)(h1:l<=1048576)(h:0<=x.sz l):x.sz l<=l/\x.Zq:=by
 unfold Atom.sz at h|-;simp only[Zz]at h|-;split at h
 .omega
 rename_i q0;rw[if_neg q0];have s0:=Zfl hx.1 h0 h1 (Ym.1 q0);split at h
 .omega
 rename_i q1;rw[if_neg q1];have s1:=Zfl hx.2.1 (by omega) (by omega) (Ym.1 q1);exact⟨by omega,s0.2,s1.2⟩
@[ext] structure Zb where
 Zp:Int
 Atoms:List Atom
 deriving DecidableEq
def Zb.c(x:Zb):List T:=[.int .i64 x.Zp,.lst 2 (x.Atoms.map Atom.c)]
@[simp] theorem Zb.c_def(x:Zb):x.c=[.int .i64 x.Zp,.lst 2 (x.Atoms.map Atom.c)]:=rfl
abbrev Zb.Zq(x:Zb):Prop:=SmL Atom.Zq x.Atoms
abbrev Zb.okay(x:Zb):Prop:=OkI x.Zp/\OkL Atom.okay x.Atoms
theorem Zb.dec(ts:List T)(h:HasShs [.int .i64,.slice [.str,.slice [.int .i64]]] ts):∃x:Zb,ts=x.c/\x.okay:=by
 obtain⟨t0,us0,rfl,g0,h0⟩:=Zbt h;obtain⟨t1,us1,rfl,g1,h1⟩:=Zbt h0;cases Zhl h1;obtain⟨x0,rfl,o0⟩:=Zhc g0;obtain⟨x1,rfl,o1⟩:=Zj8 Atom.dec g1;exact⟨⟨x0,x1⟩,rfl,o0,o1⟩
def Zb.sz(x:Zb)(l:Int):Int:=Zz (szL Atom.sz x.Atoms l) λl=>l
theorem Zb.sz_ok(x:Zb)(l:Int)(hx:x.okay)(h0:0<=l)(h1:l<=1048576)(h:0<=x.sz l):x.sz l<=l/\x.Zq:=by
 unfold Zb.sz at h|-;simp only[Zz]at h|-;split at h
 .omega
 rename_i q0;rw[if_neg q0];have s0:=Zj7 (p:=Atom.Zq) hx.2.1 (λy hy l a b c=>Atom.sz_ok y l (hx.2.2 y hy) a b c) h0 h1 (Ym.1 q0);exact⟨by omega,s0.2⟩
@[ext] structure Zk where
 Name:ByteArray
 From:List Int
 To:Int
 deriving DecidableEq
def Zk.c(x:Zk):List T:=[.str x.Name,tI x.From,.int .i64 x.To]
@[simp] theorem Zk.c_def(x:Zk):x.c=[.str x.Name,tI x.From,.int .i64 x.To]:=rfl
abbrev Zk.Zq(x:Zk):Prop:=SsA x.Name/\SmA x.From
abbrev Zk.okay(x:Zk):Prop:=OkS x.Name/\OkL OkI x.From/\OkI x.To
theorem Zk.dec(ts:List T)(h:HasShs [.str,.slice [.int .i64],.int .i64] ts):∃x:Zk,ts=x.c/\x.okay:=by
 obtain⟨t0,us0,rfl,g0,h0⟩:=Zbt h;obtain⟨t1,us1,rfl,g1,h1⟩:=Zbt h0;obtain⟨t2,us2,rfl,g2,h2⟩:=Zbt h1;cases Zhl h2;obtain⟨x0,rfl,o0⟩:=Zoz g0;obtain⟨x1,rfl,o1⟩:=Ztb g1;obtain⟨x2,rfl,o2⟩:=Zhc g2;exact⟨⟨x0,x1,x2⟩,rfl,o0,o1,o2⟩
def Zk.sz(x:Zk)(l:Int):Int:=Zz (sz1 x.Name.size l) λl=>Zz (sz1 x.From.length l) λl=>l
theorem Zk.sz_ok(x:Zk)(l:Int)(hx:x.okay)(h0:0<=l)(h1:l<=1048576)(h:0<=x.sz l):x.sz l<=l/\x.Zq:=by
 unfold Zk.sz at h|-;simp only[Zz]at h|-;split at h
 .omega
 rename_i q0;rw[if_neg q0];have s0:=Zfl hx.1 h0 h1 (Ym.1 q0);split at h
 .omega
 rename_i q1;rw[if_neg q1];have s1:=Zfl hx.2.1.1 (by omega) (by omega) (Ym.1 q1);exact⟨by omega,s0.2,s1.2⟩
@[ext] structure Zj where
 Name:ByteArray
 Column:Int
 Into:ByteArray
 IntoColumn:Int
 deriving DecidableEq
def Zj.c(x:Zj):List T:=[.str x.Name,.int .i64 x.Column,.str x.Into,.int .i64 x.IntoColumn]
@[simp] theorem Zj.c_def(x:Zj):x.c=[.str x.Name,.int .i64 x.Column,.str x.Into,.int .i64 x.IntoColumn]:=rfl
abbrev Zj.Zq(x:Zj):Prop:=SsA x.Name/\SsA x.Into
abbrev Zj.okay(x:Zj):Prop:=OkS x.Name/\OkI x.Column/\OkS x.Into/\OkI x.IntoColumn
theorem Zj.dec(ts:List T)(h:HasShs [.str,.int .i64,.str,.int .i64] ts):∃x:Zj,ts=x.c/\x.okay:=by
 obtain⟨t0,us0,rfl,g0,h0⟩:=Zbt h;obtain⟨t1,us1,rfl,g1,h1⟩:=Zbt h0;obtain⟨t2,us2,rfl,g2,h2⟩:=Zbt h1;obtain⟨t3,us3,rfl,g3,h3⟩:=Zbt h2;cases Zhl h3;obtain⟨x0,rfl,o0⟩:=Zoz g0;obtain⟨x1,rfl,o1⟩:=Zhc g1;obtain⟨x2,rfl,o2⟩:=Zoz g2;obtain⟨x3,rfl,o3⟩:=Zhc g3;exact⟨⟨x0,x1,x2,x3⟩,rfl,o0,o1,o2,o3⟩
def Zj.sz(x:Zj)(l:Int):Int:=Zz (sz1 x.Name.size l) λl=>Zz (sz1 x.Into.size l) λl=>l
theorem Zj.sz_ok(x:Zj)(l:Int)(hx:x.okay)(h0:0<=l)(h1:l<=1048576)(h:0<=x.sz l):x.sz l<=l/\x.Zq:=by
 unfold Zj.sz at h|-;simp only[Zz]at h|-;split at h
 .omega
 rename_i q0;rw[if_neg q0];have s0:=Zfl hx.1 h0 h1 (Ym.1 q0);split at h
 .omega
 rename_i q1;rw[if_neg q1];have s1:=Zfl hx.2.2.1 (by omega) (by omega) (Ym.1 q1);exact⟨by omega,s0.2,s1.2⟩
@[ext] structure Zh where
 Columns:List Int
 Values:List (List Int)
 Counts:List Int
 deriving DecidableEq
def Zh.c(x:Zh):List T:=[tI x.Columns,tII x.Values,tI x.Counts]
@[simp] theorem Zh.c_def(x:Zh):x.c=[tI x.Columns,tII x.Values,tI x.Counts]:=rfl
abbrev Zh.Zq(x:Zh):Prop:=SmA x.Columns/\SmL SmA x.Values/\SmA x.Counts
abbrev Zh.okay(x:Zh):Prop:=OkL OkI x.Columns/\OkL (OkL OkI) x.Values/\OkL OkI x.Counts
theorem Zh.dec(ts:List T)(h:HasShs [.slice [.int .i64],.slice [.slice [.int .i64]],.slice [.int .i64]] ts):∃x:Zh,ts=x.c/\x.okay:=by
 obtain⟨t0,us0,rfl,g0,h0⟩:=Zbt h;obtain⟨t1,us1,rfl,g1,h1⟩:=Zbt h0;obtain⟨t2,us2,rfl,g2,h2⟩:=Zbt h1;cases Zhl h2;obtain⟨x0,rfl,o0⟩:=Ztb g0;obtain⟨x1,rfl,o1⟩:=Zbpd g1;obtain⟨x2,rfl,o2⟩:=Ztb g2;exact⟨⟨x0,x1,x2⟩,rfl,o0,o1,o2⟩
def Zh.sz(x:Zh)(l:Int):Int:=Zz (sz1 x.Columns.length l) λl=>Zz (szL szI x.Values l) λl=>Zz (sz1 x.Counts.length l) λl=>l
theorem Zh.sz_ok(x:Zh)(l:Int)(hx:x.okay)(h0:0<=l)(h1:l<=1048576)(h:0<=x.sz l):x.sz l<=l/\x.Zq:=by
 unfold Zh.sz at h|-;simp only[Zz]at h|-;split at h
 .omega
 rename_i q0;rw[if_neg q0];have s0:=Zfl hx.1.1 h0 h1 (Ym.1 q0);split at h
 .omega
 rename_i q1;rw[if_neg q1];have s1:=Zj7 (f:=szI) (p:=λy:List Int=>SmA y) hx.2.1.1 (λy hy l a b c=>Zfl (hx.2.1.2 y hy).1 a b c) (by omega) (by omega) (Ym.1 q1);split at h
 .omega
 rename_i q2;rw[if_neg q2];have s2:=Zfl hx.2.2.1 (by omega) (by omega) (Ym.1 q2);exact⟨by omega,s0.2,s1.2,s2.2⟩
@[ext] structure Zg where
 Name:ByteArray
 Arity:Int
 RowCount:Int
 Groups:List Zh
 deriving DecidableEq
def Zg.c(x:Zg):List T:=[.str x.Name,.int .i64 x.Arity,.int .i64 x.RowCount,.lst 3 (x.Groups.map Zh.c)]
@[simp] theorem Zg.c_def(x:Zg):x.c=[.str x.Name,.int .i64 x.Arity,.int .i64 x.RowCount,.lst 3 (x.Groups.map Zh.c)]:=rfl
abbrev Zg.Zq(x:Zg):Prop:=SsA x.Name/\SmL Zh.Zq x.Groups
abbrev Zg.okay(x:Zg):Prop:=OkS x.Name/\OkI x.Arity/\OkI x.RowCount/\OkL Zh.okay x.Groups
theorem Zg.dec(ts:List T)(h:HasShs [.str,.int .i64,.int .i64,.slice [.slice [.int .i64],.slice [.slice [.int .i64]],.slice [.int .i64]]] ts):∃x:Zg,ts=x.c/\x.okay:=by
 obtain⟨t0,us0,rfl,g0,h0⟩:=Zbt h;obtain⟨t1,us1,rfl,g1,h1⟩:=Zbt h0;obtain⟨t2,us2,rfl,g2,h2⟩:=Zbt h1;obtain⟨t3,us3,rfl,g3,h3⟩:=Zbt h2;cases Zhl h3;obtain⟨x0,rfl,o0⟩:=Zoz g0;obtain⟨x1,rfl,o1⟩:=Zhc g1;obtain⟨x2,rfl,o2⟩:=Zhc g2;obtain⟨x3,rfl,o3⟩:=Zj8 Zh.dec g3;exact⟨⟨x0,x1,x2,x3⟩,rfl,o0,o1,o2,o3⟩
def Zg.sz(x:Zg)(l:Int):Int:=Zz (sz1 x.Name.size l) λl=>Zz (szL Zh.sz x.Groups l) λl=>l
theorem Zg.sz_ok(x:Zg)(l:Int)(hx:x.okay)(h0:0<=l)(h1:l<=1048576)(h:0<=x.sz l):x.sz l<=l/\x.Zq:=by
 unfold Zg.sz at h|-;simp only[Zz]at h|-;split at h
 .omega
 rename_i q0;rw[if_neg q0];have s0:=Zfl hx.1 h0 h1 (Ym.1 q0);split at h
 .omega
 rename_i q1;rw[if_neg q1];have s1:=Zj7 (p:=Zh.Zq) hx.2.2.2.1 (λy hy l a b c=>Zh.sz_ok y l (hx.2.2.2.2 y hy) a b c) (by omega) (by omega) (Ym.1 q1);exact⟨by omega,s0.2,s1.2⟩
@[ext] structure Zl where
 Version:Int
 Tables:List Zg
 deriving DecidableEq
def Zl.c(x:Zl):List T:=[.int .i64 x.Version,.lst 4 (x.Tables.map Zg.c)]
@[simp] theorem Zl.c_def(x:Zl):x.c=[.int .i64 x.Version,.lst 4 (x.Tables.map Zg.c)]:=rfl
abbrev Zl.Zq(x:Zl):Prop:=SmL Zg.Zq x.Tables
abbrev Zl.okay(x:Zl):Prop:=OkI x.Version/\OkL Zg.okay x.Tables
def Zl.sz(x:Zl)(l:Int):Int:=Zz (szL Zg.sz x.Tables l) λl=>l
theorem Zl.sz_ok(x:Zl)(l:Int)(hx:x.okay)(h0:0<=l)(h1:l<=1048576)(h:0<=x.sz l):x.sz l<=l/\x.Zq:=by
 unfold Zl.sz at h|-;simp only[Zz]at h|-;split at h
 .omega
 rename_i q0;rw[if_neg q0];have s0:=Zj7 (p:=Zg.Zq) hx.2.1 (λy hy l a b c=>Zg.sz_ok y l (hx.2.2 y hy) a b c) h0 h1 (Ym.1 q0);exact⟨by omega,s0.2⟩
@[ext] structure Zf where
 Zi:Zi
 Zl:Zl
 Dependencies:List Zk
 Inclusions:List Zj
 deriving DecidableEq
def Zf.c(x:Zf):List T:=[.lst 3 (x.Zi.Tables.map Ze.c),.int .i64 x.Zl.Version,.lst 4 (x.Zl.Tables.map Zg.c),.lst 3 (x.Dependencies.map Zk.c),.lst 4 (x.Inclusions.map Zj.c)]
@[simp] theorem Zf.c_def(x:Zf):x.c=[.lst 3 (x.Zi.Tables.map Ze.c),.int .i64 x.Zl.Version,.lst 4 (x.Zl.Tables.map Zg.c),.lst 3 (x.Dependencies.map Zk.c),.lst 4 (x.Inclusions.map Zj.c)]:=rfl
abbrev Zf.Zq(x:Zf):Prop:=SmL Ze.Zq x.Zi.Tables/\SmL Zg.Zq x.Zl.Tables/\SmL Zk.Zq x.Dependencies/\SmL Zj.Zq x.Inclusions
abbrev Zf.okay(x:Zf):Prop:=OkL Ze.okay x.Zi.Tables/\OkI x.Zl.Version/\OkL Zg.okay x.Zl.Tables/\OkL Zk.okay x.Dependencies/\OkL Zj.okay x.Inclusions
theorem Zf.dec(ts:List T)(h:HasShs [.slice [.str,.int .i64,.slice [.slice [.int .i64]]],.int .i64,.slice [.str,.int .i64,.int .i64,.slice [.slice [.int .i64],.slice [.slice [.int .i64]],.slice [.int .i64]]],.slice [.str,.slice [.int .i64],.int .i64],.slice [.str,.int .i64,.str,.int .i64]] ts):∃x:Zf,ts=x.c/\x.okay:=by
 obtain⟨t0,us0,rfl,g0,h0⟩:=Zbt h;obtain⟨t1,us1,rfl,g1,h1⟩:=Zbt h0;obtain⟨t2,us2,rfl,g2,h2⟩:=Zbt h1;obtain⟨t3,us3,rfl,g3,h3⟩:=Zbt h2;obtain⟨t4,us4,rfl,g4,h4⟩:=Zbt h3;cases Zhl h4;obtain⟨x0,rfl,o0⟩:=Zj8 Ze.dec g0;obtain⟨x1,rfl,o1⟩:=Zhc g1;obtain⟨x2,rfl,o2⟩:=Zj8 Zg.dec g2;obtain⟨x3,rfl,o3⟩:=Zj8 Zk.dec g3;obtain⟨x4,rfl,o4⟩:=Zj8 Zj.dec g4;exact⟨⟨⟨x0⟩,⟨x1,x2⟩,x3,x4⟩,rfl,o0,o1,o2,o3,o4⟩
def Zf.sz(x:Zf)(l:Int):Int:=Zz (Zi.sz x.Zi l) λl=>Zz (Zl.sz x.Zl l) λl=>Zz (szL Zk.sz x.Dependencies l) λl=>Zz (szL Zj.sz x.Inclusions l) λl=>l
theorem Zf.sz_ok(x:Zf)(l:Int)(hx:x.okay)(h0:0<=l)(h1:l<=1048576)(h:0<=x.sz l):x.sz l<=l/\x.Zq:=by
 unfold Zf.sz at h|-;simp only[Zz]at h|-;split at h
 .omega
 rename_i q0;rw[if_neg q0];have s0:=Zi.sz_ok x.Zi _ hx.1 h0 h1 (Ym.1 q0);split at h
 .omega
 rename_i q1;rw[if_neg q1];have s1:=Zl.sz_ok x.Zl _ ⟨hx.2.1,hx.2.2.1⟩ (by omega) (by omega) (Ym.1 q1);split at h
 .omega
 rename_i q2;rw[if_neg q2];have s2:=Zj7 (p:=Zk.Zq) hx.2.2.2.1.1 (λy hy l a b c=>Zk.sz_ok y l (hx.2.2.2.1.2 y hy) a b c) (by omega) (by omega) (Ym.1 q2);split at h
 .omega
 rename_i q3;rw[if_neg q3];have s3:=Zj7 (p:=Zj.Zq) hx.2.2.2.2.1 (λy hy l a b c=>Zj.sz_ok y l (hx.2.2.2.2.2 y hy) a b c) (by omega) (by omega) (Ym.1 q3);exact⟨by omega,s0.2,s1.2,s2.2,s3.2⟩
@[ext] structure Box where
 Low:List Int
 High:List Int
 deriving DecidableEq
def Box.c(x:Box):List T:=[tI x.Low,tI x.High]
@[simp] theorem Box.c_def(x:Box):x.c=[tI x.Low,tI x.High]:=rfl
abbrev Box.Zq(x:Box):Prop:=SmA x.Low/\SmA x.High
abbrev Box.okay(x:Box):Prop:=OkL OkI x.Low/\OkL OkI x.High
def Box.sz(x:Box)(l:Int):Int:=Zz (sz1 x.Low.length l) λl=>Zz (sz1 x.High.length l) λl=>l
@[simp] theorem Ze.map_inj(xs ys:List Ze):xs.map Ze.c=ys.map Ze.c↔xs=ys:=Zcf (by
 intro a b h;simp at h
 simp[Ze.ext_iff,h])
@[simp] theorem Zi.map_inj(xs ys:List Zi):xs.map Zi.c=ys.map Zi.c↔xs=ys:=Zcf (by
 intro a b h;simp at h
 simp[Zi.ext_iff,h])
@[simp] theorem Zh.map_inj(xs ys:List Zh):xs.map Zh.c=ys.map Zh.c↔xs=ys:=Zcf (by
 intro a b h;simp at h
 simp[Zh.ext_iff,h])
@[simp] theorem Zg.map_inj(xs ys:List Zg):xs.map Zg.c=ys.map Zg.c↔xs=ys:=Zcf (by
 intro a b h;simp at h
 simp[Zg.ext_iff,h])
@[simp] theorem Zl.map_inj(xs ys:List Zl):xs.map Zl.c=ys.map Zl.c↔xs=ys:=Zcf (by
 intro a b h;simp at h
 simp[Zl.ext_iff,h])
@[simp] theorem Zk.map_inj(xs ys:List Zk):xs.map Zk.c=ys.map Zk.c↔xs=ys:=Zcf (by
 intro a b h;simp at h
 simp[Zk.ext_iff,h])
@[simp] theorem Zj.map_inj(xs ys:List Zj):xs.map Zj.c=ys.map Zj.c↔xs=ys:=Zcf (by
 intro a b h;simp at h
 simp[Zj.ext_iff,h])
@[simp] theorem Zj.flat(xs:List Zj):(xs.map Zj.c).all (λx=>x.all Zbd)=true:=Zka (λ_=>rfl) xs
@[simp] theorem Zj.flat2(xs:List Zj):xs.all ((λx=>x.all Zbd) ∘ Zj.c)=true:=Zkb (λ_=>rfl) xs
@[simp] theorem Zf.map_inj(xs ys:List Zf):xs.map Zf.c=ys.map Zf.c↔xs=ys:=Zcf (by
 intro a b h;simp at h
 simp[Zf.ext_iff,Zi.ext_iff,Zl.ext_iff,h])
@[simp] theorem Atom.map_inj(xs ys:List Atom):xs.map Atom.c=ys.map Atom.c↔xs=ys:=Zcf (by
 intro a b h;simp at h
 simp[Atom.ext_iff,h])
@[simp] theorem Zb.map_inj(xs ys:List Zb):xs.map Zb.c=ys.map Zb.c↔xs=ys:=Zcf (by
 intro a b h;simp at h
 simp[Zb.ext_iff,h])
@[ext] structure Za where
 Num:Int
 Den:Int
 deriving DecidableEq
def Za.c(x:Za):List T:=[.int .i64 x.Num,.int .i64 x.Den]
@[simp] theorem Za.c_def(x:Za):x.c=[.int .i64 x.Num,.int .i64 x.Den]:=rfl
@[simp] theorem Za.map_inj(xs ys:List Za):xs.map Za.c=ys.map Za.c↔xs=ys:=Zcf (by
 intro a b h;simp at h
 simp[Za.ext_iff,h])
@[simp] theorem Za.flat(xs:List Za):(xs.map Za.c).all (λx=>x.all Zbd)=true:=Zka (λ_=>rfl) xs
@[simp] theorem Za.flat2(xs:List Za):xs.all ((λx=>x.all Zbd) ∘ Za.c)=true:=Zkb (λ_=>rfl) xs
@[simp] theorem lcR_inj(xs ys:List (List Za)):xs.map (lc 2 Za.c)=ys.map (lc 2 Za.c)↔xs=ys:=Zcf (by
 intro a b h
 simpa[lc]using h)
@[ext] structure Program where
 Objective:List Int
 Rows:List (List Int)
 Limits:List Int
 deriving DecidableEq
def Program.c(x:Program):List T:=[.lst 1 (x.Objective.map ic),.lst 1 (x.Rows.map isc),.lst 1 (x.Limits.map ic)]
@[simp] theorem Program.c_def(x:Program):x.c=[.lst 1 (x.Objective.map ic),.lst 1 (x.Rows.map isc),.lst 1 (x.Limits.map ic)]:=rfl
@[simp] theorem Program.map_inj(xs ys:List Program):xs.map Program.c=ys.map Program.c↔xs=ys:=Zcf (by
 intro a b h;simp at h
 simp[Program.ext_iff,h])
@[ext] structure Zn where
 Basic:List Int
 Free:List Int
 Cells:List (List Za)
 Limits:List Za
 Costs:List Za
 Value:Za
 deriving DecidableEq
def Zn.c(x:Zn):List T:=[.lst 1 (x.Basic.map ic),.lst 1 (x.Free.map ic),.lst 1 (x.Cells.map (lc 2 Za.c)),.lst 2 (x.Limits.map Za.c),.lst 2 (x.Costs.map Za.c),.int .i64 x.Value.Num,.int .i64 x.Value.Den]
@[simp] theorem Zn.c_def(x:Zn):x.c=[.lst 1 (x.Basic.map ic),.lst 1 (x.Free.map ic),.lst 1 (x.Cells.map (lc 2 Za.c)),.lst 2 (x.Limits.map Za.c),.lst 2 (x.Costs.map Za.c),.int .i64 x.Value.Num,.int .i64 x.Value.Den]:=rfl
@[simp] theorem Zn.map_inj(xs ys:List Zn):xs.map Zn.c=ys.map Zn.c↔xs=ys:=Zcf (by
 intro a b h;simp at h
 simp[Zn.ext_iff,Za.ext_iff,h])
@[ext] structure Zm where
 From:Int
 To:Int
 Bits:Int
 deriving DecidableEq
def Zm.c(x:Zm):List T:=[.int .i64 x.From,.int .i64 x.To,.int .i64 x.Bits]
@[simp] theorem Zm.c_def(x:Zm):x.c=[.int .i64 x.From,.int .i64 x.To,.int .i64 x.Bits]:=rfl
@[simp] theorem Zm.map_inj(xs ys:List Zm):xs.map Zm.c=ys.map Zm.c↔xs=ys:=Zcf (by
 intro a b h;simp at h
 simp[Zm.ext_iff,h])
@[simp] theorem Zm.flat(xs:List Zm):(xs.map Zm.c).all (λx=>x.all Zbd)=true:=Zka (λ_=>rfl) xs
@[simp] theorem Zm.flat2(xs:List Zm):xs.all ((λx=>x.all Zbd) ∘ Zm.c)=true:=Zkb (λ_=>rfl) xs
@[ext] structure Z4 where
 bad:Bool
 deriving DecidableEq
def Z4.c(x:Z4):List T:=[.bool x.bad]
@[simp] theorem Z4.c_def(x:Z4):x.c=[.bool x.bad]:=rfl
@[simp] theorem Z4.map_inj(xs ys:List Z4):xs.map Z4.c=ys.map Z4.c↔xs=ys:=Zcf (by
 intro a b h;simp at h
 simp[Z4.ext_iff,h])
@[simp] theorem Z4.flat(xs:List Z4):(xs.map Z4.c).all (λx=>x.all Zbd)=true:=Zka (λ_=>rfl) xs
@[simp] theorem Z4.flat2(xs:List Z4):xs.all ((λx=>x.all Zbd) ∘ Z4.c)=true:=Zkb (λ_=>rfl) xs
def inR(a b c:Int):Bool:=decide (b<=a/\a<=c)
def Zcl(c:Int):Int:=if c<0 then -1 else if c=0 then 0 else if c=1 then 1 else if c=2 then 4 else if c=3 then 16 else if c=4 then 64 else if c=5 then 256 else if c=6 then 1024 else if c=7 then 4096 else -1
theorem cls8{c:Int}(h:inR c 0 7=true):c=0\/c=1\/c=2\/c=3\/c=4\/c=5\/c=6\/c=7:=by
 simp[inR]at h;omega
theorem Zbpg{c:Int}(h:inR c 0 7=false):Zcl c=-1:=by
 simp[inR]at h;unfold Zcl;split
 .rfl
 .repeat' split
  all_goals omega
def Zcz(n:Int):Int:=if n<0 then -1 else if n<=0 then 0 else if n<=1 then 1 else if n<=4 then 2 else if n<=16 then 3 else if n<=64 then 4 else if n<=256 then 5 else if n<=1024 then 6 else if n<=4096 then 7 else -1
theorem Zbph{α:Type}(p:α->Bool){xs:List α}{i:Nat}(h:i<xs.length):(xs.drop i).all p=(p xs[i] && (xs.drop (i+1)).all p):=by
 rw[Yd h,Y5]
theorem drop_any{α:Type}(p:α->Bool){xs:List α}{i:Nat}(h:i<xs.length):(xs.drop i).any p=(p xs[i] || (xs.drop (i+1)).any p):=by
 rw[Yd h,Yck]
def domAll:List Int->List Int->Bool
 |x::xs,y::ys=>decide (y<=x) && domAll xs ys
 |_,_=>true
def dom(xs ys:List Int):Bool:=decide (xs.length=ys.length) && domAll xs ys
def bit4(a b c d:Bool):Int:=(if a then 1 else 0)+(if b then 2 else 0)+(if c then 4 else 0)+(if d then 8 else 0)
def Zbo(p:Nat->Bool):Int:=bit4 (p 0) (p 1) (p 2) (p 3)
theorem in4{v:Int}(h:inR v 0 3=true):v=0\/v=1\/v=2\/v=3:=by simp[inR]at h;omega
def has(xs:List Int)(v:Int):Bool:=xs.any (λx=>decide (v=x))
theorem Zim{xs:List Int}{v:Int}:has xs v=true↔v∈xs:=by
 simp only[has,List.any_eq_true,decide_eq_true_eq];exact⟨λ⟨x,h,e⟩=>e▸h,λh=>⟨v,h,rfl⟩⟩
def addV(p:Nat->Bool)(vs:List Int):Nat->Bool:=λu=>p u || has vs u
theorem Z8z(p:Nat->Bool):addV p []=p:=by funext u;simp[addV,has]
theorem Zcdw(p:Nat->Bool)(v:Int)(vs:List Int):addV (addV p [v]) vs=addV p (v::vs):=by funext u;simp[addV,has,Bool.or_assoc]
theorem Z80(p:Nat->Bool){vs:List Int}{i:Nat}(h:i<vs.length):addV p (vs.drop i)=addV (addV p [vs[i]]) (vs.drop (i+1)):=by
 rw[Yd h,Zcdw]
theorem or_d:∀a b c d:Bool,orI (bit4 a b c d) 1=bit4 true b c d/\orI (bit4 a b c d) 2=bit4 a true c d/\orI (bit4 a b c d) 4=bit4 a b true d/\orI (bit4 a b c d) 8=bit4 a b c true:=by decide
theorem Z0m(p:Nat->Bool){v:Int}(h:inR v 0 3=true):orI (Zbo p) (shlI 1 v)=Zbo (addV p [v]):=by
 have q:=or_d (p 0) (p 1) (p 2) (p 3);rcases in4 h with rfl|rfl|rfl|rfl<;>simp[addV,has,Zbo,shlI,Zw,q]
theorem and_d:∀a b c d:Bool,(andI (shrI (bit4 a b c d) 0) 1=1↔a=true)/\(andI (shrI (bit4 a b c d) 1) 1=1↔b=true)/\(andI (shrI (bit4 a b c d) 2) 1=1↔c=true)/\(andI (shrI (bit4 a b c d) 3) 1=1↔d=true):=by decide
theorem at_bit(p:Nat->Bool){v:Int}(h:inR v 0 3=true):andI (shrI (Zbo p) v) 1=1↔p v.toNat=true:=by
 have q:=and_d (p 0) (p 1) (p 2) (p 3);rcases in4 h with rfl|rfl|rfl|rfl<;>simp[Zbo,q]
theorem and4:∀a b c d a' b' c' d':Bool,andI (bit4 a b c d) (bit4 a' b' c' d')=bit4 (a && a') (b && b') (c && c') (d && d'):=by decide
theorem and_bits(p q:Nat->Bool):andI (Zbo p) (Zbo q)=Zbo (λu=>p u && q u):=and4 _ _ _ _ _ _ _ _
theorem zero4:∀a b c d:Bool,bit4 a b c d=0↔(a=false/\b=false/\c=false/\d=false):=by decide
theorem Zcdx(p:Nat->Bool):Zbo p=0↔∀u,u<4->p u=false:=by
 rw[Zbo,zero4];constructor
 .rintro⟨h0,h1,h2,h3⟩ u hu
  match u,hu with
  |0,_=>exact h0
  |1,_=>exact h1
  |2,_=>exact h2
  |3,_=>exact h3
 .intro h;exact⟨h 0 (by omega),h 1 (by omega),h 2 (by omega),h 3 (by omega)⟩
def Zb5{α:Type}(p:α->Bool):List α->Nat->Int
 |[],_=>-1
 |x::xs,i=>if p x=true then i else Zb5 p xs (i+1)
theorem Ztc{α:Type}(p:α->Bool){xs:List α}{i:Nat}(h:i<xs.length):Zb5 p (xs.drop i) i=if p xs[i]=true then(i:Int)else Zb5 p (xs.drop (i+1)) (i+1):=by
 rw[Yd h,Zb5]
theorem Z0n{α:Type}(p:α->Bool)(xs:List α):∀i,xs.any p=false->Zb5 p xs i=-1:=by
 induction xs with
 |nil=>intro i _;rfl
 |cons x xs ih=>intro i h;simp at h;simp[Zb5,h];apply ih;simp;exact h.2
theorem Z0o{α:Type}(p:α->Bool)(xs:List α):∀i,xs.any p=true->0<=Zb5 p xs i:=by
 induction xs with
 |nil=>intro i h;simp at h
 |cons x xs ih =>
  intro i h;unfold Zb5;split
  .omega
  .rename_i hx;simp only[Yck,hx,Y7]at h;exact ih _ h
def nmOk(s:ByteArray):Bool:=match s[0]? with
 |some b=>decide (s.size=1) && decide (97<=(b.toNat:Int)) && decide ((b.toNat:Int)<=122)
 |none=>false
theorem get0{s:ByteArray}(h:s.size=1):∃b,s[0]?=some b:=⟨s[0],getElem?_pos s 0 (by omega)⟩
def Zen(n:Int)(c:List Int):List Int->Bool
 |[]=>true
 |v::rest=>inR v 0 (n-1) && !has c v && Zen n (c++[v]) rest
theorem Zbpi(n:Int){vs:List Int}{k:Nat}(h:k<vs.length):Zen n (vs.take k) (vs.drop k)=(inR vs[k] 0 (n-1) && !has (vs.take k) vs[k] && Zen n (vs.take (k+1)) (vs.drop (k+1))):=by
 conv=>lhs;rw[Yd h,Zen]
 rw[List.take_add_one,Yj h];rfl
theorem Z0p{n:Int}:∀{vs c:List Int},Zen n c vs=true->∀v∈vs,inR v 0 (n-1)=true
 |[],_,_,v,hv=>by cases hv
 |x::xs,c,h,v,hv=>by
  simp only[Zen,Yc]at h
  cases hv with
  |head=>exact h.1.1
  |tail _ hv=>exact Z0p h.2 v hv
def Zcg(n:Int)(a:Atom):Bool:=nmOk a.Name && inR a.Vars.length 1 3 && Zen n [] a.Vars
def addA(p:Nat->Bool)(qa:List Atom):Nat->Bool:=λu=>p u || qa.any λa=>has a.Vars u
theorem Zbpj(p:Nat->Bool){qa:List Atom}{i:Nat}(h:i<qa.length):addA p (qa.drop i)=addA (addV p qa[i].Vars) (qa.drop (i+1)):=by
 rw[Yd h];funext u;simp only[addA,Yck,addV,Bool.or_assoc]
def Z6(n:Int)(qa:List Atom):Bool :=
 inR n 1 4 && inR qa.length 1 4 && qa.all (Zcg n) && (List.range n.toNat).all (addA (λ_=>false) qa)
def bl(p:Nat->Bool)(n:Nat):List (List T):=(List.range n).map λu=>[T.bool (p u)]
@[simp] theorem bl_get(p:Nat->Bool)(n i:Nat)(h:i<(bl p n).length):(bl p n)[i]=[T.bool (p i)]:=by simp[bl]
theorem bl_any(p:Nat->Bool)(n:Nat):((List.range n).map p).any (λx=>false == x)=!(List.range n).all p:=by
 rw[List.any_map,Ycn];simp
theorem Z0q:∀a b c d:Bool,(bit4 a b c d=1↔(a=true/\b=false/\c=false/\d=false))/\(bit4 a b c d=3↔(a=true/\b=true/\c=false/\d=false))/\(bit4 a b c d=7↔(a=true/\b=true/\c=true/\d=false))/\(bit4 a b c d=15↔(a=true/\b=true/\c=true/\d=true)):=by decide
theorem all_in{n:Int}{qa:List Atom}(h:qa.all (Zcg n)=true):∀u:Int,n<=u->qa.any (λa=>has a.Vars u)=false:=by
 intro u hu;rw[Ydn];intro a ha hc;rw[Zim]at hc;have:=Yn.1 h a ha;simp only[Zcg,Yc]at this;have:=Z0p this.2 _ hc;simp[inR]at this;omega
def Zbm(n:Int)(qa:List Atom):Int:=if Z6 n qa=true then shlI 1 qa.length-1 else 0
theorem Zkc{n:Int}{qa:List Atom}(h:Z6 n qa=true):(qa.length=1\/qa.length=2\/qa.length=3\/qa.length=4)/\shlI 1 qa.length=2 ^ qa.length/\IntKind.wrap .i64 (shlI 1 qa.length-1)=shlI 1 qa.length-1/\IntKind.wrap .i64 (shlI 1 qa.length-1+1)=shlI 1 qa.length-1+1:=by
 simp only[Z6,Yc]at h;have h2:=h.1.1.2;simp[inR]at h2;have h3:qa.length=1\/qa.length=2\/qa.length=3\/qa.length=4:=by omega
 refine⟨h3,?_⟩;rcases h3 with h3|h3|h3|h3<;>rw[h3]<;>decide
def Zx(m:Int)(i:Nat):Bool:=decide (andI (shrI m i) 1=1)
def hasV(m:Int):List Atom->Nat->Int->Bool
 |[],_,_=>false
 |a::as',i,u=>(Zx m i && has a.Vars u) || hasV m as' (i+1) u
theorem Z81(m:Int){qa:List Atom}{i:Nat}(h:i<qa.length)(u:Int):hasV m (qa.drop i) i u=((Zx m i && has qa[i].Vars u) || hasV m (qa.drop (i+1)) (i+1) u):=by
 rw[Yd h,hasV]
def pV(m:Int)(qa:List Atom):Nat->Bool:=λu=>hasV m qa 0 u
def Var4(qa:List Atom):Prop:=∀a∈qa,∀v∈a.Vars,inR v 0 3=true
theorem Zbpk{n:Int}{qa:List Atom}(h:Z6 n qa=true):∀a∈qa,∀v∈a.Vars,inR v 0 (n-1)=true:=by
 intro a ha v hv;simp only[Z6,Yc]at h;have:=Yn.1 h.1.2 a ha;simp only[Zcg,Yc]at this;exact Z0p this.2 v hv
theorem Zl9{n:Int}{qa:List Atom}(h:Z6 n qa=true):1<=n/\n<=4:=by
 simp only[Z6,Yc]at h;have:=h.1.1.1;simpa[inR]using this
theorem Zeo{n:Int}{qa:List Atom}(h:Z6 n qa=true):1<=qa.length/\qa.length<=4:=by
 simp only[Z6,Yc]at h;have:=h.1.1.2;simp[inR]at this;omega
theorem Zcdy{n:Int}{qa:List Atom}(h:Z6 n qa=true):∀a∈qa,1<=a.Vars.length/\a.Vars.length<=3:=by
 intro a ha;simp only[Z6,Yc]at h;have:=Yn.1 h.1.2 a ha;simp only[Zcg,Yc]at this;have:=this.1.2;simp[inR]at this;omega
theorem Ztd{n:Int}{qa:List Atom}(h:Z6 n qa=true):Var4 qa:=by
 intro a ha v hv;have:=Zbpk h a ha v hv;have h2:=Zl9 h;simp[inR]at this|-;omega
def addM(m:Int)(p:Nat->Bool)(qa:List Atom)(i:Nat):Nat->Bool:=λu=>p u || hasV m (qa.drop i) i u
theorem Zcdz(m:Int)(p:Nat->Bool){qa:List Atom}{i:Nat}(h:i<qa.length):addM m p qa i=addM m (if Zx m i=true then addV p qa[i].Vars else p) qa (i+1):=by
 funext u;rw[addM,Z81 _ h];rcases tf (Zx m i)with e|e<;>simp[addM,addV,e,Bool.or_assoc]
def varL(m:Int)(qa:List Atom)(k:Nat):List Int:=((List.range k).filter (pV m qa)).map λu:Nat=>(u:Int)
theorem Zcd0(m:Int)(qa:List Atom)(k:Nat):varL m qa (k+1)=varL m qa k++if hasV m qa 0 k=true then[(k:Int)]else[]:=by
 unfold varL;rw[Ybs,Ycz,Y0];rcases tf (hasV m qa 0 k)with e|e<;>simp[pV,e]
theorem Z82(m:Int)(qa:List Atom)(k:Nat):(varL m qa k).length<=k:=by
 unfold varL;simp;exact Y2 (Yct _ _) (by simp)
theorem Zbpl{α:Type}(p:α->Bool){xs:List α}{i:Nat}(h:i<xs.length):(xs.take (i+1)).filter p=(xs.take i).filter p++if p xs[i]=true then[xs[i]]else[]:=by
 rw[List.take_add_one,Yj h,Ycz];rcases tf (p xs[i])with e|e<;>simp[e]
def vin(qa:List Atom)(m v:Int):Bool:=inR v 0 3 && pV m qa v.toNat
def shr(qa:List Atom)(a b:Int):Bool:=(List.range 4).any λu=>pV a qa u && pV b qa u
theorem pV_lt{n:Int}{qa:List Atom}(h:Z6 n qa=true){m:Int}{u:Nat}(hp:pV m qa u=true):(u:Int)<n:=by
 have:∀(l:List Atom) (i:Nat),(∀a∈l,a∈qa)->hasV m l i u=true->(u:Int)<n:=by
  intro l
  induction l with
  |nil=>intro i _ hh;simp[hasV]at hh
  |cons a l ih =>
   intro i hs hh;simp only[hasV,Bool.or_eq_true,Yc]at hh;rcases hh with hh|hh
   .have:=Zbpk h a (hs a (by simp)) u (Zim.1 hh.2);simp[inR]at this;omega
   .exact ih (i+1) (λb hb=>hs b (by simp[hb])) hh
 exact this qa 0 (λa ha=>ha) hp
theorem Zbpm{n:Int}{qa:List Atom}(h:Z6 n qa=true)(m v:Int):has (varL m qa n.toNat) v=vin qa m v:=by
 have hn:=Zl9 h;rw[Ycn,Zim];simp only[varL,Yr,Ycj,Ybo,vin,Yc];constructor
 .rintro⟨u,⟨h1,h2⟩,rfl⟩;refine⟨by simp[inR];omega,by simpa using h2⟩
 .rintro⟨h1,h2⟩;have h3:=pV_lt h h2;simp[inR]at h1;exact⟨v.toNat,⟨by omega,h2⟩,by omega⟩
theorem Zbpn(qa:List Atom)(a b:Int):andI (Zbo (pV a qa)) (Zbo (pV b qa))=0↔shr qa a b=false:=by
 rw[and_bits,Zcdx,shr,Ydn];simp
theorem hd0{xs:List Int}(h:0<xs.length):xs.head?.getD 0=xs[0]:=by cases xs with|nil=>simp at h|cons x xs=>rfl
def cmpR:List Int->List Int->Int
 |[],[]=>0
 |[],_::_=>-1
 |_::_,[]=>1
 |a::x,b::y=>if a<b then -1 else if b<a then 1 else cmpR x y
def leR(a b:List Int):Bool:=decide (cmpR a b<=0)
def srtR(rows:List (List Int)):List (List Int):=rows.mergeSort leR
def cptR:List (List Int)->List (List Int)
 |[]=>[]
 |[a]=>[a]
 |a::b::l=>if a=b then cptR (b::l)else a::cptR (b::l)
def srtI(l:List Int):List Int:=l.mergeSort λx y=>decide (x<=y)
def cptI:List Int->List Int
 |[]=>[]
 |[a]=>[a]
 |a::b::l=>if a=b then cptI (b::l)else a::cptI (b::l)
def Zbpo(es:List (List T))(rows:List (List Int)):Prop:=es=rows.map isc/\rows.length<=4096/\∀r∈rows,r.length<=4
def Zbpp(es:List (List T))(l:List Int):Prop:=es=l.map ic/\l.length<=4096
open Classical in
def extS(es:List (List T))(k:List (List Int)->AV×List Blk):Option (AV×List Blk):=if h:∃rows,Zbpo es rows then some (k h.choose)else none
open Classical in
def extI(es:List (List T))(k:List Int->AV×List Blk):Option (AV×List Blk):=if h:∃l,Zbpp es l then some (k h.choose)else none
def ext:Z1:=λf xs h0=>match xs,h0 with
 |[.own 0,.fn 276 []],[.arr 56 1 fr es]=>if f=277 then extS es λrows=>(.tup [],[.arr 56 1 fr ((srtR rows).map isc)])else none
 |[.own 0,.fn 279 []],[.arr 56 1 fr es]=>if f=278 then extS es λrows=>(.own 1,[.dead,.arr 56 1 fr ((cptR rows).map isc)])else none
 |[.own 0],[.arr 3 1 fr es]=>if f=251 then extI es λl=>(.tup [],[.arr 3 1 fr ((srtI l).map ic)])else if f=252 then extI es λl=>(.own 1,[.dead,.arr 3 1 fr ((cptI l).map ic)])else none
 |_,_=>none
open Go.ChangeShapes Go.WideShapes Go.ChangeAt Go.RowKit
theorem own:ownKnob Tryz.prog.godebug=none:=by kernel_rfl
theorem laidOut:laidOutB Tryz.prog=true:=by kernel_rfl
def tbl:Nat->Option MFun:=λf=>if f=277\/f=251 then none else tblOf Tryz.prog [4000003,4000004,4000005,4000006,2000010,2000011,2000018,3000020,3000021,3000022,2000025,3000027,2000035,2000036,2000037,2000038,2000039,3000052,3000053,3000054,3000055,3000056,2000072,2000073,2000074,2000075,2000076,3000094,3000095,6000105,2000113,2000114,2000115,7000119,3000138,3000139,142,6000143,6000146,8000152,6000153,2000158,2000159,6000171,189,6000192,6000194,9000196,6000197,7000197,6000198,6000199,8000199,2000202,8000209,7000212,8000215,6000216,6000218,6000234,6000235,6000236,6000238,7000238,9000242,6000242,7000242,251,252,254,6000255,6000256,8000256,6000265,277,278,282,6000284,6000285,6000287,7000287,9000290,6000290,7000290,302,6000313,6000314,321,323,325] f
def rawF(f:Nat)(fn:Func):Option MFun:=Zik Tryz.prog (inlOf [4000003,4000004,4000005,4000006,2000010,2000011,2000018,3000020,3000021,3000022,2000025,3000027,2000035,2000036,2000037,2000038,2000039,3000052,3000053,3000054,3000055,3000056,2000072,2000073,2000074,2000075,2000076,3000094,3000095,6000105,2000113,2000114,2000115,7000119,3000138,3000139,142,6000143,6000146,8000152,6000153,2000158,2000159,6000171,189,6000192,6000194,9000196,6000197,7000197,6000198,6000199,8000199,2000202,8000209,7000212,8000215,6000216,6000218,6000234,6000235,6000236,6000238,7000238,9000242,6000242,7000242,251,252,254,6000255,6000256,8000256,6000265,277,278,282,6000284,6000285,6000287,7000287,9000290,6000290,7000290,302,6000313,6000314,321,323,325] f) (Zta fn) fn
theorem tbl_ok:TblOK Tryz.prog tbl:=by
 intro f m h;unfold tbl at h;split at h
 .cases h
 .exact tblOK _ _ f m h
theorem Zc{f:Nat}{fn:Func}{m:MFun}(hf:Tryz.prog.funcs[f]?=some fn)(hc:Zgw Tryz.prog f=true:=by kernel_rfl)(h:Zik Tryz.prog (inlOf [4000003,4000004,4000005,4000006,2000010,2000011,2000018,3000020,3000021,3000022,2000025,3000027,2000035,2000036,2000037,2000038,2000039,3000052,3000053,3000054,3000055,3000056,2000072,2000073,2000074,2000075,2000076,3000094,3000095,6000105,2000113,2000114,2000115,7000119,3000138,3000139,142,6000143,6000146,8000152,6000153,2000158,2000159,6000171,189,6000192,6000194,9000196,6000197,7000197,6000198,6000199,8000199,2000202,8000209,7000212,8000215,6000216,6000218,6000234,6000235,6000236,6000238,7000238,9000242,6000242,7000242,251,252,254,6000255,6000256,8000256,6000265,277,278,282,6000284,6000285,6000287,7000287,9000290,6000290,7000290,302,6000313,6000314,321,323,325] f) (Zta fn) fn=some m:=by kernel_rfl)(hne:¬(f=277\/f=251):=by decide):tbl f=some m:=by
 unfold tbl;rw[if_neg hne];exact tblOf_eq hf hc h
def C:Z1:=Zb4 ext tbl
theorem run{f:Nat}{xs:List AV}{m:MFun}(ht:tbl f=some m)(hl:xs.length=m.np){r:AV×List Blk}(h:Ev C [.fin 0 m.res] m.body ⟨Zgv xs 0,[[]],[]⟩=some r):C f xs []=some r:=Zbos (h0:=[]) ht hl h
theorem runM{f:Nat}{xs:List AV}{h0:List Blk}{m:MFun}(ht:tbl f=some m)(hl:xs.length=m.np){r:AV×List Blk}(h:Ev C [.fin h0.length m.res] m.body ⟨Zgv xs 0,[Zf6 h0 0],h0⟩=some r):C f xs h0=some r:=Zbos ht hl h
abbrev Zcd1:Nat:=4
abbrev Zcd2:Nat:=5
abbrev Zcd3:Nat:=6
abbrev Zcd4:Nat:=7
abbrev Zcd5:Nat:=8
abbrev Zcd6:Nat:=10
abbrev Zcd7:Nat:=11
abbrev Zcd8:Nat:=13
abbrev Zcd9:Nat:=14
abbrev Z83:Nat:=19
abbrev Zcea:Nat:=20
abbrev Zceb:Nat:=21
abbrev Zte:Nat:=22
abbrev Zbpq:Nat:=23
abbrev Zbpr:Nat:=26
abbrev Zbps:Nat:=27
abbrev Zbpt:Nat:=28
abbrev Zcec:Nat:=29
abbrev Zced:Nat:=30
abbrev Zcee:Nat:=31
abbrev Zcef:Nat:=32
abbrev Zceg:Nat:=33
abbrev Zceh:Nat:=35
abbrev Zcei:Nat:=36
abbrev Zcej:Nat:=37
abbrev Zcek:Nat:=38
abbrev Zcel:Nat:=39
abbrev Zcem:Nat:=42
abbrev Zcen:Nat:=43
abbrev Zceo:Nat:=44
abbrev Zcep:Nat:=45
abbrev Zceq:Nat:=46
abbrev Zcer:Nat:=52
abbrev Zces:Nat:=53
abbrev Zcet:Nat:=54
abbrev Zceu:Nat:=55
abbrev Zcev:Nat:=56
abbrev Zcew:Nat:=62
abbrev Zcex:Nat:=63
abbrev Zcey:Nat:=64
abbrev Zcez:Nat:=65
abbrev Zce0:Nat:=66
abbrev Zce1:Nat:=72
abbrev Zce2:Nat:=73
abbrev Zce3:Nat:=74
abbrev Zce4:Nat:=75
abbrev Zce5:Nat:=76
abbrev Zce6:Nat:=81
abbrev Zce7:Nat:=82
abbrev Zce8:Nat:=83
abbrev Zce9:Nat:=84
abbrev Zcfa:Nat:=85
abbrev Zcfb:Nat:=94
abbrev Zcfc:Nat:=95
abbrev Z84:Nat:=96
abbrev Zcfd:Nat:=102
abbrev Zcfe:Nat:=103
abbrev Zcff:Nat:=104
abbrev Zcfg:Nat:=113
abbrev Zcfh:Nat:=114
abbrev Zcfi:Nat:=115
abbrev Zcfj:Nat:=125
abbrev Zcfk:Nat:=126
abbrev Z0r:Nat:=138
abbrev Z0s:Nat:=139
abbrev Zcfl:Nat:=144
abbrev Zcfm:Nat:=145
abbrev Zcfn:Nat:=158
abbrev Zcfo:Nat:=159
abbrev Zcfp:Nat:=177
abbrev Zcfq:Nat:=178
abbrev Zcfr:Nat:=193
abbrev Zcfs:Nat:=202
abbrev Zcft:Nat:=222
abbrev Zbc:Nat:=3
abbrev t_bool:Nat:=4
abbrev Ztf:Nat:=56
abbrev Z0t:Nat:=112
abbrev Z0u:Nat:=114
abbrev Z0v:Nat:=116
abbrev Ztg:Nat:=141
abbrev Zth:Nat:=153
abbrev Z0w:Nat:=200
end
end Go.Proofs.YtnnjbejcffjgfaaGreat
