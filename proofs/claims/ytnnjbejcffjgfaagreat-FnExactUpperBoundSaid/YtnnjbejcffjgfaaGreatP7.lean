/-
  Parts of the proofs for this seat: TY TX PW EX H.
-/
import Derived.Test.YtnnjbejcffjgfaaGreatRows
import Derived.Test.YtnnjbejcffjgfaaGreatP4
import Derived.Test.YtnnjbejcffjgfaaGreatP5
set_option linter.unusedSimpArgs false
set_option linter.unusedVariables false
set_option maxRecDepth 100000
set_option maxHeartbeats 4000000
namespace Go.Proofs.YtnnjbejcffjgfaaGreat
open Go.AM
noncomputable section
@[ext] structure Zc where
 Name:ByteArray
 Arity:Int
 Rows:List (List Int)
 deriving DecidableEq
def Zc.c(x:Zc):List T:=[.str x.Name,.int .i64 x.Arity,tII x.Rows]
@[simp] theorem Zc.c_def(x:Zc):x.c=[.str x.Name,.int .i64 x.Arity,tII x.Rows]:=rfl
abbrev Zc.Zr(x:Zc):Prop:=SsA x.Name/\SmL SmA x.Rows
abbrev Zc.okay(x:Zc):Prop:=OkS x.Name/\OkI x.Arity/\OkL (OkL OkI) x.Rows
theorem Zc.dec(ts:List T)(h:HasShs [.str,.int .i64,.slice [.slice [.int .i64]]] ts):∃x:Zc,ts=x.c/\x.okay:=by
 obtain⟨t0,us0,rfl,g0,h0⟩:=Zbo h;obtain⟨t1,us1,rfl,g1,h1⟩:=Zbo h0;obtain⟨t2,us2,rfl,g2,h2⟩:=Zbo h1;cases Zgm h2;obtain⟨x0,rfl,o0⟩:=Zmk g0;obtain⟨x1,rfl,o1⟩:=Zgd g1;obtain⟨x2,rfl,o2⟩:=Zbfj g2;exact⟨⟨x0,x1,x2⟩,rfl,o0,o1,o2⟩
def Zc.sz(x:Zc)(l:Int):Int:=Z2 (sz1 x.Name.size l) λl=>Z2 (szL szI x.Rows l) λl=>l
theorem Zc.sz_ok(x:Zc)(l:Int)(hx:x.okay)(h0:0<=l)(h1:l<=1048576)(h:0<=x.sz l):x.sz l<=l/\x.Zr:=by
 unfold Zc.sz at h|-;simp only[Z2]at h|-;split at h
 .omega
 rename_i q0;rw[if_neg q0];have s0:=Zes hx.1 h0 h1 (Y6.1 q0);split at h
 .omega
 rename_i q1;rw[if_neg q1];have s1:=Zip (f:=szI) (p:=λy:List Int=>SmA y) hx.2.2.1 (λy hy l a b c=>Zes (hx.2.2.2 y hy).1 a b c) (by omega) (by omega) (Y6.1 q1);exact⟨by omega,s0.2,s1.2⟩
@[ext] structure Zh where
 Tables:List Zc
 deriving DecidableEq
def Zh.c(x:Zh):List T:=[.lst 3 (x.Tables.map Zc.c)]
@[simp] theorem Zh.c_def(x:Zh):x.c=[.lst 3 (x.Tables.map Zc.c)]:=rfl
abbrev Zh.Zr(x:Zh):Prop:=SmL Zc.Zr x.Tables
abbrev Zh.okay(x:Zh):Prop:=OkL Zc.okay x.Tables
def Zh.sz(x:Zh)(l:Int):Int:=Z2 (szL Zc.sz x.Tables l) λl=>l
theorem Zh.sz_ok(x:Zh)(l:Int)(hx:x.okay)(h0:0<=l)(h1:l<=1048576)(h:0<=x.sz l):x.sz l<=l/\x.Zr:=by
 unfold Zh.sz at h|-;simp only[Z2]at h|-;split at h
 .omega
 rename_i q0;rw[if_neg q0];have s0:=Zip (p:=Zc.Zr) hx.1 (λy hy l a b c=>Zc.sz_ok y l (hx.2 y hy) a b c) h0 h1 (Y6.1 q0);exact⟨by omega,s0.2⟩
@[ext] structure Atom where
 Name:ByteArray
 Vars:List Int
 deriving DecidableEq
def Atom.c(x:Atom):List T:=[.str x.Name,tI x.Vars]
@[simp] theorem Atom.c_def(x:Atom):x.c=[.str x.Name,tI x.Vars]:=rfl
abbrev Atom.Zr(x:Atom):Prop:=SsA x.Name/\SmA x.Vars
abbrev Atom.okay(x:Atom):Prop:=OkS x.Name/\OkL OkI x.Vars
theorem Atom.dec(ts:List T)(h:HasShs [.str,.slice [.int .i64]] ts):∃x:Atom,ts=x.c/\x.okay:=by
 obtain⟨t0,us0,rfl,g0,h0⟩:=Zbo h;obtain⟨t1,us1,rfl,g1,h1⟩:=Zbo h0;cases Zgm h1;obtain⟨x0,rfl,o0⟩:=Zmk g0;obtain⟨x1,rfl,o1⟩:=Zqa g1;exact⟨⟨x0,x1⟩,rfl,o0,o1⟩
def Atom.sz(x:Atom)(l:Int):Int:=Z2 (sz1 x.Name.size l) λl=>Z2 (sz1 x.Vars.length l) λl=>l
theorem Atom.sz_ok(x:Atom)(l:Int)(hx:x.okay)(h0:0<=l)(h1:l<=1048576)(h:0<=x.sz l):x.sz l<=l/\x.Zr:=by
 unfold Atom.sz at h|-;simp only[Z2]at h|-;split at h
 .omega
 rename_i q0;rw[if_neg q0];have s0:=Zes hx.1 h0 h1 (Y6.1 q0);split at h
 .omega
 rename_i q1;rw[if_neg q1];have s1:=Zes hx.2.1 (by omega) (by omega) (Y6.1 q1);exact⟨by omega,s0.2,s1.2⟩
@[ext] structure Zg where
 Zt:Int
 Atoms:List Atom
 deriving DecidableEq
def Zg.c(x:Zg):List T:=[.int .i64 x.Zt,.lst 2 (x.Atoms.map Atom.c)]
@[simp] theorem Zg.c_def(x:Zg):x.c=[.int .i64 x.Zt,.lst 2 (x.Atoms.map Atom.c)]:=rfl
abbrev Zg.Zr(x:Zg):Prop:=SmL Atom.Zr x.Atoms
abbrev Zg.okay(x:Zg):Prop:=OkI x.Zt/\OkL Atom.okay x.Atoms
theorem Zg.dec(ts:List T)(h:HasShs [.int .i64,.slice [.str,.slice [.int .i64]]] ts):∃x:Zg,ts=x.c/\x.okay:=by
 obtain⟨t0,us0,rfl,g0,h0⟩:=Zbo h;obtain⟨t1,us1,rfl,g1,h1⟩:=Zbo h0;cases Zgm h1;obtain⟨x0,rfl,o0⟩:=Zgd g0;obtain⟨x1,rfl,o1⟩:=Ziq Atom.dec g1;exact⟨⟨x0,x1⟩,rfl,o0,o1⟩
def Zg.sz(x:Zg)(l:Int):Int:=Z2 (szL Atom.sz x.Atoms l) λl=>l
theorem Zg.sz_ok(x:Zg)(l:Int)(hx:x.okay)(h0:0<=l)(h1:l<=1048576)(h:0<=x.sz l):x.sz l<=l/\x.Zr:=by
 unfold Zg.sz at h|-;simp only[Z2]at h|-;split at h
 .omega
 rename_i q0;rw[if_neg q0];have s0:=Zip (p:=Atom.Zr) hx.2.1 (λy hy l a b c=>Atom.sz_ok y l (hx.2.2 y hy) a b c) h0 h1 (Y6.1 q0);exact⟨by omega,s0.2⟩
@[ext] structure Zm where
 Name:ByteArray
 From:List Int
 To:Int
 deriving DecidableEq
def Zm.c(x:Zm):List T:=[.str x.Name,tI x.From,.int .i64 x.To]
@[simp] theorem Zm.c_def(x:Zm):x.c=[.str x.Name,tI x.From,.int .i64 x.To]:=rfl
abbrev Zm.Zr(x:Zm):Prop:=SsA x.Name/\SmA x.From
abbrev Zm.okay(x:Zm):Prop:=OkS x.Name/\OkL OkI x.From/\OkI x.To
theorem Zm.dec(ts:List T)(h:HasShs [.str,.slice [.int .i64],.int .i64] ts):∃x:Zm,ts=x.c/\x.okay:=by
 obtain⟨t0,us0,rfl,g0,h0⟩:=Zbo h;obtain⟨t1,us1,rfl,g1,h1⟩:=Zbo h0;obtain⟨t2,us2,rfl,g2,h2⟩:=Zbo h1;cases Zgm h2;obtain⟨x0,rfl,o0⟩:=Zmk g0;obtain⟨x1,rfl,o1⟩:=Zqa g1;obtain⟨x2,rfl,o2⟩:=Zgd g2;exact⟨⟨x0,x1,x2⟩,rfl,o0,o1,o2⟩
def Zm.sz(x:Zm)(l:Int):Int:=Z2 (sz1 x.Name.size l) λl=>Z2 (sz1 x.From.length l) λl=>l
theorem Zm.sz_ok(x:Zm)(l:Int)(hx:x.okay)(h0:0<=l)(h1:l<=1048576)(h:0<=x.sz l):x.sz l<=l/\x.Zr:=by
 unfold Zm.sz at h|-;simp only[Z2]at h|-;split at h
 .omega
 rename_i q0;rw[if_neg q0];have s0:=Zes hx.1 h0 h1 (Y6.1 q0);split at h
 .omega
 rename_i q1;rw[if_neg q1];have s1:=Zes hx.2.1.1 (by omega) (by omega) (Y6.1 q1);exact⟨by omega,s0.2,s1.2⟩
@[ext] structure Zi where
 Name:ByteArray
 Column:Int
 Into:ByteArray
 IntoColumn:Int
 deriving DecidableEq
def Zi.c(x:Zi):List T:=[.str x.Name,.int .i64 x.Column,.str x.Into,.int .i64 x.IntoColumn]
@[simp] theorem Zi.c_def(x:Zi):x.c=[.str x.Name,.int .i64 x.Column,.str x.Into,.int .i64 x.IntoColumn]:=rfl
abbrev Zi.Zr(x:Zi):Prop:=SsA x.Name/\SsA x.Into
abbrev Zi.okay(x:Zi):Prop:=OkS x.Name/\OkI x.Column/\OkS x.Into/\OkI x.IntoColumn
theorem Zi.dec(ts:List T)(h:HasShs [.str,.int .i64,.str,.int .i64] ts):∃x:Zi,ts=x.c/\x.okay:=by
 obtain⟨t0,us0,rfl,g0,h0⟩:=Zbo h;obtain⟨t1,us1,rfl,g1,h1⟩:=Zbo h0;obtain⟨t2,us2,rfl,g2,h2⟩:=Zbo h1;obtain⟨t3,us3,rfl,g3,h3⟩:=Zbo h2;cases Zgm h3;obtain⟨x0,rfl,o0⟩:=Zmk g0;obtain⟨x1,rfl,o1⟩:=Zgd g1;obtain⟨x2,rfl,o2⟩:=Zmk g2;obtain⟨x3,rfl,o3⟩:=Zgd g3;exact⟨⟨x0,x1,x2,x3⟩,rfl,o0,o1,o2,o3⟩
def Zi.sz(x:Zi)(l:Int):Int:=Z2 (sz1 x.Name.size l) λl=>Z2 (sz1 x.Into.size l) λl=>l
theorem Zi.sz_ok(x:Zi)(l:Int)(hx:x.okay)(h0:0<=l)(h1:l<=1048576)(h:0<=x.sz l):x.sz l<=l/\x.Zr:=by
 unfold Zi.sz at h|-;simp only[Z2]at h|-;split at h
 .omega
 rename_i q0;rw[if_neg q0];have s0:=Zes hx.1 h0 h1 (Y6.1 q0);split at h
 .omega
 rename_i q1;rw[if_neg q1];have s1:=Zes hx.2.2.1 (by omega) (by omega) (Y6.1 q1);exact⟨by omega,s0.2,s1.2⟩
@[ext] structure Zf where
 Columns:List Int
 Values:List (List Int)
 Counts:List Int
 deriving DecidableEq
def Zf.c(x:Zf):List T:=[tI x.Columns,tII x.Values,tI x.Counts]
@[simp] theorem Zf.c_def(x:Zf):x.c=[tI x.Columns,tII x.Values,tI x.Counts]:=rfl
abbrev Zf.Zr(x:Zf):Prop:=SmA x.Columns/\SmL SmA x.Values/\SmA x.Counts
abbrev Zf.okay(x:Zf):Prop:=OkL OkI x.Columns/\OkL (OkL OkI) x.Values/\OkL OkI x.Counts
theorem Zf.dec(ts:List T)(h:HasShs [.slice [.int .i64],.slice [.slice [.int .i64]],.slice [.int .i64]] ts):∃x:Zf,ts=x.c/\x.okay:=by
 obtain⟨t0,us0,rfl,g0,h0⟩:=Zbo h;obtain⟨t1,us1,rfl,g1,h1⟩:=Zbo h0;obtain⟨t2,us2,rfl,g2,h2⟩:=Zbo h1;cases Zgm h2;obtain⟨x0,rfl,o0⟩:=Zqa g0;obtain⟨x1,rfl,o1⟩:=Zbfj g1;obtain⟨x2,rfl,o2⟩:=Zqa g2;exact⟨⟨x0,x1,x2⟩,rfl,o0,o1,o2⟩
def Zf.sz(x:Zf)(l:Int):Int:=Z2 (sz1 x.Columns.length l) λl=>Z2 (szL szI x.Values l) λl=>Z2 (sz1 x.Counts.length l) λl=>l
theorem Zf.sz_ok(x:Zf)(l:Int)(hx:x.okay)(h0:0<=l)(h1:l<=1048576)(h:0<=x.sz l):x.sz l<=l/\x.Zr:=by
 unfold Zf.sz at h|-;simp only[Z2]at h|-;split at h
 .omega
 rename_i q0;rw[if_neg q0];have s0:=Zes hx.1.1 h0 h1 (Y6.1 q0);split at h
 .omega
 rename_i q1;rw[if_neg q1];have s1:=Zip (f:=szI) (p:=λy:List Int=>SmA y) hx.2.1.1 (λy hy l a b c=>Zes (hx.2.1.2 y hy).1 a b c) (by omega) (by omega) (Y6.1 q1);split at h
 .omega
 rename_i q2;rw[if_neg q2];have s2:=Zes hx.2.2.1 (by omega) (by omega) (Y6.1 q2);exact⟨by omega,s0.2,s1.2,s2.2⟩
@[ext] structure Zd where
 Name:ByteArray
 Arity:Int
 RowCount:Int
 Groups:List Zf
 deriving DecidableEq
def Zd.c(x:Zd):List T:=[.str x.Name,.int .i64 x.Arity,.int .i64 x.RowCount,.lst 3 (x.Groups.map Zf.c)]
@[simp] theorem Zd.c_def(x:Zd):x.c=[.str x.Name,.int .i64 x.Arity,.int .i64 x.RowCount,.lst 3 (x.Groups.map Zf.c)]:=rfl
abbrev Zd.Zr(x:Zd):Prop:=SsA x.Name/\SmL Zf.Zr x.Groups
abbrev Zd.okay(x:Zd):Prop:=OkS x.Name/\OkI x.Arity/\OkI x.RowCount/\OkL Zf.okay x.Groups
theorem Zd.dec(ts:List T)(h:HasShs [.str,.int .i64,.int .i64,.slice [.slice [.int .i64],.slice [.slice [.int .i64]],.slice [.int .i64]]] ts):∃x:Zd,ts=x.c/\x.okay:=by
 obtain⟨t0,us0,rfl,g0,h0⟩:=Zbo h;obtain⟨t1,us1,rfl,g1,h1⟩:=Zbo h0;obtain⟨t2,us2,rfl,g2,h2⟩:=Zbo h1;obtain⟨t3,us3,rfl,g3,h3⟩:=Zbo h2;cases Zgm h3;obtain⟨x0,rfl,o0⟩:=Zmk g0;obtain⟨x1,rfl,o1⟩:=Zgd g1;obtain⟨x2,rfl,o2⟩:=Zgd g2;obtain⟨x3,rfl,o3⟩:=Ziq Zf.dec g3;exact⟨⟨x0,x1,x2,x3⟩,rfl,o0,o1,o2,o3⟩
def Zd.sz(x:Zd)(l:Int):Int:=Z2 (sz1 x.Name.size l) λl=>Z2 (szL Zf.sz x.Groups l) λl=>l
theorem Zd.sz_ok(x:Zd)(l:Int)(hx:x.okay)(h0:0<=l)(h1:l<=1048576)(h:0<=x.sz l):x.sz l<=l/\x.Zr:=by
 unfold Zd.sz at h|-;simp only[Z2]at h|-;split at h
 .omega
 rename_i q0;rw[if_neg q0];have s0:=Zes hx.1 h0 h1 (Y6.1 q0);split at h
 .omega
 rename_i q1;rw[if_neg q1];have s1:=Zip (p:=Zf.Zr) hx.2.2.2.1 (λy hy l a b c=>Zf.sz_ok y l (hx.2.2.2.2 y hy) a b c) (by omega) (by omega) (Y6.1 q1);exact⟨by omega,s0.2,s1.2⟩
@[ext] structure Zn where
 Version:Int
 Tables:List Zd
 deriving DecidableEq
def Zn.c(x:Zn):List T:=[.int .i64 x.Version,.lst 4 (x.Tables.map Zd.c)]
@[simp] theorem Zn.c_def(x:Zn):x.c=[.int .i64 x.Version,.lst 4 (x.Tables.map Zd.c)]:=rfl
abbrev Zn.Zr(x:Zn):Prop:=SmL Zd.Zr x.Tables
abbrev Zn.okay(x:Zn):Prop:=OkI x.Version/\OkL Zd.okay x.Tables
def Zn.sz(x:Zn)(l:Int):Int:=Z2 (szL Zd.sz x.Tables l) λl=>l
theorem Zn.sz_ok(x:Zn)(l:Int)(hx:x.okay)(h0:0<=l)(h1:l<=1048576)(h:0<=x.sz l):x.sz l<=l/\x.Zr:=by
 unfold Zn.sz at h|-;simp only[Z2]at h|-;split at h
 .omega
 rename_i q0;rw[if_neg q0];have s0:=Zip (p:=Zd.Zr) hx.2.1 (λy hy l a b c=>Zd.sz_ok y l (hx.2.2 y hy) a b c) h0 h1 (Y6.1 q0);exact⟨by omega,s0.2⟩
@[ext] structure Zj where
 Zh:Zh
 Zn:Zn
 Dependencies:List Zm
 Inclusions:List Zi
 deriving DecidableEq
def Zj.c(x:Zj):List T:=[.lst 3 (x.Zh.Tables.map Zc.c),.int .i64 x.Zn.Version,.lst 4 (x.Zn.Tables.map Zd.c),.lst 3 (x.Dependencies.map Zm.c),.lst 4 (x.Inclusions.map Zi.c)]
@[simp] theorem Zj.c_def(x:Zj):x.c=[.lst 3 (x.Zh.Tables.map Zc.c),.int .i64 x.Zn.Version,.lst 4 (x.Zn.Tables.map Zd.c),.lst 3 (x.Dependencies.map Zm.c),.lst 4 (x.Inclusions.map Zi.c)]:=rfl
abbrev Zj.Zr(x:Zj):Prop:=SmL Zc.Zr x.Zh.Tables/\SmL Zd.Zr x.Zn.Tables/\SmL Zm.Zr x.Dependencies/\SmL Zi.Zr x.Inclusions
abbrev Zj.okay(x:Zj):Prop:=OkL Zc.okay x.Zh.Tables/\OkI x.Zn.Version/\OkL Zd.okay x.Zn.Tables/\OkL Zm.okay x.Dependencies/\OkL Zi.okay x.Inclusions
theorem Zj.dec(ts:List T)(h:HasShs [.slice [.str,.int .i64,.slice [.slice [.int .i64]]],.int .i64,.slice [.str,.int .i64,.int .i64,.slice [.slice [.int .i64],.slice [.slice [.int .i64]],.slice [.int .i64]]],.slice [.str,.slice [.int .i64],.int .i64],.slice [.str,.int .i64,.str,.int .i64]] ts):∃x:Zj,ts=x.c/\x.okay:=by
 obtain⟨t0,us0,rfl,g0,h0⟩:=Zbo h;obtain⟨t1,us1,rfl,g1,h1⟩:=Zbo h0;obtain⟨t2,us2,rfl,g2,h2⟩:=Zbo h1;obtain⟨t3,us3,rfl,g3,h3⟩:=Zbo h2;obtain⟨t4,us4,rfl,g4,h4⟩:=Zbo h3;cases Zgm h4;obtain⟨x0,rfl,o0⟩:=Ziq Zc.dec g0;obtain⟨x1,rfl,o1⟩:=Zgd g1;obtain⟨x2,rfl,o2⟩:=Ziq Zd.dec g2;obtain⟨x3,rfl,o3⟩:=Ziq Zm.dec g3;obtain⟨x4,rfl,o4⟩:=Ziq Zi.dec g4;exact⟨⟨⟨x0⟩,⟨x1,x2⟩,x3,x4⟩,rfl,o0,o1,o2,o3,o4⟩
def Zj.sz(x:Zj)(l:Int):Int:=Z2 (Zh.sz x.Zh l) λl=>Z2 (Zn.sz x.Zn l) λl=>Z2 (szL Zm.sz x.Dependencies l) λl=>Z2 (szL Zi.sz x.Inclusions l) λl=>l
theorem Zj.sz_ok(x:Zj)(l:Int)(hx:x.okay)(h0:0<=l)(h1:l<=1048576)(h:0<=x.sz l):x.sz l<=l/\x.Zr:=by
 unfold Zj.sz at h|-;simp only[Z2]at h|-;split at h
 .omega
 rename_i q0;rw[if_neg q0];have s0:=Zh.sz_ok x.Zh _ hx.1 h0 h1 (Y6.1 q0);split at h
 .omega
 rename_i q1;rw[if_neg q1];have s1:=Zn.sz_ok x.Zn _ ⟨hx.2.1,hx.2.2.1⟩ (by omega) (by omega) (Y6.1 q1);split at h
 .omega
 rename_i q2;rw[if_neg q2];have s2:=Zip (p:=Zm.Zr) hx.2.2.2.1.1 (λy hy l a b c=>Zm.sz_ok y l (hx.2.2.2.1.2 y hy) a b c) (by omega) (by omega) (Y6.1 q2);split at h
 .omega
 rename_i q3;rw[if_neg q3];have s3:=Zip (p:=Zi.Zr) hx.2.2.2.2.1 (λy hy l a b c=>Zi.sz_ok y l (hx.2.2.2.2.2 y hy) a b c) (by omega) (by omega) (Y6.1 q3);exact⟨by omega,s0.2,s1.2,s2.2,s3.2⟩
@[ext] structure Box where
 Low:List Int
 High:List Int
 deriving DecidableEq
def Box.c(x:Box):List T:=[tI x.Low,tI x.High]
@[simp] theorem Box.c_def(x:Box):x.c=[tI x.Low,tI x.High]:=rfl
abbrev Box.Zr(x:Box):Prop:=SmA x.Low/\SmA x.High
abbrev Box.okay(x:Box):Prop:=OkL OkI x.Low/\OkL OkI x.High
def Box.sz(x:Box)(l:Int):Int:=Z2 (sz1 x.Low.length l) λl=>Z2 (sz1 x.High.length l) λl=>l
@[simp] theorem Zc.map_inj(xs ys:List Zc):xs.map Zc.c=ys.map Zc.c↔xs=ys:=Zb7 (by
 intro a b h;simp at h
 simp[Zc.ext_iff,h])
@[simp] theorem Zh.map_inj(xs ys:List Zh):xs.map Zh.c=ys.map Zh.c↔xs=ys:=Zb7 (by
 intro a b h;simp at h
 simp[Zh.ext_iff,h])
@[simp] theorem Zf.map_inj(xs ys:List Zf):xs.map Zf.c=ys.map Zf.c↔xs=ys:=Zb7 (by
 intro a b h;simp at h
 simp[Zf.ext_iff,h])
@[simp] theorem Zd.map_inj(xs ys:List Zd):xs.map Zd.c=ys.map Zd.c↔xs=ys:=Zb7 (by
 intro a b h;simp at h
 simp[Zd.ext_iff,h])
@[simp] theorem Zn.map_inj(xs ys:List Zn):xs.map Zn.c=ys.map Zn.c↔xs=ys:=Zb7 (by
 intro a b h;simp at h
 simp[Zn.ext_iff,h])
@[simp] theorem Zm.map_inj(xs ys:List Zm):xs.map Zm.c=ys.map Zm.c↔xs=ys:=Zb7 (by
 intro a b h;simp at h
 simp[Zm.ext_iff,h])
@[simp] theorem Zi.map_inj(xs ys:List Zi):xs.map Zi.c=ys.map Zi.c↔xs=ys:=Zb7 (by
 intro a b h;simp at h
 simp[Zi.ext_iff,h])
@[simp] theorem Zi.flat(xs:List Zi):(xs.map Zi.c).all (λx=>x.all Z9)=true:=Zis (λ_=>rfl) xs
@[simp] theorem Zi.flat2(xs:List Zi):xs.all ((λx=>x.all Z9) ∘ Zi.c)=true:=Zit (λ_=>rfl) xs
@[simp] theorem Zj.map_inj(xs ys:List Zj):xs.map Zj.c=ys.map Zj.c↔xs=ys:=Zb7 (by
 intro a b h;simp at h
 simp[Zj.ext_iff,Zh.ext_iff,Zn.ext_iff,h])
@[simp] theorem Atom.map_inj(xs ys:List Atom):xs.map Atom.c=ys.map Atom.c↔xs=ys:=Zb7 (by
 intro a b h;simp at h
 simp[Atom.ext_iff,h])
@[simp] theorem Zg.map_inj(xs ys:List Zg):xs.map Zg.c=ys.map Zg.c↔xs=ys:=Zb7 (by
 intro a b h;simp at h
 simp[Zg.ext_iff,h])
@[ext] structure Za where
 Num:Int
 Den:Int
 deriving DecidableEq
def Za.c(x:Za):List T:=[.int .i64 x.Num,.int .i64 x.Den]
@[simp] theorem Za.c_def(x:Za):x.c=[.int .i64 x.Num,.int .i64 x.Den]:=rfl
@[simp] theorem Za.map_inj(xs ys:List Za):xs.map Za.c=ys.map Za.c↔xs=ys:=Zb7 (by
 intro a b h;simp at h
 simp[Za.ext_iff,h])
@[simp] theorem Za.flat(xs:List Za):(xs.map Za.c).all (λx=>x.all Z9)=true:=Zis (λ_=>rfl) xs
@[simp] theorem Za.flat2(xs:List Za):xs.all ((λx=>x.all Z9) ∘ Za.c)=true:=Zit (λ_=>rfl) xs
@[simp] theorem lcR_inj(xs ys:List (List Za)):xs.map (lc 2 Za.c)=ys.map (lc 2 Za.c)↔xs=ys:=Zb7 (by
 intro a b h
 simpa[lc]using h)
@[ext] structure Program where
 Objective:List Int
 Rows:List (List Int)
 Limits:List Int
 deriving DecidableEq
def Program.c(x:Program):List T:=[.lst 1 (x.Objective.map ic),.lst 1 (x.Rows.map isc),.lst 1 (x.Limits.map ic)]
@[simp] theorem Program.c_def(x:Program):x.c=[.lst 1 (x.Objective.map ic),.lst 1 (x.Rows.map isc),.lst 1 (x.Limits.map ic)]:=rfl
@[simp] theorem Program.map_inj(xs ys:List Program):xs.map Program.c=ys.map Program.c↔xs=ys:=Zb7 (by
 intro a b h;simp at h
 simp[Program.ext_iff,h])
@[ext] structure Zl where
 Basic:List Int
 Free:List Int
 Cells:List (List Za)
 Limits:List Za
 Costs:List Za
 Value:Za
 deriving DecidableEq
def Zl.c(x:Zl):List T:=[.lst 1 (x.Basic.map ic),.lst 1 (x.Free.map ic),.lst 1 (x.Cells.map (lc 2 Za.c)),.lst 2 (x.Limits.map Za.c),.lst 2 (x.Costs.map Za.c),.int .i64 x.Value.Num,.int .i64 x.Value.Den]
@[simp] theorem Zl.c_def(x:Zl):x.c=[.lst 1 (x.Basic.map ic),.lst 1 (x.Free.map ic),.lst 1 (x.Cells.map (lc 2 Za.c)),.lst 2 (x.Limits.map Za.c),.lst 2 (x.Costs.map Za.c),.int .i64 x.Value.Num,.int .i64 x.Value.Den]:=rfl
@[simp] theorem Zl.map_inj(xs ys:List Zl):xs.map Zl.c=ys.map Zl.c↔xs=ys:=Zb7 (by
 intro a b h;simp at h
 simp[Zl.ext_iff,Za.ext_iff,h])
@[ext] structure Zk where
 From:Int
 To:Int
 Bits:Int
 deriving DecidableEq
def Zk.c(x:Zk):List T:=[.int .i64 x.From,.int .i64 x.To,.int .i64 x.Bits]
@[simp] theorem Zk.c_def(x:Zk):x.c=[.int .i64 x.From,.int .i64 x.To,.int .i64 x.Bits]:=rfl
@[simp] theorem Zk.map_inj(xs ys:List Zk):xs.map Zk.c=ys.map Zk.c↔xs=ys:=Zb7 (by
 intro a b h;simp at h
 simp[Zk.ext_iff,h])
@[simp] theorem Zk.flat(xs:List Zk):(xs.map Zk.c).all (λx=>x.all Z9)=true:=Zis (λ_=>rfl) xs
@[simp] theorem Zk.flat2(xs:List Zk):xs.all ((λx=>x.all Z9) ∘ Zk.c)=true:=Zit (λ_=>rfl) xs
@[ext] structure Zz where
 bad:Bool
 deriving DecidableEq
def Zz.c(x:Zz):List T:=[.bool x.bad]
@[simp] theorem Zz.c_def(x:Zz):x.c=[.bool x.bad]:=rfl
@[simp] theorem Zz.map_inj(xs ys:List Zz):xs.map Zz.c=ys.map Zz.c↔xs=ys:=Zb7 (by
 intro a b h;simp at h
 simp[Zz.ext_iff,h])
@[simp] theorem Zz.flat(xs:List Zz):(xs.map Zz.c).all (λx=>x.all Z9)=true:=Zis (λ_=>rfl) xs
@[simp] theorem Zz.flat2(xs:List Zz):xs.all ((λx=>x.all Z9) ∘ Zz.c)=true:=Zit (λ_=>rfl) xs
def inR(a b c:Int):Bool:=decide (b<=a/\a<=c)
def Zqb(c:Int):Int:=if c<0 then -1 else if c=0 then 0 else if c=1 then 1 else if c=2 then 4 else if c=3 then 16 else if c=4 then 64 else if c=5 then 256 else if c=6 then 1024 else if c=7 then 4096 else -1
theorem cls8{c:Int}(h:inR c 0 7=true):c=0\/c=1\/c=2\/c=3\/c=4\/c=5\/c=6\/c=7:=by
 simp[inR]at h;omega
theorem Zbfm{c:Int}(h:inR c 0 7=false):Zqb c=-1:=by
 simp[inR]at h;unfold Zqb;split
 .rfl
 .repeat' split
  all_goals omega
theorem Zbfn{α:Type}(p:α->Bool){xs:List α}{i:Nat}(h:i<xs.length):(xs.drop i).all p=(p xs[i] && (xs.drop (i+1)).all p):=by
 rw[Yc h,Y2]
theorem drop_any{α:Type}(p:α->Bool){xs:List α}{i:Nat}(h:i<xs.length):(xs.drop i).any p=(p xs[i] || (xs.drop (i+1)).any p):=by
 rw[Yc h,Ydd]
def domAll:List Int->List Int->Bool
 |x::xs,y::ys=>decide (y<=x) && domAll xs ys
 |_,_=>true
def dom(xs ys:List Int):Bool:=decide (xs.length=ys.length) && domAll xs ys
def bit4(a b c d:Bool):Int:=(if a then 1 else 0)+(if b then 2 else 0)+(if c then 4 else 0)+(if d then 8 else 0)
def Zca(p:Nat->Bool):Int:=bit4 (p 0) (p 1) (p 2) (p 3)
theorem in4{v:Int}(h:inR v 0 3=true):v=0\/v=1\/v=2\/v=3:=by simp[inR]at h;omega
def has(xs:List Int)(v:Int):Bool:=xs.any (λx=>decide (v=x))
theorem Zbfo{xs:List Int}{v:Int}:has xs v=true↔v∈xs:=by
 simp only[has,List.any_eq_true,decide_eq_true_eq];exact⟨λ⟨x,h,e⟩=>e▸h,λh=>⟨v,h,rfl⟩⟩
def addV(p:Nat->Bool)(vs:List Int):Nat->Bool:=λu=>p u || has vs u
theorem Z2z(p:Nat->Bool):addV p []=p:=by funext u;simp[addV,has]
theorem Zb0x(p:Nat->Bool)(v:Int)(vs:List Int):addV (addV p [v]) vs=addV p (v::vs):=by funext u;simp[addV,has,Bool.or_assoc]
theorem Z20(p:Nat->Bool){vs:List Int}{i:Nat}(h:i<vs.length):addV p (vs.drop i)=addV (addV p [vs[i]]) (vs.drop (i+1)):=by
 rw[Yc h,Zb0x]
theorem or_d:∀a b c d:Bool,orI (bit4 a b c d) 1=bit4 true b c d/\orI (bit4 a b c d) 2=bit4 a true c d/\orI (bit4 a b c d) 4=bit4 a b true d/\orI (bit4 a b c d) 8=bit4 a b c true:=by decide
theorem or_bit(p:Nat->Bool){v:Int}(h:inR v 0 3=true):orI (Zca p) (shlI 1 v)=Zca (addV p [v]):=by
 have q:=or_d (p 0) (p 1) (p 2) (p 3);rcases in4 h with rfl|rfl|rfl|rfl<;>simp[addV,has,Zca,shlI,Z8,q]
theorem and_d:∀a b c d:Bool,(andI (shrI (bit4 a b c d) 0) 1=1↔a=true)/\(andI (shrI (bit4 a b c d) 1) 1=1↔b=true)/\(andI (shrI (bit4 a b c d) 2) 1=1↔c=true)/\(andI (shrI (bit4 a b c d) 3) 1=1↔d=true):=by decide
theorem at_bit(p:Nat->Bool){v:Int}(h:inR v 0 3=true):andI (shrI (Zca p) v) 1=1↔p v.toNat=true:=by
 have q:=and_d (p 0) (p 1) (p 2) (p 3);rcases in4 h with rfl|rfl|rfl|rfl<;>simp[Zca,q]
def Zcj{α:Type}(p:α->Bool):List α->Nat->Int
 |[],_=>-1
 |x::xs,i=>if p x=true then i else Zcj p xs (i+1)
theorem Z21{α:Type}(p:α->Bool){xs:List α}{i:Nat}(h:i<xs.length):Zcj p (xs.drop i) i=if p xs[i]=true then(i:Int)else Zcj p (xs.drop (i+1)) (i+1):=by
 rw[Yc h,Zcj]
theorem Zbfp{α:Type}(p:α->Bool)(xs:List α):∀i,xs.any p=false->Zcj p xs i=-1:=by
 induction xs with
 |nil=>intro i _;rfl
 |cons x xs ih=>intro i h;simp at h;simp[Zcj,h];apply ih;simp;exact h.2
theorem Zbfq{α:Type}(p:α->Bool)(xs:List α):∀i,xs.any p=true->0<=Zcj p xs i:=by
 induction xs with
 |nil=>intro i h;simp at h
 |cons x xs ih =>
  intro i h;unfold Zcj;split
  .omega
  .rename_i hx;simp only[Ydd,hx,Yby]at h;exact ih _ h
def nmOk(s:ByteArray):Bool:=match s[0]? with
 |some b=>decide (s.size=1) && decide (97<=(b.toNat:Int)) && decide ((b.toNat:Int)<=122)
 |none=>false
theorem get0{s:ByteArray}(h:s.size=1):∃b,s[0]?=some b:=⟨s[0],getElem?_pos s 0 (by omega)⟩
def Zew(n:Int)(c:List Int):List Int->Bool
 |[]=>true
 |v::rest=>inR v 0 (n-1) && !has c v && Zew n (c++[v]) rest
theorem Zbfr(n:Int){vs:List Int}{k:Nat}(h:k<vs.length):Zew n (vs.take k) (vs.drop k)=(inR vs[k] 0 (n-1) && !has (vs.take k) vs[k] && Zew n (vs.take (k+1)) (vs.drop (k+1))):=by
 conv=>lhs;rw[Yc h,Zew]
 rw[List.take_add_one,Yl h];rfl
theorem Z22{n:Int}:∀{vs c:List Int},Zew n c vs=true->∀v∈vs,inR v 0 (n-1)=true
 |[],_,_,v,hv=>by cases hv
 |x::xs,c,h,v,hv=>by
  simp only[Zew,Yd]at h
  cases hv with
  |head=>exact h.1.1
  |tail _ hv=>exact Z22 h.2 v hv
def Zcn(n:Int)(a:Atom):Bool:=nmOk a.Name && inR a.Vars.length 1 3 && Zew n [] a.Vars
def addA(p:Nat->Bool)(qa:List Atom):Nat->Bool:=λu=>p u || qa.any λa=>has a.Vars u
theorem Zbfs(p:Nat->Bool){qa:List Atom}{i:Nat}(h:i<qa.length):addA p (qa.drop i)=addA (addV p qa[i].Vars) (qa.drop (i+1)):=by
 rw[Yc h];funext u;simp only[addA,Ydd,addV,Bool.or_assoc]
def Zbi(n:Int)(qa:List Atom):Bool :=
 inR n 1 4 && inR qa.length 1 4 && qa.all (Zcn n) && (List.range n.toNat).all (addA (λ_=>false) qa)
def bl(p:Nat->Bool)(n:Nat):List (List T):=(List.range n).map λu=>[T.bool (p u)]
@[simp] theorem bl_get(p:Nat->Bool)(n i:Nat)(h:i<(bl p n).length):(bl p n)[i]=[T.bool (p i)]:=by simp[bl]
theorem bl_any(p:Nat->Bool)(n:Nat):((List.range n).map p).any (λx=>false == x)=!(List.range n).all p:=by
 rw[List.any_map,Yc0];simp
theorem Zwg:∀a b c d:Bool,(bit4 a b c d=1↔(a=true/\b=false/\c=false/\d=false))/\(bit4 a b c d=3↔(a=true/\b=true/\c=false/\d=false))/\(bit4 a b c d=7↔(a=true/\b=true/\c=true/\d=false))/\(bit4 a b c d=15↔(a=true/\b=true/\c=true/\d=true)):=by decide
theorem all_in{n:Int}{qa:List Atom}(h:qa.all (Zcn n)=true):∀u:Int,n<=u->qa.any (λa=>has a.Vars u)=false:=by
 intro u hu;rw[List.any_eq_false];intro a ha hc;rw[Zbfo]at hc;have:=Yn.1 h a ha;simp only[Zcn,Yd]at this;have:=Z22 this.2 _ hc;simp[inR]at this;omega
def Zcu(n:Int)(qa:List Atom):Int:=if Zbi n qa=true then shlI 1 qa.length-1 else 0
theorem Zka{n:Int}{qa:List Atom}(h:Zbi n qa=true):(qa.length=1\/qa.length=2\/qa.length=3\/qa.length=4)/\shlI 1 qa.length=2 ^ qa.length/\IntKind.wrap .i64 (shlI 1 qa.length-1)=shlI 1 qa.length-1/\IntKind.wrap .i64 (shlI 1 qa.length-1+1)=shlI 1 qa.length-1+1:=by
 simp only[Zbi,Yd]at h;have h2:=h.1.1.2;simp[inR]at h2;have h3:qa.length=1\/qa.length=2\/qa.length=3\/qa.length=4:=by omega
 refine⟨h3,?_⟩;rcases h3 with h3|h3|h3|h3<;>rw[h3]<;>decide
def Z0(m:Int)(i:Nat):Bool:=decide (andI (shrI m i) 1=1)
def hasV(m:Int):List Atom->Nat->Int->Bool
 |[],_,_=>false
 |a::as',i,u=>(Z0 m i && has a.Vars u) || hasV m as' (i+1) u
theorem Zbft(m:Int){qa:List Atom}{i:Nat}(h:i<qa.length)(u:Int):hasV m (qa.drop i) i u=((Z0 m i && has qa[i].Vars u) || hasV m (qa.drop (i+1)) (i+1) u):=by
 rw[Yc h,hasV]
def pV(m:Int)(qa:List Atom):Nat->Bool:=λu=>hasV m qa 0 u
def Var4(qa:List Atom):Prop:=∀a∈qa,∀v∈a.Vars,inR v 0 3=true
theorem Zbfu{n:Int}{qa:List Atom}(h:Zbi n qa=true):∀a∈qa,∀v∈a.Vars,inR v 0 (n-1)=true:=by
 intro a ha v hv;simp only[Zbi,Yd]at h;have:=Yn.1 h.1.2 a ha;simp only[Zcn,Yd]at this;exact Z22 this.2 v hv
theorem Zwh{n:Int}{qa:List Atom}(h:Zbi n qa=true):1<=n/\n<=4:=by
 simp only[Zbi,Yd]at h;have:=h.1.1.1;simpa[inR]using this
theorem Zbfv{n:Int}{qa:List Atom}(h:Zbi n qa=true):1<=qa.length/\qa.length<=4:=by
 simp only[Zbi,Yd]at h;have:=h.1.1.2;simp[inR]at this;omega
theorem valid4{n:Int}{qa:List Atom}(h:Zbi n qa=true):Var4 qa:=by
 intro a ha v hv;have:=Zbfu h a ha v hv;have h2:=Zwh h;simp[inR]at this|-;omega
def addM(m:Int)(p:Nat->Bool)(qa:List Atom)(i:Nat):Nat->Bool:=λu=>p u || hasV m (qa.drop i) i u
theorem Zb0y(m:Int)(p:Nat->Bool){qa:List Atom}{i:Nat}(h:i<qa.length):addM m p qa i=addM m (if Z0 m i=true then addV p qa[i].Vars else p) qa (i+1):=by
 funext u;rw[addM,Zbft _ h];rcases tf (Z0 m i)with e|e<;>simp[addM,addV,e,Bool.or_assoc]
def varL(m:Int)(qa:List Atom)(k:Nat):List Int:=((List.range k).filter (pV m qa)).map λu:Nat=>(u:Int)
theorem Zb0z(m:Int)(qa:List Atom)(k:Nat):varL m qa (k+1)=varL m qa k++if hasV m qa 0 k=true then[(k:Int)]else[]:=by
 unfold varL;rw[Yb0,Ycu,Y1];rcases tf (hasV m qa 0 k)with e|e<;>simp[pV,e]
theorem Zbfw(m:Int)(qa:List Atom)(k:Nat):(varL m qa k).length<=k:=by
 unfold varL;simp;exact Y0 (Ycv _ _) (by simp)
theorem Zbfx{α:Type}(p:α->Bool){xs:List α}{i:Nat}(h:i<xs.length):(xs.take (i+1)).filter p=(xs.take i).filter p++if p xs[i]=true then[xs[i]]else[]:=by
 rw[List.take_add_one,Yl h,Ycu];rcases tf (p xs[i])with e|e<;>simp[e]
def shr(qa:List Atom)(a b:Int):Bool:=(List.range 4).any λu=>pV a qa u && pV b qa u
theorem pV_lt{n:Int}{qa:List Atom}(h:Zbi n qa=true){m:Int}{u:Nat}(hp:pV m qa u=true):(u:Int)<n:=by
 have:∀(l:List Atom) (i:Nat),(∀a∈l,a∈qa)->hasV m l i u=true->(u:Int)<n:=by
  intro l
  induction l with
  |nil=>intro i _ hh;simp[hasV]at hh
  |cons a l ih =>
   intro i hs hh;simp only[hasV,Bool.or_eq_true,Yd]at hh;rcases hh with hh|hh
   .have:=Zbfu h a (hs a (by simp)) u (Zbfo.1 hh.2);simp[inR]at this;omega
   .exact ih (i+1) (λb hb=>hs b (by simp[hb])) hh
 exact this qa 0 (λa ha=>ha) hp
theorem hd0{xs:List Int}(h:0<xs.length):xs.head?.getD 0=xs[0]:=by cases xs with|nil=>simp at h|cons x xs=>rfl
def cmpR:List Int->List Int->Int
 |[],[]=>0
 |[],_::_=>-1
 |_::_,[]=>1
 |a::x,b::y=>if a<b then -1 else if b<a then 1 else cmpR x y
def leR(a b:List Int):Bool:=decide (cmpR a b<=0)
def srtR(rows:List (List Int)):List (List Int):=rows.mergeSort leR
def cptR:List (List Int)->List (List Int)
 |[]=>[]
 |[a]=>[a]
 |a::b::l=>if a=b then cptR (b::l)else a::cptR (b::l)
def srtI(l:List Int):List Int:=l.mergeSort λx y=>decide (x<=y)
def cptI:List Int->List Int
 |[]=>[]
 |[a]=>[a]
 |a::b::l=>if a=b then cptI (b::l)else a::cptI (b::l)
def Zbfy(es:List (List T))(rows:List (List Int)):Prop:=es=rows.map isc/\rows.length<=4096/\∀r∈rows,r.length<=4
def Zbfz(es:List (List T))(l:List Int):Prop:=es=l.map ic/\l.length<=4096
open Classical in
def extS(es:List (List T))(k:List (List Int)->AV×List Blk):Option (AV×List Blk):=if h:∃rows,Zbfy es rows then some (k h.choose)else none
open Classical in
def extI(es:List (List T))(k:List Int->AV×List Blk):Option (AV×List Blk):=if h:∃l,Zbfz es l then some (k h.choose)else none
def ext:Zu:=λf xs h0=>match xs,h0 with
 |[.own 0,.fn 276 []],[.arr 56 1 fr es]=>if f=277 then extS es λrows=>(.tup [],[.arr 56 1 fr ((srtR rows).map isc)])else none
 |[.own 0,.fn 279 []],[.arr 56 1 fr es]=>if f=278 then extS es λrows=>(.own 1,[.dead,.arr 56 1 fr ((cptR rows).map isc)])else none
 |[.own 0],[.arr 3 1 fr es]=>if f=251 then extI es λl=>(.tup [],[.arr 3 1 fr ((srtI l).map ic)])else if f=252 then extI es λl=>(.own 1,[.dead,.arr 3 1 fr ((cptI l).map ic)])else none
 |_,_=>none
open Go.ChangeShapes Go.WideShapes Go.ChangeAt Go.RowKit
theorem own:ownKnob Tryz.prog.godebug=none:=by kernel_rfl
theorem laidOut:laidOutB Tryz.prog=true:=by kernel_rfl
def tbl:Nat->Option MFun:=λf=>if f=277\/f=251 then none else tblOf Tryz.prog [4000003,4000004,4000005,4000006,2000010,2000011,2000018,3000020,3000021,3000022,2000025,3000027,2000035,2000036,2000037,2000038,2000039,3000052,3000053,3000054,3000055,3000056,2000072,2000073,2000074,2000075,2000076,3000094,3000095,6000105,2000113,2000114,2000115,7000119,3000138,3000139,142,6000143,6000146,8000152,6000153,2000158,2000159,6000171,189,6000192,6000194,9000196,6000197,7000197,6000198,6000199,8000199,2000202,8000209,7000212,8000215,6000216,6000218,6000234,6000235,6000236,6000238,7000238,9000242,6000242,7000242,251,252,254,6000255,6000256,8000256,6000265,277,278,282,6000284,6000285,6000287,7000287,9000290,6000290,7000290,302,6000313,6000314,321,323,325] f
def rawF(f:Nat)(fn:Func):Option MFun:=Zhd Tryz.prog (inlOf [4000003,4000004,4000005,4000006,2000010,2000011,2000018,3000020,3000021,3000022,2000025,3000027,2000035,2000036,2000037,2000038,2000039,3000052,3000053,3000054,3000055,3000056,2000072,2000073,2000074,2000075,2000076,3000094,3000095,6000105,2000113,2000114,2000115,7000119,3000138,3000139,142,6000143,6000146,8000152,6000153,2000158,2000159,6000171,189,6000192,6000194,9000196,6000197,7000197,6000198,6000199,8000199,2000202,8000209,7000212,8000215,6000216,6000218,6000234,6000235,6000236,6000238,7000238,9000242,6000242,7000242,251,252,254,6000255,6000256,8000256,6000265,277,278,282,6000284,6000285,6000287,7000287,9000290,6000290,7000290,302,6000313,6000314,321,323,325] f) (Zp9 fn) fn
theorem tbl_ok:TblOK Tryz.prog tbl:=by
 intro f m h;unfold tbl at h;split at h
 .cases h
 .exact tblOK _ _ f m h
theorem Zb{f:Nat}{fn:Func}{m:MFun}(hf:Tryz.prog.funcs[f]?=some fn)(hc:Zf1 Tryz.prog f=true:=by kernel_rfl)(h:Zhd Tryz.prog (inlOf [4000003,4000004,4000005,4000006,2000010,2000011,2000018,3000020,3000021,3000022,2000025,3000027,2000035,2000036,2000037,2000038,2000039,3000052,3000053,3000054,3000055,3000056,2000072,2000073,2000074,2000075,2000076,3000094,3000095,6000105,2000113,2000114,2000115,7000119,3000138,3000139,142,6000143,6000146,8000152,6000153,2000158,2000159,6000171,189,6000192,6000194,9000196,6000197,7000197,6000198,6000199,8000199,2000202,8000209,7000212,8000215,6000216,6000218,6000234,6000235,6000236,6000238,7000238,9000242,6000242,7000242,251,252,254,6000255,6000256,8000256,6000265,277,278,282,6000284,6000285,6000287,7000287,9000290,6000290,7000290,302,6000313,6000314,321,323,325] f) (Zp9 fn) fn=some m:=by kernel_rfl)(hne:¬(f=277\/f=251):=by decide):tbl f=some m:=by
 unfold tbl;rw[if_neg hne];exact tblOf_eq hf hc h
def C:Zu:=Zby ext tbl
theorem run{f:Nat}{xs:List AV}{m:MFun}(ht:tbl f=some m)(hl:xs.length=m.np){r:AV×List Blk}(h:Ev C [.fin 0 m.res] m.body ⟨Zf0 xs 0,[[]],[]⟩=some r):C f xs []=some r:=Zbey (h0:=[]) ht hl h
theorem runM{f:Nat}{xs:List AV}{h0:List Blk}{m:MFun}(ht:tbl f=some m)(hl:xs.length=m.np){r:AV×List Blk}(h:Ev C [.fin h0.length m.res] m.body ⟨Zf0 xs 0,[Zfe h0 0],h0⟩=some r):C f xs h0=some r:=Zbey ht hl h
abbrev Zb00:Nat:=3
abbrev Zb01:Nat:=7
abbrev Zb02:Nat:=8
abbrev Zb03:Nat:=10
abbrev Zb04:Nat:=11
abbrev Zb05:Nat:=13
abbrev Zb06:Nat:=14
abbrev Zb07:Nat:=19
abbrev Zb08:Nat:=29
abbrev Zb09:Nat:=30
abbrev Zb1a:Nat:=31
abbrev Zb1b:Nat:=32
abbrev Zb1c:Nat:=33
abbrev Zb1d:Nat:=35
abbrev Zb1e:Nat:=36
abbrev Zb1f:Nat:=37
abbrev Zb1g:Nat:=38
abbrev Zb1h:Nat:=39
abbrev Zb1i:Nat:=42
abbrev Zb1j:Nat:=43
abbrev Zb1k:Nat:=44
abbrev Zb1l:Nat:=45
abbrev Zb1m:Nat:=46
abbrev Zb1n:Nat:=62
abbrev Zb1o:Nat:=63
abbrev Zb1p:Nat:=64
abbrev Zb1q:Nat:=65
abbrev Zb1r:Nat:=66
abbrev Zb1s:Nat:=72
abbrev Zb1t:Nat:=73
abbrev Zb1u:Nat:=74
abbrev Zb1v:Nat:=75
abbrev Zb1w:Nat:=76
abbrev Zb1x:Nat:=81
abbrev Zb1y:Nat:=82
abbrev Zb1z:Nat:=83
abbrev Zb10:Nat:=84
abbrev Zb11:Nat:=85
abbrev Zb12:Nat:=102
abbrev Zb13:Nat:=103
abbrev Zb14:Nat:=104
abbrev Zb15:Nat:=113
abbrev Zb16:Nat:=114
abbrev Zb17:Nat:=115
abbrev Zb18:Nat:=125
abbrev Zb19:Nat:=126
abbrev Zb2a:Nat:=144
abbrev Zb2b:Nat:=145
abbrev Zb2c:Nat:=158
abbrev Zb2d:Nat:=159
abbrev Zb2e:Nat:=177
abbrev Zb2f:Nat:=178
abbrev Zb2g:Nat:=193
abbrev Zb2h:Nat:=202
abbrev Zb2i:Nat:=222
abbrev Zbv:Nat:=3
abbrev t_bool:Nat:=4
abbrev Zqc:Nat:=56
abbrev Zwi:Nat:=112
abbrev Zwj:Nat:=114
abbrev Zwk:Nat:=116
abbrev Zqd:Nat:=141
abbrev Zqe:Nat:=153
abbrev Zwl:Nat:=200
end
end Go.Proofs.YtnnjbejcffjgfaaGreat
