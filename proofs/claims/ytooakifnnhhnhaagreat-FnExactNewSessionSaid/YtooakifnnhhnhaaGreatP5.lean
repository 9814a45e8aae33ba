/-
  Parts of the proofs for this seat: TY.
-/
import Derived.Test.YtooakifnnhhnhaaGreatP4
set_option linter.unusedSimpArgs false
set_option linter.unusedVariables false
set_option maxRecDepth 100000
set_option maxHeartbeats 4000000
namespace Go.Proofs.YtooakifnnhhnhaaGreat
open Go.AM
@[ext] structure Zc where
 Name:ByteArray
 Arity:Int
 Rows:List (List Int)
 deriving DecidableEq
def Zc.c(x:Zc):List T:=[.str x.Name,.int .i64 x.Arity,tII x.Rows]
@[simp] theorem Zc.c_def(x:Zc):x.c=[.str x.Name,.int .i64 x.Arity,tII x.Rows]:=rfl
abbrev Zc.small(x:Zc):Prop:=SsA x.Name/\SmL SmA x.Rows
abbrev Zc.okay(x:Zc):Prop:=OkS x.Name/\OkI x.Arity/\OkL (OkL OkI) x.Rows
theorem Zc.dec(ts:List T)(h:HasShs [.str,.int .i64,.slice [.slice [.int .i64]]] ts):∃x:Zc,ts=x.c/\x.okay:=by
 obtain⟨t0,us0,rfl,g0,h0⟩:=Z2 h;obtain⟨t1,us1,rfl,g1,h1⟩:=Z2 h0;obtain⟨t2,us2,rfl,g2,h2⟩:=Z2 h1;cases Zff h2;obtain⟨x0,rfl,o0⟩:=Zl0 g0;obtain⟨x1,rfl,o1⟩:=Zbb g1;obtain⟨x2,rfl,o2⟩:=Z24 g2;exact⟨⟨x0,x1,x2⟩,rfl,o0,o1,o2⟩
def Zc.sz(x:Zc)(l:Int):Int:=Zu (sz1 x.Name.size l) λl=>Zu (szL szI x.Rows l) λl=>l
theorem Zc.sz_ok(x:Zc)(l:Int)(hx:x.okay)(h0:0<=l)(h1:l<=1048576)(h:0<=x.sz l):x.sz l<=l/\x.small:=by
 unfold Zc.sz at h|-;simp only[Zu]at h|-;split at h
 .omega
 rename_i q0;rw[if_neg q0];have s0:=Zeb hx.1 h0 h1 (Yc.1 q0);split at h
 .omega
 rename_i q1;rw[if_neg q1];have s1:=Zho (f:=szI) (p:=λy:List Int=>SmA y) hx.2.2.1 (λy hy l a b c=>Zeb (hx.2.2.2 y hy).1 a b c) (by omega) (by omega) (Yc.1 q1);exact⟨by omega,s0.2,s1.2⟩
@[ext] structure Zh where
 Tables:List Zc
 deriving DecidableEq
def Zh.c(x:Zh):List T:=[.lst 3 (x.Tables.map Zc.c)]
@[simp] theorem Zh.c_def(x:Zh):x.c=[.lst 3 (x.Tables.map Zc.c)]:=rfl
abbrev Zh.small(x:Zh):Prop:=SmL Zc.small x.Tables
abbrev Zh.okay(x:Zh):Prop:=OkL Zc.okay x.Tables
def Zh.sz(x:Zh)(l:Int):Int:=Zu (szL Zc.sz x.Tables l) λl=>l
theorem Zh.sz_ok(x:Zh)(l:Int)(hx:x.okay)(h0:0<=l)(h1:l<=1048576)(h:0<=x.sz l):x.sz l<=l/\x.small:=by
 unfold Zh.sz at h|-;simp only[Zu]at h|-;split at h
 .omega
 rename_i q0;rw[if_neg q0];have s0:=Zho (p:=Zc.small) hx.1 (λy hy l a b c=>Zc.sz_ok y l (hx.2 y hy) a b c) h0 h1 (Yc.1 q0);exact⟨by omega,s0.2⟩
@[ext] structure Atom where
 Name:ByteArray
 Vars:List Int
 deriving DecidableEq
def Atom.c(x:Atom):List T:=[.str x.Name,tI x.Vars]
@[simp] theorem Atom.c_def(x:Atom):x.c=[.str x.Name,tI x.Vars]:=rfl
abbrev Atom.small(x:Atom):Prop:=SsA x.Name/\SmA x.Vars
abbrev Atom.okay(x:Atom):Prop:=OkS x.Name/\OkL OkI x.Vars
def Atom.sz(x:Atom)(l:Int):Int:=Zu (sz1 x.Name.size l) λl=>Zu (sz1 x.Vars.length l) λl=>l
@[ext] structure Zbj where
 Zjh:Int
 Atoms:List Atom
 deriving DecidableEq
def Zbj.c(x:Zbj):List T:=[.int .i64 x.Zjh,.lst 2 (x.Atoms.map Atom.c)]
@[simp] theorem Zbj.c_def(x:Zbj):x.c=[.int .i64 x.Zjh,.lst 2 (x.Atoms.map Atom.c)]:=rfl
abbrev Zbj.small(x:Zbj):Prop:=SmL Atom.small x.Atoms
abbrev Zbj.okay(x:Zbj):Prop:=OkI x.Zjh/\OkL Atom.okay x.Atoms
def Zbj.sz(x:Zbj)(l:Int):Int:=Zu (szL Atom.sz x.Atoms l) λl=>l
@[ext] structure Ze where
 Name:ByteArray
 From:List Int
 To:Int
 deriving DecidableEq
def Ze.c(x:Ze):List T:=[.str x.Name,tI x.From,.int .i64 x.To]
@[simp] theorem Ze.c_def(x:Ze):x.c=[.str x.Name,tI x.From,.int .i64 x.To]:=rfl
abbrev Ze.small(x:Ze):Prop:=SsA x.Name/\SmA x.From
abbrev Ze.okay(x:Ze):Prop:=OkS x.Name/\OkL OkI x.From/\OkI x.To
theorem Ze.dec(ts:List T)(h:HasShs [.str,.slice [.int .i64],.int .i64] ts):∃x:Ze,ts=x.c/\x.okay:=by
 obtain⟨t0,us0,rfl,g0,h0⟩:=Z2 h;obtain⟨t1,us1,rfl,g1,h1⟩:=Z2 h0;obtain⟨t2,us2,rfl,g2,h2⟩:=Z2 h1;cases Zff h2;obtain⟨x0,rfl,o0⟩:=Zl0 g0;obtain⟨x1,rfl,o1⟩:=Zqj g1;obtain⟨x2,rfl,o2⟩:=Zbb g2;exact⟨⟨x0,x1,x2⟩,rfl,o0,o1,o2⟩
def Ze.sz(x:Ze)(l:Int):Int:=Zu (sz1 x.Name.size l) λl=>Zu (sz1 x.From.length l) λl=>l
theorem Ze.sz_ok(x:Ze)(l:Int)(hx:x.okay)(h0:0<=l)(h1:l<=1048576)(h:0<=x.sz l):x.sz l<=l/\x.small:=by
 unfold Ze.sz at h|-;simp only[Zu]at h|-;split at h
 .omega
 rename_i q0;rw[if_neg q0];have s0:=Zeb hx.1 h0 h1 (Yc.1 q0);split at h
 .omega
 rename_i q1;rw[if_neg q1];have s1:=Zeb hx.2.1.1 (by omega) (by omega) (Yc.1 q1);exact⟨by omega,s0.2,s1.2⟩
@[ext] structure Zf where
 Name:ByteArray
 Column:Int
 Into:ByteArray
 IntoColumn:Int
 deriving DecidableEq
def Zf.c(x:Zf):List T:=[.str x.Name,.int .i64 x.Column,.str x.Into,.int .i64 x.IntoColumn]
@[simp] theorem Zf.c_def(x:Zf):x.c=[.str x.Name,.int .i64 x.Column,.str x.Into,.int .i64 x.IntoColumn]:=rfl
abbrev Zf.small(x:Zf):Prop:=SsA x.Name/\SsA x.Into
abbrev Zf.okay(x:Zf):Prop:=OkS x.Name/\OkI x.Column/\OkS x.Into/\OkI x.IntoColumn
theorem Zf.dec(ts:List T)(h:HasShs [.str,.int .i64,.str,.int .i64] ts):∃x:Zf,ts=x.c/\x.okay:=by
 obtain⟨t0,us0,rfl,g0,h0⟩:=Z2 h;obtain⟨t1,us1,rfl,g1,h1⟩:=Z2 h0;obtain⟨t2,us2,rfl,g2,h2⟩:=Z2 h1;obtain⟨t3,us3,rfl,g3,h3⟩:=Z2 h2;cases Zff h3;obtain⟨x0,rfl,o0⟩:=Zl0 g0;obtain⟨x1,rfl,o1⟩:=Zbb g1;obtain⟨x2,rfl,o2⟩:=Zl0 g2;obtain⟨x3,rfl,o3⟩:=Zbb g3;exact⟨⟨x0,x1,x2,x3⟩,rfl,o0,o1,o2,o3⟩
def Zf.sz(x:Zf)(l:Int):Int:=Zu (sz1 x.Name.size l) λl=>Zu (sz1 x.Into.size l) λl=>l
theorem Zf.sz_ok(x:Zf)(l:Int)(hx:x.okay)(h0:0<=l)(h1:l<=1048576)(h:0<=x.sz l):x.sz l<=l/\x.small:=by
 unfold Zf.sz at h|-;simp only[Zu]at h|-;split at h
 .omega
 rename_i q0;rw[if_neg q0];have s0:=Zeb hx.1 h0 h1 (Yc.1 q0);split at h
 .omega
 rename_i q1;rw[if_neg q1];have s1:=Zeb hx.2.2.1 (by omega) (by omega) (Yc.1 q1);exact⟨by omega,s0.2,s1.2⟩
@[ext] structure Zj where
 Columns:List Int
 Values:List (List Int)
 Counts:List Int
 deriving DecidableEq
def Zj.c(x:Zj):List T:=[tI x.Columns,tII x.Values,tI x.Counts]
@[simp] theorem Zj.c_def(x:Zj):x.c=[tI x.Columns,tII x.Values,tI x.Counts]:=rfl
abbrev Zj.small(x:Zj):Prop:=SmA x.Columns/\SmL SmA x.Values/\SmA x.Counts
abbrev Zj.okay(x:Zj):Prop:=OkL OkI x.Columns/\OkL (OkL OkI) x.Values/\OkL OkI x.Counts
theorem Zj.dec(ts:List T)(h:HasShs [.slice [.int .i64],.slice [.slice [.int .i64]],.slice [.int .i64]] ts):∃x:Zj,ts=x.c/\x.okay:=by
 obtain⟨t0,us0,rfl,g0,h0⟩:=Z2 h;obtain⟨t1,us1,rfl,g1,h1⟩:=Z2 h0;obtain⟨t2,us2,rfl,g2,h2⟩:=Z2 h1;cases Zff h2;obtain⟨x0,rfl,o0⟩:=Zqj g0;obtain⟨x1,rfl,o1⟩:=Z24 g1;obtain⟨x2,rfl,o2⟩:=Zqj g2;exact⟨⟨x0,x1,x2⟩,rfl,o0,o1,o2⟩
def Zj.sz(x:Zj)(l:Int):Int:=Zu (sz1 x.Columns.length l) λl=>Zu (szL szI x.Values l) λl=>Zu (sz1 x.Counts.length l) λl=>l
theorem Zj.sz_ok(x:Zj)(l:Int)(hx:x.okay)(h0:0<=l)(h1:l<=1048576)(h:0<=x.sz l):x.sz l<=l/\x.small:=by
 unfold Zj.sz at h|-;simp only[Zu]at h|-;split at h
 .omega
 rename_i q0;rw[if_neg q0];have s0:=Zeb hx.1.1 h0 h1 (Yc.1 q0);split at h
 .omega
 rename_i q1;rw[if_neg q1];have s1:=Zho (f:=szI) (p:=λy:List Int=>SmA y) hx.2.1.1 (λy hy l a b c=>Zeb (hx.2.1.2 y hy).1 a b c) (by omega) (by omega) (Yc.1 q1);split at h
 .omega
 rename_i q2;rw[if_neg q2];have s2:=Zeb hx.2.2.1 (by omega) (by omega) (Yc.1 q2);exact⟨by omega,s0.2,s1.2,s2.2⟩
@[ext] structure Zd where
 Name:ByteArray
 Arity:Int
 RowCount:Int
 Groups:List Zj
 deriving DecidableEq
def Zd.c(x:Zd):List T:=[.str x.Name,.int .i64 x.Arity,.int .i64 x.RowCount,.lst 3 (x.Groups.map Zj.c)]
@[simp] theorem Zd.c_def(x:Zd):x.c=[.str x.Name,.int .i64 x.Arity,.int .i64 x.RowCount,.lst 3 (x.Groups.map Zj.c)]:=rfl
abbrev Zd.small(x:Zd):Prop:=SsA x.Name/\SmL Zj.small x.Groups
abbrev Zd.okay(x:Zd):Prop:=OkS x.Name/\OkI x.Arity/\OkI x.RowCount/\OkL Zj.okay x.Groups
theorem Zd.dec(ts:List T)(h:HasShs [.str,.int .i64,.int .i64,.slice [.slice [.int .i64],.slice [.slice [.int .i64]],.slice [.int .i64]]] ts):∃x:Zd,ts=x.c/\x.okay:=by
 obtain⟨t0,us0,rfl,g0,h0⟩:=Z2 h;obtain⟨t1,us1,rfl,g1,h1⟩:=Z2 h0;obtain⟨t2,us2,rfl,g2,h2⟩:=Z2 h1;obtain⟨t3,us3,rfl,g3,h3⟩:=Z2 h2;cases Zff h3;obtain⟨x0,rfl,o0⟩:=Zl0 g0;obtain⟨x1,rfl,o1⟩:=Zbb g1;obtain⟨x2,rfl,o2⟩:=Zbb g2;obtain⟨x3,rfl,o3⟩:=Zec Zj.dec g3;exact⟨⟨x0,x1,x2,x3⟩,rfl,o0,o1,o2,o3⟩
def Zd.sz(x:Zd)(l:Int):Int:=Zu (sz1 x.Name.size l) λl=>Zu (szL Zj.sz x.Groups l) λl=>l
theorem Zd.sz_ok(x:Zd)(l:Int)(hx:x.okay)(h0:0<=l)(h1:l<=1048576)(h:0<=x.sz l):x.sz l<=l/\x.small:=by
 unfold Zd.sz at h|-;simp only[Zu]at h|-;split at h
 .omega
 rename_i q0;rw[if_neg q0];have s0:=Zeb hx.1 h0 h1 (Yc.1 q0);split at h
 .omega
 rename_i q1;rw[if_neg q1];have s1:=Zho (p:=Zj.small) hx.2.2.2.1 (λy hy l a b c=>Zj.sz_ok y l (hx.2.2.2.2 y hy) a b c) (by omega) (by omega) (Yc.1 q1);exact⟨by omega,s0.2,s1.2⟩
@[ext] structure Zl where
 Version:Int
 Tables:List Zd
 deriving DecidableEq
def Zl.c(x:Zl):List T:=[.int .i64 x.Version,.lst 4 (x.Tables.map Zd.c)]
@[simp] theorem Zl.c_def(x:Zl):x.c=[.int .i64 x.Version,.lst 4 (x.Tables.map Zd.c)]:=rfl
abbrev Zl.small(x:Zl):Prop:=SmL Zd.small x.Tables
abbrev Zl.okay(x:Zl):Prop:=OkI x.Version/\OkL Zd.okay x.Tables
def Zl.sz(x:Zl)(l:Int):Int:=Zu (szL Zd.sz x.Tables l) λl=>l
theorem Zl.sz_ok(x:Zl)(l:Int)(hx:x.okay)(h0:0<=l)(h1:l<=1048576)(h:0<=x.sz l):x.sz l<=l/\x.small:=by
 unfold Zl.sz at h|-;simp only[Zu]at h|-;split at h
 .omega
 rename_i q0;rw[if_neg q0];have s0:=Zho (p:=Zd.small) hx.2.1 (λy hy l a b c=>Zd.sz_ok y l (hx.2.2 y hy) a b c) h0 h1 (Yc.1 q0);exact⟨by omega,s0.2⟩
@[ext] structure Zm where
 Zh:Zh
 Zl:Zl
 Dependencies:List Ze
 Inclusions:List Zf
 deriving DecidableEq
def Zm.c(x:Zm):List T:=[.lst 3 (x.Zh.Tables.map Zc.c),.int .i64 x.Zl.Version,.lst 4 (x.Zl.Tables.map Zd.c),.lst 3 (x.Dependencies.map Ze.c),.lst 4 (x.Inclusions.map Zf.c)]
@[simp] theorem Zm.c_def(x:Zm):x.c=[.lst 3 (x.Zh.Tables.map Zc.c),.int .i64 x.Zl.Version,.lst 4 (x.Zl.Tables.map Zd.c),.lst 3 (x.Dependencies.map Ze.c),.lst 4 (x.Inclusions.map Zf.c)]:=rfl
abbrev Zm.small(x:Zm):Prop:=SmL Zc.small x.Zh.Tables/\SmL Zd.small x.Zl.Tables/\SmL Ze.small x.Dependencies/\SmL Zf.small x.Inclusions
abbrev Zm.okay(x:Zm):Prop:=OkL Zc.okay x.Zh.Tables/\OkI x.Zl.Version/\OkL Zd.okay x.Zl.Tables/\OkL Ze.okay x.Dependencies/\OkL Zf.okay x.Inclusions
theorem Zm.dec(ts:List T)(h:HasShs [.slice [.str,.int .i64,.slice [.slice [.int .i64]]],.int .i64,.slice [.str,.int .i64,.int .i64,.slice [.slice [.int .i64],.slice [.slice [.int .i64]],.slice [.int .i64]]],.slice [.str,.slice [.int .i64],.int .i64],.slice [.str,.int .i64,.str,.int .i64]] ts):∃x:Zm,ts=x.c/\x.okay:=by
 obtain⟨t0,us0,rfl,g0,h0⟩:=Z2 h;obtain⟨t1,us1,rfl,g1,h1⟩:=Z2 h0;obtain⟨t2,us2,rfl,g2,h2⟩:=Z2 h1;obtain⟨t3,us3,rfl,g3,h3⟩:=Z2 h2;obtain⟨t4,us4,rfl,g4,h4⟩:=Z2 h3;cases Zff h4;obtain⟨x0,rfl,o0⟩:=Zec Zc.dec g0;obtain⟨x1,rfl,o1⟩:=Zbb g1;obtain⟨x2,rfl,o2⟩:=Zec Zd.dec g2;obtain⟨x3,rfl,o3⟩:=Zec Ze.dec g3;obtain⟨x4,rfl,o4⟩:=Zec Zf.dec g4;exact⟨⟨⟨x0⟩,⟨x1,x2⟩,x3,x4⟩,rfl,o0,o1,o2,o3,o4⟩
def Zm.sz(x:Zm)(l:Int):Int:=Zu (Zh.sz x.Zh l) λl=>Zu (Zl.sz x.Zl l) λl=>Zu (szL Ze.sz x.Dependencies l) λl=>Zu (szL Zf.sz x.Inclusions l) λl=>l
theorem Zm.sz_ok(x:Zm)(l:Int)(hx:x.okay)(h0:0<=l)(h1:l<=1048576)(h:0<=x.sz l):x.sz l<=l/\x.small:=by
 unfold Zm.sz at h|-;simp only[Zu]at h|-;split at h
 .omega
 rename_i q0;rw[if_neg q0];have s0:=Zh.sz_ok x.Zh _ hx.1 h0 h1 (Yc.1 q0);split at h
 .omega
 rename_i q1;rw[if_neg q1];have s1:=Zl.sz_ok x.Zl _ ⟨hx.2.1,hx.2.2.1⟩ (by omega) (by omega) (Yc.1 q1);split at h
 .omega
 rename_i q2;rw[if_neg q2];have s2:=Zho (p:=Ze.small) hx.2.2.2.1.1 (λy hy l a b c=>Ze.sz_ok y l (hx.2.2.2.1.2 y hy) a b c) (by omega) (by omega) (Yc.1 q2);split at h
 .omega
 rename_i q3;rw[if_neg q3];have s3:=Zho (p:=Zf.small) hx.2.2.2.2.1 (λy hy l a b c=>Zf.sz_ok y l (hx.2.2.2.2.2 y hy) a b c) (by omega) (by omega) (Yc.1 q3);exact⟨by omega,s0.2,s1.2,s2.2,s3.2⟩
@[ext] structure Box where
 Low:List Int
 High:List Int
 deriving DecidableEq
def Box.c(x:Box):List T:=[tI x.Low,tI x.High]
@[simp] theorem Box.c_def(x:Box):x.c=[tI x.Low,tI x.High]:=rfl
abbrev Box.small(x:Box):Prop:=SmA x.Low/\SmA x.High
abbrev Box.okay(x:Box):Prop:=OkL OkI x.Low/\OkL OkI x.High
def Box.sz(x:Box)(l:Int):Int:=Zu (sz1 x.Low.length l) λl=>Zu (sz1 x.High.length l) λl=>l
@[ext] structure Zb where
 From:Int
 Add:Int
 deriving DecidableEq
def Zb.c(x:Zb):List T:=[.int .i64 x.From,.int .i64 x.Add]
@[simp] theorem Zb.c_def(x:Zb):x.c=[.int .i64 x.From,.int .i64 x.Add]:=rfl
abbrev Zb.small(x:Zb):Prop:=True
abbrev Zb.okay(x:Zb):Prop:=OkI x.From/\OkI x.Add
theorem Zb.dec(ts:List T)(h:HasShs [.int .i64,.int .i64] ts):∃x:Zb,ts=x.c/\x.okay:=by
 obtain⟨t0,us0,rfl,g0,h0⟩:=Z2 h;obtain⟨t1,us1,rfl,g1,h1⟩:=Z2 h0;cases Zff h1;obtain⟨x0,rfl,o0⟩:=Zbb g0;obtain⟨x1,rfl,o1⟩:=Zbb g1;exact⟨⟨x0,x1⟩,rfl,o0,o1⟩
@[ext] structure Zn where
 Fixed:Int
 Zo:Int
 Zp:Int
 Zq:Int
 Zr:Int
 Steps:List Zb
 deriving DecidableEq
def Zn.c(x:Zn):List T:=[.int .i64 x.Fixed,.int .i64 x.Zo,.int .i64 x.Zp,.int .i64 x.Zq,.int .i64 x.Zr,.lst 2 (x.Steps.map Zb.c)]
@[simp] theorem Zn.c_def(x:Zn):x.c=[.int .i64 x.Fixed,.int .i64 x.Zo,.int .i64 x.Zp,.int .i64 x.Zq,.int .i64 x.Zr,.lst 2 (x.Steps.map Zb.c)]:=rfl
abbrev Zn.small(x:Zn):Prop:=SmA x.Steps
abbrev Zn.okay(x:Zn):Prop:=OkI x.Fixed/\OkI x.Zo/\OkI x.Zp/\OkI x.Zq/\OkI x.Zr/\OkL Zb.okay x.Steps
def Zn.sz(x:Zn)(l:Int):Int:=Zu (sz1 x.Steps.length l) λl=>l
theorem Zn.sz_ok(x:Zn)(l:Int)(hx:x.okay)(h0:0<=l)(h1:l<=1048576)(h:0<=x.sz l):x.sz l<=l/\x.small:=by
 unfold Zn.sz at h|-;simp only[Zu]at h|-;split at h
 .omega
 rename_i q0;rw[if_neg q0];have s0:=Zeb hx.2.2.2.2.2.1 h0 h1 (Yc.1 q0);exact⟨by omega,s0.2⟩
@[ext] structure Za where
 Scan:Zn
 Sort_:Zn
 Hash:Zn
 Merge:Zn
 Nested:Zn
 deriving DecidableEq
def Za.c(x:Za):List T:=[.int .i64 x.Scan.Fixed,.int .i64 x.Scan.Zo,.int .i64 x.Scan.Zp,.int .i64 x.Scan.Zq,.int .i64 x.Scan.Zr,.lst 2 (x.Scan.Steps.map Zb.c),.int .i64 x.Sort_.Fixed,.int .i64 x.Sort_.Zo,.int .i64 x.Sort_.Zp,.int .i64 x.Sort_.Zq,.int .i64 x.Sort_.Zr,.lst 2 (x.Sort_.Steps.map Zb.c),.int .i64 x.Hash.Fixed,.int .i64 x.Hash.Zo,.int .i64 x.Hash.Zp,.int .i64 x.Hash.Zq,.int .i64 x.Hash.Zr,.lst 2 (x.Hash.Steps.map Zb.c),.int .i64 x.Merge.Fixed,.int .i64 x.Merge.Zo,.int .i64 x.Merge.Zp,.int .i64 x.Merge.Zq,.int .i64 x.Merge.Zr,.lst 2 (x.Merge.Steps.map Zb.c),.int .i64 x.Nested.Fixed,.int .i64 x.Nested.Zo,.int .i64 x.Nested.Zp,.int .i64 x.Nested.Zq,.int .i64 x.Nested.Zr,.lst 2 (x.Nested.Steps.map Zb.c)]
@[simp] theorem Za.c_def(x:Za):x.c=[.int .i64 x.Scan.Fixed,.int .i64 x.Scan.Zo,.int .i64 x.Scan.Zp,.int .i64 x.Scan.Zq,.int .i64 x.Scan.Zr,.lst 2 (x.Scan.Steps.map Zb.c),.int .i64 x.Sort_.Fixed,.int .i64 x.Sort_.Zo,.int .i64 x.Sort_.Zp,.int .i64 x.Sort_.Zq,.int .i64 x.Sort_.Zr,.lst 2 (x.Sort_.Steps.map Zb.c),.int .i64 x.Hash.Fixed,.int .i64 x.Hash.Zo,.int .i64 x.Hash.Zp,.int .i64 x.Hash.Zq,.int .i64 x.Hash.Zr,.lst 2 (x.Hash.Steps.map Zb.c),.int .i64 x.Merge.Fixed,.int .i64 x.Merge.Zo,.int .i64 x.Merge.Zp,.int .i64 x.Merge.Zq,.int .i64 x.Merge.Zr,.lst 2 (x.Merge.Steps.map Zb.c),.int .i64 x.Nested.Fixed,.int .i64 x.Nested.Zo,.int .i64 x.Nested.Zp,.int .i64 x.Nested.Zq,.int .i64 x.Nested.Zr,.lst 2 (x.Nested.Steps.map Zb.c)]:=rfl
abbrev Za.small(x:Za):Prop:=SmA x.Scan.Steps/\SmA x.Sort_.Steps/\SmA x.Hash.Steps/\SmA x.Merge.Steps/\SmA x.Nested.Steps
abbrev Za.okay(x:Za):Prop:=OkI x.Scan.Fixed/\OkI x.Scan.Zo/\OkI x.Scan.Zp/\OkI x.Scan.Zq/\OkI x.Scan.Zr/\OkL Zb.okay x.Scan.Steps/\OkI x.Sort_.Fixed/\OkI x.Sort_.Zo/\OkI x.Sort_.Zp/\OkI x.Sort_.Zq/\OkI x.Sort_.Zr/\OkL Zb.okay x.Sort_.Steps/\OkI x.Hash.Fixed/\OkI x.Hash.Zo/\OkI x.Hash.Zp/\OkI x.Hash.Zq/\OkI x.Hash.Zr/\OkL Zb.okay x.Hash.Steps/\OkI x.Merge.Fixed/\OkI x.Merge.Zo/\OkI x.Merge.Zp/\OkI x.Merge.Zq/\OkI x.Merge.Zr/\OkL Zb.okay x.Merge.Steps/\OkI x.Nested.Fixed/\OkI x.Nested.Zo/\OkI x.Nested.Zp/\OkI x.Nested.Zq/\OkI x.Nested.Zr/\OkL Zb.okay x.Nested.Steps
theorem Za.dec(ts:List T)(h:HasShs [.int .i64,.int .i64,.int .i64,.int .i64,.int .i64,.slice [.int .i64,.int .i64],.int .i64,.int .i64,.int .i64,.int .i64,.int .i64,.slice [.int .i64,.int .i64],.int .i64,.int .i64,.int .i64,.int .i64,.int .i64,.slice [.int .i64,.int .i64],.int .i64,.int .i64,.int .i64,.int .i64,.int .i64,.slice [.int .i64,.int .i64],.int .i64,.int .i64,.int .i64,.int .i64,.int .i64,.slice [.int .i64,.int .i64]] ts):∃x:Za,ts=x.c/\x.okay:=by
 obtain⟨t0,us0,rfl,g0,h0⟩:=Z2 h;obtain⟨t1,us1,rfl,g1,h1⟩:=Z2 h0;obtain⟨t2,us2,rfl,g2,h2⟩:=Z2 h1;obtain⟨t3,us3,rfl,g3,h3⟩:=Z2 h2;obtain⟨t4,us4,rfl,g4,h4⟩:=Z2 h3;obtain⟨t5,us5,rfl,g5,h5⟩:=Z2 h4;obtain⟨t6,us6,rfl,g6,h6⟩:=Z2 h5;obtain⟨t7,us7,rfl,g7,h7⟩:=Z2 h6;obtain⟨t8,us8,rfl,g8,h8⟩:=Z2 h7;obtain⟨t9,us9,rfl,g9,h9⟩:=Z2 h8;obtain⟨t10,us10,rfl,g10,h10⟩:=Z2 h9;obtain⟨t11,us11,rfl,g11,h11⟩:=Z2 h10;obtain⟨t12,us12,rfl,g12,h12⟩:=Z2 h11;obtain⟨t13,us13,rfl,g13,h13⟩:=Z2 h12;obtain⟨t14,us14,rfl,g14,h14⟩:=Z2 h13;obtain⟨t15,us15,rfl,g15,h15⟩:=Z2 h14;obtain⟨t16,us16,rfl,g16,h16⟩:=Z2 h15;obtain⟨t17,us17,rfl,g17,h17⟩:=Z2 h16;obtain⟨t18,us18,rfl,g18,h18⟩:=Z2 h17;obtain⟨t19,us19,rfl,g19,h19⟩:=Z2 h18;obtain⟨t20,us20,rfl,g20,h20⟩:=Z2 h19;obtain⟨t21,us21,rfl,g21,h21⟩:=Z2 h20;obtain⟨t22,us22,rfl,g22,h22⟩:=Z2 h21;obtain⟨t23,us23,rfl,g23,h23⟩:=Z2 h22;obtain⟨t24,us24,rfl,g24,h24⟩:=Z2 h23;obtain⟨t25,us25,rfl,g25,h25⟩:=Z2 h24;obtain⟨t26,us26,rfl,g26,h26⟩:=Z2 h25;obtain⟨t27,us27,rfl,g27,h27⟩:=Z2 h26;obtain⟨t28,us28,rfl,g28,h28⟩:=Z2 h27;obtain⟨t29,us29,rfl,g29,h29⟩:=Z2 h28;cases Zff h29;obtain⟨x0,rfl,o0⟩:=Zbb g0;obtain⟨x1,rfl,o1⟩:=Zbb g1;obtain⟨x2,rfl,o2⟩:=Zbb g2;obtain⟨x3,rfl,o3⟩:=Zbb g3;obtain⟨x4,rfl,o4⟩:=Zbb g4;obtain⟨x5,rfl,o5⟩:=Zec Zb.dec g5;obtain⟨x6,rfl,o6⟩:=Zbb g6;obtain⟨x7,rfl,o7⟩:=Zbb g7;obtain⟨x8,rfl,o8⟩:=Zbb g8;obtain⟨x9,rfl,o9⟩:=Zbb g9;obtain⟨x10,rfl,o10⟩:=Zbb g10;obtain⟨x11,rfl,o11⟩:=Zec Zb.dec g11;obtain⟨x12,rfl,o12⟩:=Zbb g12;obtain⟨x13,rfl,o13⟩:=Zbb g13;obtain⟨x14,rfl,o14⟩:=Zbb g14;obtain⟨x15,rfl,o15⟩:=Zbb g15;obtain⟨x16,rfl,o16⟩:=Zbb g16;obtain⟨x17,rfl,o17⟩:=Zec Zb.dec g17;obtain⟨x18,rfl,o18⟩:=Zbb g18;obtain⟨x19,rfl,o19⟩:=Zbb g19;obtain⟨x20,rfl,o20⟩:=Zbb g20;obtain⟨x21,rfl,o21⟩:=Zbb g21;obtain⟨x22,rfl,o22⟩:=Zbb g22;obtain⟨x23,rfl,o23⟩:=Zec Zb.dec g23;obtain⟨x24,rfl,o24⟩:=Zbb g24;obtain⟨x25,rfl,o25⟩:=Zbb g25;obtain⟨x26,rfl,o26⟩:=Zbb g26;obtain⟨x27,rfl,o27⟩:=Zbb g27;obtain⟨x28,rfl,o28⟩:=Zbb g28;obtain⟨x29,rfl,o29⟩:=Zec Zb.dec g29;exact⟨⟨⟨x0,x1,x2,x3,x4,x5⟩,⟨x6,x7,x8,x9,x10,x11⟩,⟨x12,x13,x14,x15,x16,x17⟩,⟨x18,x19,x20,x21,x22,x23⟩,⟨x24,x25,x26,x27,x28,x29⟩⟩,rfl,o0,o1,o2,o3,o4,o5,o6,o7,o8,o9,o10,o11,o12,o13,o14,o15,o16,o17,o18,o19,o20,o21,o22,o23,o24,o25,o26,o27,o28,o29⟩
def Za.sz(x:Za)(l:Int):Int:=Zu (Zn.sz x.Scan l) λl=>Zu (Zn.sz x.Sort_ l) λl=>Zu (Zn.sz x.Hash l) λl=>Zu (Zn.sz x.Merge l) λl=>Zu (Zn.sz x.Nested l) λl=>l
theorem Za.sz_ok(x:Za)(l:Int)(hx:x.okay)(h0:0<=l)(h1:l<=1048576)(h:0<=x.sz l):x.sz l<=l/\x.small:=by
 unfold Za.sz at h|-;simp only[Zu]at h|-;split at h
 .omega
 rename_i q0;rw[if_neg q0];have s0:=Zn.sz_ok x.Scan _ ⟨hx.1,hx.2.1,hx.2.2.1,hx.2.2.2.1,hx.2.2.2.2.1,hx.2.2.2.2.2.1⟩ h0 h1 (Yc.1 q0);split at h
 .omega
 rename_i q1;rw[if_neg q1];have s1:=Zn.sz_ok x.Sort_ _ ⟨hx.2.2.2.2.2.2.1,hx.2.2.2.2.2.2.2.1,hx.2.2.2.2.2.2.2.2.1,hx.2.2.2.2.2.2.2.2.2.1,hx.2.2.2.2.2.2.2.2.2.2.1,hx.2.2.2.2.2.2.2.2.2.2.2.1⟩ (by omega) (by omega) (Yc.1 q1);split at h
 .omega
 rename_i q2;rw[if_neg q2];have s2:=Zn.sz_ok x.Hash _ ⟨hx.2.2.2.2.2.2.2.2.2.2.2.2.1,hx.2.2.2.2.2.2.2.2.2.2.2.2.2.1,hx.2.2.2.2.2.2.2.2.2.2.2.2.2.2.1,hx.2.2.2.2.2.2.2.2.2.2.2.2.2.2.2.1,hx.2.2.2.2.2.2.2.2.2.2.2.2.2.2.2.2.1,hx.2.2.2.2.2.2.2.2.2.2.2.2.2.2.2.2.2.1⟩ (by omega) (by omega) (Yc.1 q2);split at h
 .omega
 rename_i q3;rw[if_neg q3];have s3:=Zn.sz_ok x.Merge _ ⟨hx.2.2.2.2.2.2.2.2.2.2.2.2.2.2.2.2.2.2.1,hx.2.2.2.2.2.2.2.2.2.2.2.2.2.2.2.2.2.2.2.1,hx.2.2.2.2.2.2.2.2.2.2.2.2.2.2.2.2.2.2.2.2.1,hx.2.2.2.2.2.2.2.2.2.2.2.2.2.2.2.2.2.2.2.2.2.1,hx.2.2.2.2.2.2.2.2.2.2.2.2.2.2.2.2.2.2.2.2.2.2.1,hx.2.2.2.2.2.2.2.2.2.2.2.2.2.2.2.2.2.2.2.2.2.2.2.1⟩ (by omega) (by omega) (Yc.1 q3);split at h
 .omega
 rename_i q4;rw[if_neg q4];have s4:=Zn.sz_ok x.Nested _ ⟨hx.2.2.2.2.2.2.2.2.2.2.2.2.2.2.2.2.2.2.2.2.2.2.2.2.1,hx.2.2.2.2.2.2.2.2.2.2.2.2.2.2.2.2.2.2.2.2.2.2.2.2.2.1,hx.2.2.2.2.2.2.2.2.2.2.2.2.2.2.2.2.2.2.2.2.2.2.2.2.2.2.1,hx.2.2.2.2.2.2.2.2.2.2.2.2.2.2.2.2.2.2.2.2.2.2.2.2.2.2.2.1,hx.2.2.2.2.2.2.2.2.2.2.2.2.2.2.2.2.2.2.2.2.2.2.2.2.2.2.2.2.1,hx.2.2.2.2.2.2.2.2.2.2.2.2.2.2.2.2.2.2.2.2.2.2.2.2.2.2.2.2.2⟩ (by omega) (by omega) (Yc.1 q4);exact⟨by omega,s0.2,s1.2,s2.2,s3.2,s4.2⟩
@[ext] structure Zb3 where
 Kind:Int
 Atom:Int
 Order:Int
 deriving DecidableEq
def Zb3.c(x:Zb3):List T:=[.int .i64 x.Kind,.int .i64 x.Atom,.int .i64 x.Order]
@[simp] theorem Zb3.c_def(x:Zb3):x.c=[.int .i64 x.Kind,.int .i64 x.Atom,.int .i64 x.Order]:=rfl
abbrev Zb3.small(x:Zb3):Prop:=True
abbrev Zb3.okay(x:Zb3):Prop:=OkI x.Kind/\OkI x.Atom/\OkI x.Order
@[ext] structure Plan where
 Steps:List Zb3
 deriving DecidableEq
def Plan.c(x:Plan):List T:=[.lst 3 (x.Steps.map Zb3.c)]
@[simp] theorem Plan.c_def(x:Plan):x.c=[.lst 3 (x.Steps.map Zb3.c)]:=rfl
abbrev Plan.small(x:Plan):Prop:=SmA x.Steps
abbrev Plan.okay(x:Plan):Prop:=OkL Zb3.okay x.Steps
def Plan.sz(x:Plan)(l:Int):Int:=Zu (sz1 x.Steps.length l) λl=>l
@[ext] structure Region where
 Plan:Plan
 Box:Box
 Percent:Int
 deriving DecidableEq
def Region.c(x:Region):List T:=[.lst 3 (x.Plan.Steps.map Zb3.c),tI x.Box.Low,tI x.Box.High,.int .i64 x.Percent]
@[simp] theorem Region.c_def(x:Region):x.c=[.lst 3 (x.Plan.Steps.map Zb3.c),tI x.Box.Low,tI x.Box.High,.int .i64 x.Percent]:=rfl
abbrev Region.small(x:Region):Prop:=SmA x.Plan.Steps/\SmA x.Box.Low/\SmA x.Box.High
abbrev Region.okay(x:Region):Prop:=OkL Zb3.okay x.Plan.Steps/\OkL OkI x.Box.Low/\OkL OkI x.Box.High/\OkI x.Percent
def Region.sz(x:Region)(l:Int):Int:=Zu (Plan.sz x.Plan l) λl=>Zu (Box.sz x.Box l) λl=>l
@[ext] structure Zbs where
 Zbj:Zbj
 Region:Region
 Version:Int
 Used:Int
 deriving DecidableEq
def Zbs.c(x:Zbs):List T:=[.int .i64 x.Zbj.Zjh,.lst 2 (x.Zbj.Atoms.map Atom.c),.lst 3 (x.Region.Plan.Steps.map Zb3.c),tI x.Region.Box.Low,tI x.Region.Box.High,.int .i64 x.Region.Percent,.int .i64 x.Version,.int .i64 x.Used]
@[simp] theorem Zbs.c_def(x:Zbs):x.c=[.int .i64 x.Zbj.Zjh,.lst 2 (x.Zbj.Atoms.map Atom.c),.lst 3 (x.Region.Plan.Steps.map Zb3.c),tI x.Region.Box.Low,tI x.Region.Box.High,.int .i64 x.Region.Percent,.int .i64 x.Version,.int .i64 x.Used]:=rfl
abbrev Zbs.small(x:Zbs):Prop:=SmL Atom.small x.Zbj.Atoms/\SmA x.Region.Plan.Steps/\SmA x.Region.Box.Low/\SmA x.Region.Box.High
abbrev Zbs.okay(x:Zbs):Prop:=OkI x.Zbj.Zjh/\OkL Atom.okay x.Zbj.Atoms/\OkL Zb3.okay x.Region.Plan.Steps/\OkL OkI x.Region.Box.Low/\OkL OkI x.Region.Box.High/\OkI x.Region.Percent/\OkI x.Version/\OkI x.Used
def Zbs.sz(x:Zbs)(l:Int):Int:=Zu (Zbj.sz x.Zbj l) λl=>Zu (Region.sz x.Region l) λl=>l
@[ext] structure Zcj where
 Clock:Int
 Entries:List Zbs
 deriving DecidableEq
def Zcj.c(x:Zcj):List T:=[.int .i64 x.Clock,.lst 8 (x.Entries.map Zbs.c)]
@[simp] theorem Zcj.c_def(x:Zcj):x.c=[.int .i64 x.Clock,.lst 8 (x.Entries.map Zbs.c)]:=rfl
abbrev Zcj.small(x:Zcj):Prop:=SmL Zbs.small x.Entries
abbrev Zcj.okay(x:Zcj):Prop:=OkI x.Clock/\OkL Zbs.okay x.Entries
def Zcj.sz(x:Zcj)(l:Int):Int:=Zu (szL Zbs.sz x.Entries l) λl=>l
@[ext] structure Zdf where
 Zm:Zm
 Za:Za
 Cache:Zcj
 Ratio:Int
 Slack:Int
 Queries:Int
 Spent:Int
 deriving DecidableEq
def Zdf.c(x:Zdf):List T:=[.lst 3 (x.Zm.Zh.Tables.map Zc.c),.int .i64 x.Zm.Zl.Version,.lst 4 (x.Zm.Zl.Tables.map Zd.c),.lst 3 (x.Zm.Dependencies.map Ze.c),.lst 4 (x.Zm.Inclusions.map Zf.c),.int .i64 x.Za.Scan.Fixed,.int .i64 x.Za.Scan.Zo,.int .i64 x.Za.Scan.Zp,.int .i64 x.Za.Scan.Zq,.int .i64 x.Za.Scan.Zr,.lst 2 (x.Za.Scan.Steps.map Zb.c),.int .i64 x.Za.Sort_.Fixed,.int .i64 x.Za.Sort_.Zo,.int .i64 x.Za.Sort_.Zp,.int .i64 x.Za.Sort_.Zq,.int .i64 x.Za.Sort_.Zr,.lst 2 (x.Za.Sort_.Steps.map Zb.c),.int .i64 x.Za.Hash.Fixed,.int .i64 x.Za.Hash.Zo,.int .i64 x.Za.Hash.Zp,.int .i64 x.Za.Hash.Zq,.int .i64 x.Za.Hash.Zr,.lst 2 (x.Za.Hash.Steps.map Zb.c),.int .i64 x.Za.Merge.Fixed,.int .i64 x.Za.Merge.Zo,.int .i64 x.Za.Merge.Zp,.int .i64 x.Za.Merge.Zq,.int .i64 x.Za.Merge.Zr,.lst 2 (x.Za.Merge.Steps.map Zb.c),.int .i64 x.Za.Nested.Fixed,.int .i64 x.Za.Nested.Zo,.int .i64 x.Za.Nested.Zp,.int .i64 x.Za.Nested.Zq,.int .i64 x.Za.Nested.Zr,.lst 2 (x.Za.Nested.Steps.map Zb.c),.int .i64 x.Cache.Clock,.lst 8 (x.Cache.Entries.map Zbs.c),.int .i64 x.Ratio,.int .i64 x.Slack,.int .i64 x.Queries,.int .i64 x.Spent]
@[simp] theorem Zdf.c_def(x:Zdf):x.c=[.lst 3 (x.Zm.Zh.Tables.map Zc.c),.int .i64 x.Zm.Zl.Version,.lst 4 (x.Zm.Zl.Tables.map Zd.c),.lst 3 (x.Zm.Dependencies.map Ze.c),.lst 4 (x.Zm.Inclusions.map Zf.c),.int .i64 x.Za.Scan.Fixed,.int .i64 x.Za.Scan.Zo,.int .i64 x.Za.Scan.Zp,.int .i64 x.Za.Scan.Zq,.int .i64 x.Za.Scan.Zr,.lst 2 (x.Za.Scan.Steps.map Zb.c),.int .i64 x.Za.Sort_.Fixed,.int .i64 x.Za.Sort_.Zo,.int .i64 x.Za.Sort_.Zp,.int .i64 x.Za.Sort_.Zq,.int .i64 x.Za.Sort_.Zr,.lst 2 (x.Za.Sort_.Steps.map Zb.c),.int .i64 x.Za.Hash.Fixed,.int .i64 x.Za.Hash.Zo,.int .i64 x.Za.Hash.Zp,.int .i64 x.Za.Hash.Zq,.int .i64 x.Za.Hash.Zr,.lst 2 (x.Za.Hash.Steps.map Zb.c),.int .i64 x.Za.Merge.Fixed,.int .i64 x.Za.Merge.Zo,.int .i64 x.Za.Merge.Zp,.int .i64 x.Za.Merge.Zq,.int .i64 x.Za.Merge.Zr,.lst 2 (x.Za.Merge.Steps.map Zb.c),.int .i64 x.Za.Nested.Fixed,.int .i64 x.Za.Nested.Zo,.int .i64 x.Za.Nested.Zp,.int .i64 x.Za.Nested.Zq,.int .i64 x.Za.Nested.Zr,.lst 2 (x.Za.Nested.Steps.map Zb.c),.int .i64 x.Cache.Clock,.lst 8 (x.Cache.Entries.map Zbs.c),.int .i64 x.Ratio,.int .i64 x.Slack,.int .i64 x.Queries,.int .i64 x.Spent]:=rfl
abbrev Zdf.small(x:Zdf):Prop:=SmL Zc.small x.Zm.Zh.Tables/\SmL Zd.small x.Zm.Zl.Tables/\SmL Ze.small x.Zm.Dependencies/\SmL Zf.small x.Zm.Inclusions/\SmA x.Za.Scan.Steps/\SmA x.Za.Sort_.Steps/\SmA x.Za.Hash.Steps/\SmA x.Za.Merge.Steps/\SmA x.Za.Nested.Steps/\SmL Zbs.small x.Cache.Entries
abbrev Zdf.okay(x:Zdf):Prop:=OkL Zc.okay x.Zm.Zh.Tables/\OkI x.Zm.Zl.Version/\OkL Zd.okay x.Zm.Zl.Tables/\OkL Ze.okay x.Zm.Dependencies/\OkL Zf.okay x.Zm.Inclusions/\OkI x.Za.Scan.Fixed/\OkI x.Za.Scan.Zo/\OkI x.Za.Scan.Zp/\OkI x.Za.Scan.Zq/\OkI x.Za.Scan.Zr/\OkL Zb.okay x.Za.Scan.Steps/\OkI x.Za.Sort_.Fixed/\OkI x.Za.Sort_.Zo/\OkI x.Za.Sort_.Zp/\OkI x.Za.Sort_.Zq/\OkI x.Za.Sort_.Zr/\OkL Zb.okay x.Za.Sort_.Steps/\OkI x.Za.Hash.Fixed/\OkI x.Za.Hash.Zo/\OkI x.Za.Hash.Zp/\OkI x.Za.Hash.Zq/\OkI x.Za.Hash.Zr/\OkL Zb.okay x.Za.Hash.Steps/\OkI x.Za.Merge.Fixed/\OkI x.Za.Merge.Zo/\OkI x.Za.Merge.Zp/\OkI x.Za.Merge.Zq/\OkI x.Za.Merge.Zr/\OkL Zb.okay x.Za.Merge.Steps/\OkI x.Za.Nested.Fixed/\OkI x.Za.Nested.Zo/\OkI x.Za.Nested.Zp/\OkI x.Za.Nested.Zq/\OkI x.Za.Nested.Zr/\OkL Zb.okay x.Za.Nested.Steps/\OkI x.Cache.Clock/\OkL Zbs.okay x.Cache.Entries/\OkI x.Ratio/\OkI x.Slack/\OkI x.Queries/\OkI x.Spent
def Zdf.sz(x:Zdf)(l:Int):Int:=Zu (Zm.sz x.Zm l) λl=>Zu (Za.sz x.Za l) λl=>Zu (Zcj.sz x.Cache l) λl=>l
end Go.Proofs.YtooakifnnhhnhaaGreat
