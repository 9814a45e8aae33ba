/-
  Parts of the proofs for this seat: TY.
-/
import Derived.Test.YthdihnbeifcppaaGreatP4
set_option linter.all false
set_option maxRecDepth 100000
set_option maxHeartbeats 4000000
namespace Go.Proofs.YthdihnbeifcppaaGreat
open Go.AM
@[ext] structure Zc where
 Name:UP
 Arity:Int
 Rows:V4
 deriving DecidableEq
def Zc.c(x:Zc):UD:=[.str x.Name,.int .i64 x.Arity,tII x.Rows]
@[simp] def Zc.c_def(x:Zc):x.c=[.str x.Name,.int .i64 x.Arity,tII x.Rows]:=rfl
abbrev Zc.small(x:Zc):Prop:=SsA x.Name/\SmL SmA x.Rows
abbrev Zc.okay(x:Zc):Prop:=OkS x.Name/\OkI x.Arity/\OkL (OkL OkI) x.Rows
def Zc.dec(ts:UD)(h:HasShs [.str,.int .i64,.slice [.slice [.int .i64]]] ts):∃x:Zc,ts=x.c/\x.okay:=by
 obtain⟨t0,us0,rfl,g0,h0⟩:=ZC h;obtain⟨t1,us1,rfl,g1,h1⟩:=ZC h0;obtain⟨t2,us2,rfl,g2,h2⟩:=ZC h1;cases UY h2;obtain⟨x0,rfl,o0⟩:=Zbg g0;obtain⟨x1,rfl,o1⟩:=Xf g1;obtain⟨x2,rfl,o2⟩:=Zx6 g2;exact⟨⟨x0,x1,x2⟩,rfl,o0,o1,o2⟩
def Zc.sz(x:Zc)(l:Int):Int:=Z5 (sz1 x.Name.size l) λl=>Z5 (szL szI x.Rows l) λl=>l
def Zc.Xj(x:Zc)(l:Int)(hx:x.okay)(h0:0<=l)(h1:l<=1048576)(h:0<=x.sz l):x.sz l<=l/\x.small:=by
 unfold Zc.sz at h|-;simp only[Z5]at h|-;split at h
 .omega
 rename_i q0;rw[Yb q0];have s0:=WW hx.1 h0 h1 (Yj.1 q0);split at h
 .omega
 rename_i q1;rw[Yb q1];have s1:=Jk (f:=szI) (p:=λy:V6=>SmA y) hx.2.2.1 (λy hy l a b c=>WW (hx.2.2.2 y hy).1 a b c) (by omega) (by omega) (Yj.1 q1);exact⟨by omega,s0.2,s1.2⟩
@[ext] structure Zl where
 Tables:List Zc
 deriving DecidableEq
def Zl.c(x:Zl):UD:=[.lst 3 (x.Tables.map Zc.c)]
@[simp] def Zl.c_def(x:Zl):x.c=[.lst 3 (x.Tables.map Zc.c)]:=rfl
abbrev Zl.small(x:Zl):Prop:=SmL Zc.small x.Tables
abbrev Zl.okay(x:Zl):Prop:=OkL Zc.okay x.Tables
def Zl.sz(x:Zl)(l:Int):Int:=Z5 (szL Zc.sz x.Tables l) λl=>l
def Zl.Xj(x:Zl)(l:Int)(hx:x.okay)(h0:0<=l)(h1:l<=1048576)(h:0<=x.sz l):x.sz l<=l/\x.small:=by
 unfold Zl.sz at h|-;simp only[Z5]at h|-;split at h
 .omega
 rename_i q0;rw[Yb q0];have s0:=Jk (p:=Zc.small) hx.1 (λy hy l a b c=>Zc.Xj y l (hx.2 y hy) a b c) h0 h1 (Yj.1 q0);exact⟨by omega,s0.2⟩
@[ext] structure ZR where
 Name:UP
 Insert:Bool
 Row:V6
 deriving DecidableEq
def ZR.c(x:ZR):UD:=[.str x.Name,.bool x.Insert,tI x.Row]
@[simp] def ZR.c_def(x:ZR):x.c=[.str x.Name,.bool x.Insert,tI x.Row]:=rfl
abbrev ZR.small(x:ZR):Prop:=SsA x.Name/\SmA x.Row
abbrev ZR.okay(x:ZR):Prop:=OkS x.Name/\OkL OkI x.Row
def ZR.dec(ts:UD)(h:HasShs [.str,.bool,.slice [.int .i64]] ts):∃x:ZR,ts=x.c/\x.okay:=by
 obtain⟨t0,us0,rfl,g0,h0⟩:=ZC h;obtain⟨t1,us1,rfl,g1,h1⟩:=ZC h0;obtain⟨t2,us2,rfl,g2,h2⟩:=ZC h1;cases UY h2;obtain⟨x0,rfl,o0⟩:=Zbg g0;obtain⟨x1,rfl⟩:=dec_bool g1;obtain⟨x2,rfl,o2⟩:=JU g2;exact⟨⟨x0,x1,x2⟩,rfl,o0,o2⟩
def ZR.sz(x:ZR)(l:Int):Int:=Z5 (sz1 x.Name.size l) λl=>Z5 (sz1 x.Row.length l) λl=>l
def ZR.Xj(x:ZR)(l:Int)(hx:x.okay)(h0:0<=l)(h1:l<=1048576)(h:0<=x.sz l):x.sz l<=l/\x.small:=by
 unfold ZR.sz at h|-;simp only[Z5]at h|-;split at h
 .omega
 rename_i q0;rw[Yb q0];have s0:=WW hx.1 h0 h1 (Yj.1 q0);split at h
 .omega
 rename_i q1;rw[Yb q1];have s1:=WW hx.2.1 (by omega) (by omega) (Yj.1 q1);exact⟨by omega,s0.2,s1.2⟩
@[ext] structure Ze where
 Name:UP
 Vars:V6
 deriving DecidableEq
def Ze.c(x:Ze):UD:=[.str x.Name,tI x.Vars]
@[simp] def Ze.c_def(x:Ze):x.c=[.str x.Name,tI x.Vars]:=rfl
abbrev Ze.small(x:Ze):Prop:=SsA x.Name/\SmA x.Vars
abbrev Ze.okay(x:Ze):Prop:=OkS x.Name/\OkL OkI x.Vars
def Ze.dec(ts:UD)(h:HasShs [.str,.slice [.int .i64]] ts):∃x:Ze,ts=x.c/\x.okay:=by
 obtain⟨t0,us0,rfl,g0,h0⟩:=ZC h;obtain⟨t1,us1,rfl,g1,h1⟩:=ZC h0;cases UY h1;obtain⟨x0,rfl,o0⟩:=Zbg g0;obtain⟨x1,rfl,o1⟩:=JU g1;exact⟨⟨x0,x1⟩,rfl,o0,o1⟩
def Ze.sz(x:Ze)(l:Int):Int:=Z5 (sz1 x.Name.size l) λl=>Z5 (sz1 x.Vars.length l) λl=>l
def Ze.Xj(x:Ze)(l:Int)(hx:x.okay)(h0:0<=l)(h1:l<=1048576)(h:0<=x.sz l):x.sz l<=l/\x.small:=by
 unfold Ze.sz at h|-;simp only[Z5]at h|-;split at h
 .omega
 rename_i q0;rw[Yb q0];have s0:=WW hx.1 h0 h1 (Yj.1 q0);split at h
 .omega
 rename_i q1;rw[Yb q1];have s1:=WW hx.2.1 (by omega) (by omega) (Yj.1 q1);exact⟨by omega,s0.2,s1.2⟩
@[ext] structure Zj where
 Zm:Int
 Atoms:List Ze
 deriving DecidableEq
def Zj.c(x:Zj):UD:=[.int .i64 x.Zm,.lst 2 (x.Atoms.map Ze.c)]
@[simp] def Zj.c_def(x:Zj):x.c=[.int .i64 x.Zm,.lst 2 (x.Atoms.map Ze.c)]:=rfl
abbrev Zj.small(x:Zj):Prop:=SmL Ze.small x.Atoms
abbrev Zj.okay(x:Zj):Prop:=OkI x.Zm/\OkL Ze.okay x.Atoms
def Zj.sz(x:Zj)(l:Int):Int:=Z5 (szL Ze.sz x.Atoms l) λl=>l
def Zj.Xj(x:Zj)(l:Int)(hx:x.okay)(h0:0<=l)(h1:l<=1048576)(h:0<=x.sz l):x.sz l<=l/\x.small:=by
 unfold Zj.sz at h|-;simp only[Z5]at h|-;split at h
 .omega
 rename_i q0;rw[Yb q0];have s0:=Jk (p:=Ze.small) hx.2.1 (λy hy l a b c=>Ze.Xj y l (hx.2.2 y hy) a b c) h0 h1 (Yj.1 q0);exact⟨by omega,s0.2⟩
@[ext] structure Zp where
 Name:UP
 From:V6
 To:Int
 deriving DecidableEq
def Zp.c(x:Zp):UD:=[.str x.Name,tI x.From,.int .i64 x.To]
@[simp] def Zp.c_def(x:Zp):x.c=[.str x.Name,tI x.From,.int .i64 x.To]:=rfl
abbrev Zp.small(x:Zp):Prop:=SsA x.Name/\SmA x.From
abbrev Zp.okay(x:Zp):Prop:=OkS x.Name/\OkL OkI x.From/\OkI x.To
def Zp.dec(ts:UD)(h:HasShs [.str,.slice [.int .i64],.int .i64] ts):∃x:Zp,ts=x.c/\x.okay:=by
 obtain⟨t0,us0,rfl,g0,h0⟩:=ZC h;obtain⟨t1,us1,rfl,g1,h1⟩:=ZC h0;obtain⟨t2,us2,rfl,g2,h2⟩:=ZC h1;cases UY h2;obtain⟨x0,rfl,o0⟩:=Zbg g0;obtain⟨x1,rfl,o1⟩:=JU g1;obtain⟨x2,rfl,o2⟩:=Xf g2;exact⟨⟨x0,x1,x2⟩,rfl,o0,o1,o2⟩
def Zp.sz(x:Zp)(l:Int):Int:=Z5 (sz1 x.Name.size l) λl=>Z5 (sz1 x.From.length l) λl=>l
def Zp.Xj(x:Zp)(l:Int)(hx:x.okay)(h0:0<=l)(h1:l<=1048576)(h:0<=x.sz l):x.sz l<=l/\x.small:=by
 unfold Zp.sz at h|-;simp only[Z5]at h|-;split at h
 .omega
 rename_i q0;rw[Yb q0];have s0:=WW hx.1 h0 h1 (Yj.1 q0);split at h
 .omega
 rename_i q1;rw[Yb q1];have s1:=WW hx.2.1.1 (by omega) (by omega) (Yj.1 q1);exact⟨by omega,s0.2,s1.2⟩
@[ext] structure Zr where
 Name:UP
 Column:Int
 Into:UP
 IntoColumn:Int
 deriving DecidableEq
def Zr.c(x:Zr):UD:=[.str x.Name,.int .i64 x.Column,.str x.Into,.int .i64 x.IntoColumn]
@[simp] def Zr.c_def(x:Zr):x.c=[.str x.Name,.int .i64 x.Column,.str x.Into,.int .i64 x.IntoColumn]:=rfl
abbrev Zr.small(x:Zr):Prop:=SsA x.Name/\SsA x.Into
abbrev Zr.okay(x:Zr):Prop:=OkS x.Name/\OkI x.Column/\OkS x.Into/\OkI x.IntoColumn
def Zr.dec(ts:UD)(h:HasShs [.str,.int .i64,.str,.int .i64] ts):∃x:Zr,ts=x.c/\x.okay:=by
 obtain⟨t0,us0,rfl,g0,h0⟩:=ZC h;obtain⟨t1,us1,rfl,g1,h1⟩:=ZC h0;obtain⟨t2,us2,rfl,g2,h2⟩:=ZC h1;obtain⟨t3,us3,rfl,g3,h3⟩:=ZC h2;cases UY h3;obtain⟨x0,rfl,o0⟩:=Zbg g0;obtain⟨x1,rfl,o1⟩:=Xf g1;obtain⟨x2,rfl,o2⟩:=Zbg g2;obtain⟨x3,rfl,o3⟩:=Xf g3;exact⟨⟨x0,x1,x2,x3⟩,rfl,o0,o1,o2,o3⟩
def Zr.sz(x:Zr)(l:Int):Int:=Z5 (sz1 x.Name.size l) λl=>Z5 (sz1 x.Into.size l) λl=>l
def Zr.Xj(x:Zr)(l:Int)(hx:x.okay)(h0:0<=l)(h1:l<=1048576)(h:0<=x.sz l):x.sz l<=l/\x.small:=by
 unfold Zr.sz at h|-;simp only[Z5]at h|-;split at h
 .omega
 rename_i q0;rw[Yb q0];have s0:=WW hx.1 h0 h1 (Yj.1 q0);split at h
 .omega
 rename_i q1;rw[Yb q1];have s1:=WW hx.2.2.1 (by omega) (by omega) (Yj.1 q1);exact⟨by omega,s0.2,s1.2⟩
@[ext] structure Zy where
 Columns:V6
 Values:V4
 Counts:V6
 deriving DecidableEq
def Zy.c(x:Zy):UD:=[tI x.Columns,tII x.Values,tI x.Counts]
@[simp] def Zy.c_def(x:Zy):x.c=[tI x.Columns,tII x.Values,tI x.Counts]:=rfl
abbrev Zy.small(x:Zy):Prop:=SmA x.Columns/\SmL SmA x.Values/\SmA x.Counts
abbrev Zy.okay(x:Zy):Prop:=OkL OkI x.Columns/\OkL (OkL OkI) x.Values/\OkL OkI x.Counts
def Zy.dec(ts:UD)(h:HasShs [.slice [.int .i64],.slice [.slice [.int .i64]],.slice [.int .i64]] ts):∃x:Zy,ts=x.c/\x.okay:=by
 obtain⟨t0,us0,rfl,g0,h0⟩:=ZC h;obtain⟨t1,us1,rfl,g1,h1⟩:=ZC h0;obtain⟨t2,us2,rfl,g2,h2⟩:=ZC h1;cases UY h2;obtain⟨x0,rfl,o0⟩:=JU g0;obtain⟨x1,rfl,o1⟩:=Zx6 g1;obtain⟨x2,rfl,o2⟩:=JU g2;exact⟨⟨x0,x1,x2⟩,rfl,o0,o1,o2⟩
def Zy.sz(x:Zy)(l:Int):Int:=Z5 (sz1 x.Columns.length l) λl=>Z5 (szL szI x.Values l) λl=>Z5 (sz1 x.Counts.length l) λl=>l
def Zy.Xj(x:Zy)(l:Int)(hx:x.okay)(h0:0<=l)(h1:l<=1048576)(h:0<=x.sz l):x.sz l<=l/\x.small:=by
 unfold Zy.sz at h|-;simp only[Z5]at h|-;split at h
 .omega
 rename_i q0;rw[Yb q0];have s0:=WW hx.1.1 h0 h1 (Yj.1 q0);split at h
 .omega
 rename_i q1;rw[Yb q1];have s1:=Jk (f:=szI) (p:=λy:V6=>SmA y) hx.2.1.1 (λy hy l a b c=>WW (hx.2.1.2 y hy).1 a b c) (by omega) (by omega) (Yj.1 q1);split at h
 .omega
 rename_i q2;rw[Yb q2];have s2:=WW hx.2.2.1 (by omega) (by omega) (Yj.1 q2);exact⟨by omega,s0.2,s1.2,s2.2⟩
@[ext] structure Zk where
 Name:UP
 Arity:Int
 RowCount:Int
 Groups:List Zy
 deriving DecidableEq
def Zk.c(x:Zk):UD:=[.str x.Name,.int .i64 x.Arity,.int .i64 x.RowCount,.lst 3 (x.Groups.map Zy.c)]
@[simp] def Zk.c_def(x:Zk):x.c=[.str x.Name,.int .i64 x.Arity,.int .i64 x.RowCount,.lst 3 (x.Groups.map Zy.c)]:=rfl
abbrev Zk.small(x:Zk):Prop:=SsA x.Name/\SmL Zy.small x.Groups
abbrev Zk.okay(x:Zk):Prop:=OkS x.Name/\OkI x.Arity/\OkI x.RowCount/\OkL Zy.okay x.Groups
def Zk.dec(ts:UD)(h:HasShs [.str,.int .i64,.int .i64,.slice [.slice [.int .i64],.slice [.slice [.int .i64]],.slice [.int .i64]]] ts):∃x:Zk,ts=x.c/\x.okay:=by
 obtain⟨t0,us0,rfl,g0,h0⟩:=ZC h;obtain⟨t1,us1,rfl,g1,h1⟩:=ZC h0;obtain⟨t2,us2,rfl,g2,h2⟩:=ZC h1;obtain⟨t3,us3,rfl,g3,h3⟩:=ZC h2;cases UY h3;obtain⟨x0,rfl,o0⟩:=Zbg g0;obtain⟨x1,rfl,o1⟩:=Xf g1;obtain⟨x2,rfl,o2⟩:=Xf g2;obtain⟨x3,rfl,o3⟩:=Uf Zy.dec g3;exact⟨⟨x0,x1,x2,x3⟩,rfl,o0,o1,o2,o3⟩
def Zk.sz(x:Zk)(l:Int):Int:=Z5 (sz1 x.Name.size l) λl=>Z5 (szL Zy.sz x.Groups l) λl=>l
def Zk.Xj(x:Zk)(l:Int)(hx:x.okay)(h0:0<=l)(h1:l<=1048576)(h:0<=x.sz l):x.sz l<=l/\x.small:=by
 unfold Zk.sz at h|-;simp only[Z5]at h|-;split at h
 .omega
 rename_i q0;rw[Yb q0];have s0:=WW hx.1 h0 h1 (Yj.1 q0);split at h
 .omega
 rename_i q1;rw[Yb q1];have s1:=Jk (p:=Zy.small) hx.2.2.2.1 (λy hy l a b c=>Zy.Xj y l (hx.2.2.2.2 y hy) a b c) (by omega) (by omega) (Yj.1 q1);exact⟨by omega,s0.2,s1.2⟩
@[ext] structure Zu where
 Version:Int
 Tables:List Zk
 deriving DecidableEq
def Zu.c(x:Zu):UD:=[.int .i64 x.Version,.lst 4 (x.Tables.map Zk.c)]
@[simp] def Zu.c_def(x:Zu):x.c=[.int .i64 x.Version,.lst 4 (x.Tables.map Zk.c)]:=rfl
abbrev Zu.small(x:Zu):Prop:=SmL Zk.small x.Tables
abbrev Zu.okay(x:Zu):Prop:=OkI x.Version/\OkL Zk.okay x.Tables
def Zu.sz(x:Zu)(l:Int):Int:=Z5 (szL Zk.sz x.Tables l) λl=>l
def Zu.Xj(x:Zu)(l:Int)(hx:x.okay)(h0:0<=l)(h1:l<=1048576)(h:0<=x.sz l):x.sz l<=l/\x.small:=by
 unfold Zu.sz at h|-;simp only[Z5]at h|-;split at h
 .omega
 rename_i q0;rw[Yb q0];have s0:=Jk (p:=Zk.small) hx.2.1 (λy hy l a b c=>Zk.Xj y l (hx.2.2 y hy) a b c) h0 h1 (Yj.1 q0);exact⟨by omega,s0.2⟩
@[ext] structure Zs where
 Zl:Zl
 Zu:Zu
 Dependencies:List Zp
 Inclusions:List Zr
 deriving DecidableEq
def Zs.c(x:Zs):UD:=[.lst 3 (x.Zl.Tables.map Zc.c),.int .i64 x.Zu.Version,.lst 4 (x.Zu.Tables.map Zk.c),.lst 3 (x.Dependencies.map Zp.c),.lst 4 (x.Inclusions.map Zr.c)]
@[simp] def Zs.c_def(x:Zs):x.c=[.lst 3 (x.Zl.Tables.map Zc.c),.int .i64 x.Zu.Version,.lst 4 (x.Zu.Tables.map Zk.c),.lst 3 (x.Dependencies.map Zp.c),.lst 4 (x.Inclusions.map Zr.c)]:=rfl
abbrev Zs.small(x:Zs):Prop:=SmL Zc.small x.Zl.Tables/\SmL Zk.small x.Zu.Tables/\SmL Zp.small x.Dependencies/\SmL Zr.small x.Inclusions
abbrev Zs.okay(x:Zs):Prop:=OkL Zc.okay x.Zl.Tables/\OkI x.Zu.Version/\OkL Zk.okay x.Zu.Tables/\OkL Zp.okay x.Dependencies/\OkL Zr.okay x.Inclusions
def Zs.sz(x:Zs)(l:Int):Int:=Z5 (Zl.sz x.Zl l) λl=>Z5 (Zu.sz x.Zu l) λl=>Z5 (szL Zp.sz x.Dependencies l) λl=>Z5 (szL Zr.sz x.Inclusions l) λl=>l
def Zs.Xj(x:Zs)(l:Int)(hx:x.okay)(h0:0<=l)(h1:l<=1048576)(h:0<=x.sz l):x.sz l<=l/\x.small:=by
 unfold Zs.sz at h|-;simp only[Z5]at h|-;split at h
 .omega
 rename_i q0;rw[Yb q0];have s0:=Zl.Xj x.Zl _ hx.1 h0 h1 (Yj.1 q0);split at h
 .omega
 rename_i q1;rw[Yb q1];have s1:=Zu.Xj x.Zu _ ⟨hx.2.1,hx.2.2.1⟩ (by omega) (by omega) (Yj.1 q1);split at h
 .omega
 rename_i q2;rw[Yb q2];have s2:=Jk (p:=Zp.small) hx.2.2.2.1.1 (λy hy l a b c=>Zp.Xj y l (hx.2.2.2.1.2 y hy) a b c) (by omega) (by omega) (Yj.1 q2);split at h
 .omega
 rename_i q3;rw[Yb q3];have s3:=Jk (p:=Zr.small) hx.2.2.2.2.1 (λy hy l a b c=>Zr.Xj y l (hx.2.2.2.2.2 y hy) a b c) (by omega) (by omega) (Yj.1 q3);exact⟨by omega,s0.2,s1.2,s2.2,s3.2⟩
@[ext] structure Box where
 Low:V6
 High:V6
 deriving DecidableEq
def Box.c(x:Box):UD:=[tI x.Low,tI x.High]
@[simp] def Box.c_def(x:Box):x.c=[tI x.Low,tI x.High]:=rfl
abbrev Box.small(x:Box):Prop:=SmA x.Low/\SmA x.High
abbrev Box.okay(x:Box):Prop:=OkL OkI x.Low/\OkL OkI x.High
def Box.sz(x:Box)(l:Int):Int:=Z5 (sz1 x.Low.length l) λl=>Z5 (sz1 x.High.length l) λl=>l
def Box.Xj(x:Box)(l:Int)(hx:x.okay)(h0:0<=l)(h1:l<=1048576)(h:0<=x.sz l):x.sz l<=l/\x.small:=by
 unfold Box.sz at h|-;simp only[Z5]at h|-;split at h
 .omega
 rename_i q0;rw[Yb q0];have s0:=WW hx.1.1 h0 h1 (Yj.1 q0);split at h
 .omega
 rename_i q1;rw[Yb q1];have s1:=WW hx.2.1 (by omega) (by omega) (Yj.1 q1);exact⟨by omega,s0.2,s1.2⟩
@[ext] structure Zd where
 From:Int
 Add:Int
 deriving DecidableEq
def Zd.c(x:Zd):UD:=[.int .i64 x.From,.int .i64 x.Add]
@[simp] def Zd.c_def(x:Zd):x.c=[.int .i64 x.From,.int .i64 x.Add]:=rfl
abbrev Zd.small(x:Zd):Prop:=True
abbrev Zd.okay(x:Zd):Prop:=OkI x.From/\OkI x.Add
def Zd.dec(ts:UD)(h:HasShs [.int .i64,.int .i64] ts):∃x:Zd,ts=x.c/\x.okay:=by
 obtain⟨t0,us0,rfl,g0,h0⟩:=ZC h;obtain⟨t1,us1,rfl,g1,h1⟩:=ZC h0;cases UY h1;obtain⟨x0,rfl,o0⟩:=Xf g0;obtain⟨x1,rfl,o1⟩:=Xf g1;exact⟨⟨x0,x1⟩,rfl,o0,o1⟩
@[ext] structure Z0 where
 Fixed:Int
 Zv:Int
 Zw:Int
 Zz:Int
 Zx:Int
 Steps:List Zd
 deriving DecidableEq
def Z0.c(x:Z0):UD:=[.int .i64 x.Fixed,.int .i64 x.Zv,.int .i64 x.Zw,.int .i64 x.Zz,.int .i64 x.Zx,.lst 2 (x.Steps.map Zd.c)]
@[simp] def Z0.c_def(x:Z0):x.c=[.int .i64 x.Fixed,.int .i64 x.Zv,.int .i64 x.Zw,.int .i64 x.Zz,.int .i64 x.Zx,.lst 2 (x.Steps.map Zd.c)]:=rfl
abbrev Z0.small(x:Z0):Prop:=SmA x.Steps
abbrev Z0.okay(x:Z0):Prop:=OkI x.Fixed/\OkI x.Zv/\OkI x.Zw/\OkI x.Zz/\OkI x.Zx/\OkL Zd.okay x.Steps
def Z0.sz(x:Z0)(l:Int):Int:=Z5 (sz1 x.Steps.length l) λl=>l
def Z0.Xj(x:Z0)(l:Int)(hx:x.okay)(h0:0<=l)(h1:l<=1048576)(h:0<=x.sz l):x.sz l<=l/\x.small:=by
 unfold Z0.sz at h|-;simp only[Z5]at h|-;split at h
 .omega
 rename_i q0;rw[Yb q0];have s0:=WW hx.2.2.2.2.2.1 h0 h1 (Yj.1 q0);exact⟨by omega,s0.2⟩
@[ext] structure Za where
 Scan:Z0
 Sort_:Z0
 Hash:Z0
 Merge:Z0
 Nested:Z0
 deriving DecidableEq
def Za.c(x:Za):UD:=[.int .i64 x.Scan.Fixed,.int .i64 x.Scan.Zv,.int .i64 x.Scan.Zw,.int .i64 x.Scan.Zz,.int .i64 x.Scan.Zx,.lst 2 (x.Scan.Steps.map Zd.c),.int .i64 x.Sort_.Fixed,.int .i64 x.Sort_.Zv,.int .i64 x.Sort_.Zw,.int .i64 x.Sort_.Zz,.int .i64 x.Sort_.Zx,.lst 2 (x.Sort_.Steps.map Zd.c),.int .i64 x.Hash.Fixed,.int .i64 x.Hash.Zv,.int .i64 x.Hash.Zw,.int .i64 x.Hash.Zz,.int .i64 x.Hash.Zx,.lst 2 (x.Hash.Steps.map Zd.c),.int .i64 x.Merge.Fixed,.int .i64 x.Merge.Zv,.int .i64 x.Merge.Zw,.int .i64 x.Merge.Zz,.int .i64 x.Merge.Zx,.lst 2 (x.Merge.Steps.map Zd.c),.int .i64 x.Nested.Fixed,.int .i64 x.Nested.Zv,.int .i64 x.Nested.Zw,.int .i64 x.Nested.Zz,.int .i64 x.Nested.Zx,.lst 2 (x.Nested.Steps.map Zd.c)]
@[simp] def Za.c_def(x:Za):x.c=[.int .i64 x.Scan.Fixed,.int .i64 x.Scan.Zv,.int .i64 x.Scan.Zw,.int .i64 x.Scan.Zz,.int .i64 x.Scan.Zx,.lst 2 (x.Scan.Steps.map Zd.c),.int .i64 x.Sort_.Fixed,.int .i64 x.Sort_.Zv,.int .i64 x.Sort_.Zw,.int .i64 x.Sort_.Zz,.int .i64 x.Sort_.Zx,.lst 2 (x.Sort_.Steps.map Zd.c),.int .i64 x.Hash.Fixed,.int .i64 x.Hash.Zv,.int .i64 x.Hash.Zw,.int .i64 x.Hash.Zz,.int .i64 x.Hash.Zx,.lst 2 (x.Hash.Steps.map Zd.c),.int .i64 x.Merge.Fixed,.int .i64 x.Merge.Zv,.int .i64 x.Merge.Zw,.int .i64 x.Merge.Zz,.int .i64 x.Merge.Zx,.lst 2 (x.Merge.Steps.map Zd.c),.int .i64 x.Nested.Fixed,.int .i64 x.Nested.Zv,.int .i64 x.Nested.Zw,.int .i64 x.Nested.Zz,.int .i64 x.Nested.Zx,.lst 2 (x.Nested.Steps.map Zd.c)]:=rfl
abbrev Za.small(x:Za):Prop:=SmA x.Scan.Steps/\SmA x.Sort_.Steps/\SmA x.Hash.Steps/\SmA x.Merge.Steps/\SmA x.Nested.Steps
abbrev Za.okay(x:Za):Prop:=OkI x.Scan.Fixed/\OkI x.Scan.Zv/\OkI x.Scan.Zw/\OkI x.Scan.Zz/\OkI x.Scan.Zx/\OkL Zd.okay x.Scan.Steps/\OkI x.Sort_.Fixed/\OkI x.Sort_.Zv/\OkI x.Sort_.Zw/\OkI x.Sort_.Zz/\OkI x.Sort_.Zx/\OkL Zd.okay x.Sort_.Steps/\OkI x.Hash.Fixed/\OkI x.Hash.Zv/\OkI x.Hash.Zw/\OkI x.Hash.Zz/\OkI x.Hash.Zx/\OkL Zd.okay x.Hash.Steps/\OkI x.Merge.Fixed/\OkI x.Merge.Zv/\OkI x.Merge.Zw/\OkI x.Merge.Zz/\OkI x.Merge.Zx/\OkL Zd.okay x.Merge.Steps/\OkI x.Nested.Fixed/\OkI x.Nested.Zv/\OkI x.Nested.Zw/\OkI x.Nested.Zz/\OkI x.Nested.Zx/\OkL Zd.okay x.Nested.Steps
def Za.sz(x:Za)(l:Int):Int:=Z5 (Z0.sz x.Scan l) λl=>Z5 (Z0.sz x.Sort_ l) λl=>Z5 (Z0.sz x.Hash l) λl=>Z5 (Z0.sz x.Merge l) λl=>Z5 (Z0.sz x.Nested l) λl=>l
def Za.Xj(x:Za)(l:Int)(hx:x.okay)(h0:0<=l)(h1:l<=1048576)(h:0<=x.sz l):x.sz l<=l/\x.small:=by
 unfold Za.sz at h|-;simp only[Z5]at h|-;split at h
 .omega
 rename_i q0;rw[Yb q0];have s0:=Z0.Xj x.Scan _ ⟨hx.1,hx.2.1,hx.2.2.1,hx.2.2.2.1,hx.2.2.2.2.1,hx.2.2.2.2.2.1⟩ h0 h1 (Yj.1 q0);split at h
 .omega
 rename_i q1;rw[Yb q1];have s1:=Z0.Xj x.Sort_ _ ⟨hx.2.2.2.2.2.2.1,hx.2.2.2.2.2.2.2.1,hx.2.2.2.2.2.2.2.2.1,hx.2.2.2.2.2.2.2.2.2.1,hx.2.2.2.2.2.2.2.2.2.2.1,hx.2.2.2.2.2.2.2.2.2.2.2.1⟩ (by omega) (by omega) (Yj.1 q1);split at h
 .omega
 rename_i q2;rw[Yb q2];have s2:=Z0.Xj x.Hash _ ⟨hx.2.2.2.2.2.2.2.2.2.2.2.2.1,hx.2.2.2.2.2.2.2.2.2.2.2.2.2.1,hx.2.2.2.2.2.2.2.2.2.2.2.2.2.2.1,hx.2.2.2.2.2.2.2.2.2.2.2.2.2.2.2.1,hx.2.2.2.2.2.2.2.2.2.2.2.2.2.2.2.2.1,hx.2.2.2.2.2.2.2.2.2.2.2.2.2.2.2.2.2.1⟩ (by omega) (by omega) (Yj.1 q2);split at h
 .omega
 rename_i q3;rw[Yb q3];have s3:=Z0.Xj x.Merge _ ⟨hx.2.2.2.2.2.2.2.2.2.2.2.2.2.2.2.2.2.2.1,hx.2.2.2.2.2.2.2.2.2.2.2.2.2.2.2.2.2.2.2.1,hx.2.2.2.2.2.2.2.2.2.2.2.2.2.2.2.2.2.2.2.2.1,hx.2.2.2.2.2.2.2.2.2.2.2.2.2.2.2.2.2.2.2.2.2.1,hx.2.2.2.2.2.2.2.2.2.2.2.2.2.2.2.2.2.2.2.2.2.2.1,hx.2.2.2.2.2.2.2.2.2.2.2.2.2.2.2.2.2.2.2.2.2.2.2.1⟩ (by omega) (by omega) (Yj.1 q3);split at h
 .omega
 rename_i q4;rw[Yb q4];have s4:=Z0.Xj x.Nested _ ⟨hx.2.2.2.2.2.2.2.2.2.2.2.2.2.2.2.2.2.2.2.2.2.2.2.2.1,hx.2.2.2.2.2.2.2.2.2.2.2.2.2.2.2.2.2.2.2.2.2.2.2.2.2.1,hx.2.2.2.2.2.2.2.2.2.2.2.2.2.2.2.2.2.2.2.2.2.2.2.2.2.2.1,hx.2.2.2.2.2.2.2.2.2.2.2.2.2.2.2.2.2.2.2.2.2.2.2.2.2.2.2.1,hx.2.2.2.2.2.2.2.2.2.2.2.2.2.2.2.2.2.2.2.2.2.2.2.2.2.2.2.2.1,hx.2.2.2.2.2.2.2.2.2.2.2.2.2.2.2.2.2.2.2.2.2.2.2.2.2.2.2.2.2⟩ (by omega) (by omega) (Yj.1 q4);exact⟨by omega,s0.2,s1.2,s2.2,s3.2,s4.2⟩
@[ext] structure Zh where
 Kind:Int
 Ze:Int
 Order:Int
 deriving DecidableEq
def Zh.c(x:Zh):UD:=[.int .i64 x.Kind,.int .i64 x.Ze,.int .i64 x.Order]
@[simp] def Zh.c_def(x:Zh):x.c=[.int .i64 x.Kind,.int .i64 x.Ze,.int .i64 x.Order]:=rfl
abbrev Zh.small(x:Zh):Prop:=True
abbrev Zh.okay(x:Zh):Prop:=OkI x.Kind/\OkI x.Ze/\OkI x.Order
def Zh.dec(ts:UD)(h:HasShs [.int .i64,.int .i64,.int .i64] ts):∃x:Zh,ts=x.c/\x.okay:=by
 obtain⟨t0,us0,rfl,g0,h0⟩:=ZC h;obtain⟨t1,us1,rfl,g1,h1⟩:=ZC h0;obtain⟨t2,us2,rfl,g2,h2⟩:=ZC h1;cases UY h2;obtain⟨x0,rfl,o0⟩:=Xf g0;obtain⟨x1,rfl,o1⟩:=Xf g1;obtain⟨x2,rfl,o2⟩:=Xf g2;exact⟨⟨x0,x1,x2⟩,rfl,o0,o1,o2⟩
@[ext] structure Zg where
 Steps:List Zh
 deriving DecidableEq
def Zg.c(x:Zg):UD:=[.lst 3 (x.Steps.map Zh.c)]
@[simp] def Zg.c_def(x:Zg):x.c=[.lst 3 (x.Steps.map Zh.c)]:=rfl
abbrev Zg.small(x:Zg):Prop:=SmA x.Steps
abbrev Zg.okay(x:Zg):Prop:=OkL Zh.okay x.Steps
def Zg.sz(x:Zg)(l:Int):Int:=Z5 (sz1 x.Steps.length l) λl=>l
def Zg.Xj(x:Zg)(l:Int)(hx:x.okay)(h0:0<=l)(h1:l<=1048576)(h:0<=x.sz l):x.sz l<=l/\x.small:=by
 unfold Zg.sz at h|-;simp only[Z5]at h|-;split at h
 .omega
 rename_i q0;rw[Yb q0];have s0:=WW hx.1 h0 h1 (Yj.1 q0);exact⟨by omega,s0.2⟩
@[ext] structure Region where
 Zg:Zg
 Box:Box
 Percent:Int
 deriving DecidableEq
def Region.c(x:Region):UD:=[.lst 3 (x.Zg.Steps.map Zh.c),tI x.Box.Low,tI x.Box.High,.int .i64 x.Percent]
@[simp] def Region.c_def(x:Region):x.c=[.lst 3 (x.Zg.Steps.map Zh.c),tI x.Box.Low,tI x.Box.High,.int .i64 x.Percent]:=rfl
abbrev Region.small(x:Region):Prop:=SmA x.Zg.Steps/\SmA x.Box.Low/\SmA x.Box.High
abbrev Region.okay(x:Region):Prop:=OkL Zh.okay x.Zg.Steps/\OkL OkI x.Box.Low/\OkL OkI x.Box.High/\OkI x.Percent
def Region.sz(x:Region)(l:Int):Int:=Z5 (Zg.sz x.Zg l) λl=>Z5 (Box.sz x.Box l) λl=>l
def Region.Xj(x:Region)(l:Int)(hx:x.okay)(h0:0<=l)(h1:l<=1048576)(h:0<=x.sz l):x.sz l<=l/\x.small:=by
 unfold Region.sz at h|-;simp only[Z5]at h|-;split at h
 .omega
 rename_i q0;rw[Yb q0];have s0:=Zg.Xj x.Zg _ hx.1 h0 h1 (Yj.1 q0);split at h
 .omega
 rename_i q1;rw[Yb q1];have s1:=Box.Xj x.Box _ ⟨hx.2.1,hx.2.2.1⟩ (by omega) (by omega) (Yj.1 q1);exact⟨by omega,s0.2,s1.2.1,s1.2.2⟩
@[ext] structure Zo where
 Zj:Zj
 Region:Region
 Version:Int
 Used:Int
 deriving DecidableEq
def Zo.c(x:Zo):UD:=[.int .i64 x.Zj.Zm,.lst 2 (x.Zj.Atoms.map Ze.c),.lst 3 (x.Region.Zg.Steps.map Zh.c),tI x.Region.Box.Low,tI x.Region.Box.High,.int .i64 x.Region.Percent,.int .i64 x.Version,.int .i64 x.Used]
@[simp] def Zo.c_def(x:Zo):x.c=[.int .i64 x.Zj.Zm,.lst 2 (x.Zj.Atoms.map Ze.c),.lst 3 (x.Region.Zg.Steps.map Zh.c),tI x.Region.Box.Low,tI x.Region.Box.High,.int .i64 x.Region.Percent,.int .i64 x.Version,.int .i64 x.Used]:=rfl
abbrev Zo.small(x:Zo):Prop:=SmL Ze.small x.Zj.Atoms/\SmA x.Region.Zg.Steps/\SmA x.Region.Box.Low/\SmA x.Region.Box.High
abbrev Zo.okay(x:Zo):Prop:=OkI x.Zj.Zm/\OkL Ze.okay x.Zj.Atoms/\OkL Zh.okay x.Region.Zg.Steps/\OkL OkI x.Region.Box.Low/\OkL OkI x.Region.Box.High/\OkI x.Region.Percent/\OkI x.Version/\OkI x.Used
def Zo.dec(ts:UD)(h:HasShs [.int .i64,.slice [.str,.slice [.int .i64]],.slice [.int .i64,.int .i64,.int .i64],.slice [.int .i64],.slice [.int .i64],.int .i64,.int .i64,.int .i64] ts):∃x:Zo,ts=x.c/\x.okay:=by
 obtain⟨t0,us0,rfl,g0,h0⟩:=ZC h;obtain⟨t1,us1,rfl,g1,h1⟩:=ZC h0;obtain⟨t2,us2,rfl,g2,h2⟩:=ZC h1;obtain⟨t3,us3,rfl,g3,h3⟩:=ZC h2;obtain⟨t4,us4,rfl,g4,h4⟩:=ZC h3;obtain⟨t5,us5,rfl,g5,h5⟩:=ZC h4;obtain⟨t6,us6,rfl,g6,h6⟩:=ZC h5;obtain⟨t7,us7,rfl,g7,h7⟩:=ZC h6;cases UY h7;obtain⟨x0,rfl,o0⟩:=Xf g0;obtain⟨x1,rfl,o1⟩:=Uf Ze.dec g1;obtain⟨x2,rfl,o2⟩:=Uf Zh.dec g2;obtain⟨x3,rfl,o3⟩:=JU g3;obtain⟨x4,rfl,o4⟩:=JU g4;obtain⟨x5,rfl,o5⟩:=Xf g5;obtain⟨x6,rfl,o6⟩:=Xf g6;obtain⟨x7,rfl,o7⟩:=Xf g7;exact⟨⟨⟨x0,x1⟩,⟨⟨x2⟩,⟨x3,x4⟩,x5⟩,x6,x7⟩,rfl,o0,o1,o2,o3,o4,o5,o6,o7⟩
def Zo.sz(x:Zo)(l:Int):Int:=Z5 (Zj.sz x.Zj l) λl=>Z5 (Region.sz x.Region l) λl=>l
def Zo.Xj(x:Zo)(l:Int)(hx:x.okay)(h0:0<=l)(h1:l<=1048576)(h:0<=x.sz l):x.sz l<=l/\x.small:=by
 unfold Zo.sz at h|-;simp only[Z5]at h|-;split at h
 .omega
 rename_i q0;rw[Yb q0];have s0:=Zj.Xj x.Zj _ ⟨hx.1,hx.2.1⟩ h0 h1 (Yj.1 q0);split at h
 .omega
 rename_i q1;rw[Yb q1];have s1:=Region.Xj x.Region _ ⟨hx.2.2.1,hx.2.2.2.1,hx.2.2.2.2.1,hx.2.2.2.2.2.1⟩ (by omega) (by omega) (Yj.1 q1);exact⟨by omega,s0.2,s1.2.1,s1.2.2.1,s1.2.2.2⟩
@[ext] structure ZH where
 Clock:Int
 Entries:List Zo
 deriving DecidableEq
def ZH.c(x:ZH):UD:=[.int .i64 x.Clock,.lst 8 (x.Entries.map Zo.c)]
@[simp] def ZH.c_def(x:ZH):x.c=[.int .i64 x.Clock,.lst 8 (x.Entries.map Zo.c)]:=rfl
abbrev ZH.small(x:ZH):Prop:=SmL Zo.small x.Entries
abbrev ZH.okay(x:ZH):Prop:=OkI x.Clock/\OkL Zo.okay x.Entries
def ZH.sz(x:ZH)(l:Int):Int:=Z5 (szL Zo.sz x.Entries l) λl=>l
def ZH.Xj(x:ZH)(l:Int)(hx:x.okay)(h0:0<=l)(h1:l<=1048576)(h:0<=x.sz l):x.sz l<=l/\x.small:=by
 unfold ZH.sz at h|-;simp only[Z5]at h|-;split at h
 .omega
 rename_i q0;rw[Yb q0];have s0:=Jk (p:=Zo.small) hx.2.1 (λy hy l a b c=>Zo.Xj y l (hx.2.2 y hy) a b c) h0 h1 (Yj.1 q0);exact⟨by omega,s0.2⟩
@[ext] structure ZJ where
 Zs:Zs
 Za:Za
 Cache:ZH
 Ratio:Int
 Slack:Int
 Queries:Int
 Spent:Int
 deriving DecidableEq
def ZJ.c(x:ZJ):UD:=[.lst 3 (x.Zs.Zl.Tables.map Zc.c),.int .i64 x.Zs.Zu.Version,.lst 4 (x.Zs.Zu.Tables.map Zk.c),.lst 3 (x.Zs.Dependencies.map Zp.c),.lst 4 (x.Zs.Inclusions.map Zr.c),.int .i64 x.Za.Scan.Fixed,.int .i64 x.Za.Scan.Zv,.int .i64 x.Za.Scan.Zw,.int .i64 x.Za.Scan.Zz,.int .i64 x.Za.Scan.Zx,.lst 2 (x.Za.Scan.Steps.map Zd.c),.int .i64 x.Za.Sort_.Fixed,.int .i64 x.Za.Sort_.Zv,.int .i64 x.Za.Sort_.Zw,.int .i64 x.Za.Sort_.Zz,.int .i64 x.Za.Sort_.Zx,.lst 2 (x.Za.Sort_.Steps.map Zd.c),.int .i64 x.Za.Hash.Fixed,.int .i64 x.Za.Hash.Zv,.int .i64 x.Za.Hash.Zw,.int .i64 x.Za.Hash.Zz,.int .i64 x.Za.Hash.Zx,.lst 2 (x.Za.Hash.Steps.map Zd.c),.int .i64 x.Za.Merge.Fixed,.int .i64 x.Za.Merge.Zv,.int .i64 x.Za.Merge.Zw,.int .i64 x.Za.Merge.Zz,.int .i64 x.Za.Merge.Zx,.lst 2 (x.Za.Merge.Steps.map Zd.c),.int .i64 x.Za.Nested.Fixed,.int .i64 x.Za.Nested.Zv,.int .i64 x.Za.Nested.Zw,.int .i64 x.Za.Nested.Zz,.int .i64 x.Za.Nested.Zx,.lst 2 (x.Za.Nested.Steps.map Zd.c),.int .i64 x.Cache.Clock,.lst 8 (x.Cache.Entries.map Zo.c),.int .i64 x.Ratio,.int .i64 x.Slack,.int .i64 x.Queries,.int .i64 x.Spent]
@[simp] def ZJ.c_def(x:ZJ):x.c=[.lst 3 (x.Zs.Zl.Tables.map Zc.c),.int .i64 x.Zs.Zu.Version,.lst 4 (x.Zs.Zu.Tables.map Zk.c),.lst 3 (x.Zs.Dependencies.map Zp.c),.lst 4 (x.Zs.Inclusions.map Zr.c),.int .i64 x.Za.Scan.Fixed,.int .i64 x.Za.Scan.Zv,.int .i64 x.Za.Scan.Zw,.int .i64 x.Za.Scan.Zz,.int .i64 x.Za.Scan.Zx,.lst 2 (x.Za.Scan.Steps.map Zd.c),.int .i64 x.Za.Sort_.Fixed,.int .i64 x.Za.Sort_.Zv,.int .i64 x.Za.Sort_.Zw,.int .i64 x.Za.Sort_.Zz,.int .i64 x.Za.Sort_.Zx,.lst 2 (x.Za.Sort_.Steps.map Zd.c),.int .i64 x.Za.Hash.Fixed,.int .i64 x.Za.Hash.Zv,.int .i64 x.Za.Hash.Zw,.int .i64 x.Za.Hash.Zz,.int .i64 x.Za.Hash.Zx,.lst 2 (x.Za.Hash.Steps.map Zd.c),.int .i64 x.Za.Merge.Fixed,.int .i64 x.Za.Merge.Zv,.int .i64 x.Za.Merge.Zw,.int .i64 x.Za.Merge.Zz,.int .i64 x.Za.Merge.Zx,.lst 2 (x.Za.Merge.Steps.map Zd.c),.int .i64 x.Za.Nested.Fixed,.int .i64 x.Za.Nested.Zv,.int .i64 x.Za.Nested.Zw,.int .i64 x.Za.Nested.Zz,.int .i64 x.Za.Nested.Zx,.lst 2 (x.Za.Nested.Steps.map Zd.c),.int .i64 x.Cache.Clock,.lst 8 (x.Cache.Entries.map Zo.c),.int .i64 x.Ratio,.int .i64 x.Slack,.int .i64 x.Queries,.int .i64 x.Spent]:=rfl
abbrev ZJ.small(x:ZJ):Prop:=SmL Zc.small x.Zs.Zl.Tables/\SmL Zk.small x.Zs.Zu.Tables/\SmL Zp.small x.Zs.Dependencies/\SmL Zr.small x.Zs.Inclusions/\SmA x.Za.Scan.Steps/\SmA x.Za.Sort_.Steps/\SmA x.Za.Hash.Steps/\SmA x.Za.Merge.Steps/\SmA x.Za.Nested.Steps/\SmL Zo.small x.Cache.Entries
abbrev ZJ.okay(x:ZJ):Prop:=OkL Zc.okay x.Zs.Zl.Tables/\OkI x.Zs.Zu.Version/\OkL Zk.okay x.Zs.Zu.Tables/\OkL Zp.okay x.Zs.Dependencies/\OkL Zr.okay x.Zs.Inclusions/\OkI x.Za.Scan.Fixed/\OkI x.Za.Scan.Zv/\OkI x.Za.Scan.Zw/\OkI x.Za.Scan.Zz/\OkI x.Za.Scan.Zx/\OkL Zd.okay x.Za.Scan.Steps/\OkI x.Za.Sort_.Fixed/\OkI x.Za.Sort_.Zv/\OkI x.Za.Sort_.Zw/\OkI x.Za.Sort_.Zz/\OkI x.Za.Sort_.Zx/\OkL Zd.okay x.Za.Sort_.Steps/\OkI x.Za.Hash.Fixed/\OkI x.Za.Hash.Zv/\OkI x.Za.Hash.Zw/\OkI x.Za.Hash.Zz/\OkI x.Za.Hash.Zx/\OkL Zd.okay x.Za.Hash.Steps/\OkI x.Za.Merge.Fixed/\OkI x.Za.Merge.Zv/\OkI x.Za.Merge.Zw/\OkI x.Za.Merge.Zz/\OkI x.Za.Merge.Zx/\OkL Zd.okay x.Za.Merge.Steps/\OkI x.Za.Nested.Fixed/\OkI x.Za.Nested.Zv/\OkI x.Za.Nested.Zw/\OkI x.Za.Nested.Zz/\OkI x.Za.Nested.Zx/\OkL Zd.okay x.Za.Nested.Steps/\OkI x.Cache.Clock/\OkL Zo.okay x.Cache.Entries/\OkI x.Ratio/\OkI x.Slack/\OkI x.Queries/\OkI x.Spent
def ZJ.dec(ts:UD)(h:HasShs [.slice [.str,.int .i64,.slice [.slice [.int .i64]]],.int .i64,.slice [.str,.int .i64,.int .i64,.slice [.slice [.int .i64],.slice [.slice [.int .i64]],.slice [.int .i64]]],.slice [.str,.slice [.int .i64],.int .i64],.slice [.str,.int .i64,.str,.int .i64],.int .i64,.int .i64,.int .i64,.int .i64,.int .i64,.slice [.int .i64,.int .i64],.int .i64,.int .i64,.int .i64,.int .i64,.int .i64,.slice [.int .i64,.int .i64],.int .i64,.int .i64,.int .i64,.int .i64,.int .i64,.slice [.int .i64,.int .i64],.int .i64,.int .i64,.int .i64,.int .i64,.int .i64,.slice [.int .i64,.int .i64],.int .i64,.int .i64,.int .i64,.int .i64,.int .i64,.slice [.int .i64,.int .i64],.int .i64,.slice [.int .i64,.slice [.str,.slice [.int .i64]],.slice [.int .i64,.int .i64,.int .i64],.slice [.int .i64],.slice [.int .i64],.int .i64,.int .i64,.int .i64],.int .i64,.int .i64,.int .i64,.int .i64] ts):∃x:ZJ,ts=x.c/\x.okay:=by
 obtain⟨t0,us0,rfl,g0,h0⟩:=ZC h;obtain⟨t1,us1,rfl,g1,h1⟩:=ZC h0;obtain⟨t2,us2,rfl,g2,h2⟩:=ZC h1;obtain⟨t3,us3,rfl,g3,h3⟩:=ZC h2;obtain⟨t4,us4,rfl,g4,h4⟩:=ZC h3;obtain⟨t5,us5,rfl,g5,h5⟩:=ZC h4;obtain⟨t6,us6,rfl,g6,h6⟩:=ZC h5;obtain⟨t7,us7,rfl,g7,h7⟩:=ZC h6;obtain⟨t8,us8,rfl,g8,h8⟩:=ZC h7;obtain⟨t9,us9,rfl,g9,h9⟩:=ZC h8;obtain⟨t10,us10,rfl,g10,h10⟩:=ZC h9;obtain⟨t11,us11,rfl,g11,h11⟩:=ZC h10;obtain⟨t12,us12,rfl,g12,h12⟩:=ZC h11;obtain⟨t13,us13,rfl,g13,h13⟩:=ZC h12;obtain⟨t14,us14,rfl,g14,h14⟩:=ZC h13;obtain⟨t15,us15,rfl,g15,h15⟩:=ZC h14;obtain⟨t16,us16,rfl,g16,h16⟩:=ZC h15;obtain⟨t17,us17,rfl,g17,h17⟩:=ZC h16;obtain⟨t18,us18,rfl,g18,h18⟩:=ZC h17;obtain⟨t19,us19,rfl,g19,h19⟩:=ZC h18;obtain⟨t20,us20,rfl,g20,h20⟩:=ZC h19;obtain⟨t21,us21,rfl,g21,h21⟩:=ZC h20;obtain⟨t22,us22,rfl,g22,h22⟩:=ZC h21;obtain⟨t23,us23,rfl,g23,h23⟩:=ZC h22;obtain⟨t24,us24,rfl,g24,h24⟩:=ZC h23;obtain⟨t25,us25,rfl,g25,h25⟩:=ZC h24;obtain⟨t26,us26,rfl,g26,h26⟩:=ZC h25;obtain⟨t27,us27,rfl,g27,h27⟩:=ZC h26;obtain⟨t28,us28,rfl,g28,h28⟩:=ZC h27;obtain⟨t29,us29,rfl,g29,h29⟩:=ZC h28;obtain⟨t30,us30,rfl,g30,h30⟩:=ZC h29;obtain⟨t31,us31,rfl,g31,h31⟩:=ZC h30;obtain⟨t32,us32,rfl,g32,h32⟩:=ZC h31;obtain⟨t33,us33,rfl,g33,h33⟩:=ZC h32;obtain⟨t34,us34,rfl,g34,h34⟩:=ZC h33;obtain⟨t35,us35,rfl,g35,h35⟩:=ZC h34;obtain⟨t36,us36,rfl,g36,h36⟩:=ZC h35;obtain⟨t37,us37,rfl,g37,h37⟩:=ZC h36;obtain⟨t38,us38,rfl,g38,h38⟩:=ZC h37;obtain⟨t39,us39,rfl,g39,h39⟩:=ZC h38;obtain⟨t40,us40,rfl,g40,h40⟩:=ZC h39;cases UY h40;obtain⟨x0,rfl,o0⟩:=Uf Zc.dec g0;obtain⟨x1,rfl,o1⟩:=Xf g1;obtain⟨x2,rfl,o2⟩:=Uf Zk.dec g2;obtain⟨x3,rfl,o3⟩:=Uf Zp.dec g3;obtain⟨x4,rfl,o4⟩:=Uf Zr.dec g4;obtain⟨x5,rfl,o5⟩:=Xf g5;obtain⟨x6,rfl,o6⟩:=Xf g6;obtain⟨x7,rfl,o7⟩:=Xf g7;obtain⟨x8,rfl,o8⟩:=Xf g8;obtain⟨x9,rfl,o9⟩:=Xf g9;obtain⟨x10,rfl,o10⟩:=Uf Zd.dec g10;obtain⟨x11,rfl,o11⟩:=Xf g11;obtain⟨x12,rfl,o12⟩:=Xf g12;obtain⟨x13,rfl,o13⟩:=Xf g13;obtain⟨x14,rfl,o14⟩:=Xf g14;obtain⟨x15,rfl,o15⟩:=Xf g15;obtain⟨x16,rfl,o16⟩:=Uf Zd.dec g16;obtain⟨x17,rfl,o17⟩:=Xf g17;obtain⟨x18,rfl,o18⟩:=Xf g18;obtain⟨x19,rfl,o19⟩:=Xf g19;obtain⟨x20,rfl,o20⟩:=Xf g20;obtain⟨x21,rfl,o21⟩:=Xf g21;obtain⟨x22,rfl,o22⟩:=Uf Zd.dec g22;obtain⟨x23,rfl,o23⟩:=Xf g23;obtain⟨x24,rfl,o24⟩:=Xf g24;obtain⟨x25,rfl,o25⟩:=Xf g25;obtain⟨x26,rfl,o26⟩:=Xf g26;obtain⟨x27,rfl,o27⟩:=Xf g27;obtain⟨x28,rfl,o28⟩:=Uf Zd.dec g28;obtain⟨x29,rfl,o29⟩:=Xf g29;obtain⟨x30,rfl,o30⟩:=Xf g30;obtain⟨x31,rfl,o31⟩:=Xf g31;obtain⟨x32,rfl,o32⟩:=Xf g32;obtain⟨x33,rfl,o33⟩:=Xf g33;obtain⟨x34,rfl,o34⟩:=Uf Zd.dec g34;obtain⟨x35,rfl,o35⟩:=Xf g35;obtain⟨x36,rfl,o36⟩:=Uf Zo.dec g36;obtain⟨x37,rfl,o37⟩:=Xf g37;obtain⟨x38,rfl,o38⟩:=Xf g38;obtain⟨x39,rfl,o39⟩:=Xf g39;obtain⟨x40,rfl,o40⟩:=Xf g40;exact⟨⟨⟨⟨x0⟩,⟨x1,x2⟩,x3,x4⟩,⟨⟨x5,x6,x7,x8,x9,x10⟩,⟨x11,x12,x13,x14,x15,x16⟩,⟨x17,x18,x19,x20,x21,x22⟩,⟨x23,x24,x25,x26,x27,x28⟩,⟨x29,x30,x31,x32,x33,x34⟩⟩,⟨x35,x36⟩,x37,x38,x39,x40⟩,rfl,o0,o1,o2,o3,o4,o5,o6,o7,o8,o9,o10,o11,o12,o13,o14,o15,o16,o17,o18,o19,o20,o21,o22,o23,o24,o25,o26,o27,o28,o29,o30,o31,o32,o33,o34,o35,o36,o37,o38,o39,o40⟩
def ZJ.sz(x:ZJ)(l:Int):Int:=Z5 (Zs.sz x.Zs l) λl=>Z5 (Za.sz x.Za l) λl=>Z5 (ZH.sz x.Cache l) λl=>l
def ZJ.Xj(x:ZJ)(l:Int)(hx:x.okay)(h0:0<=l)(h1:l<=1048576)(h:0<=x.sz l):x.sz l<=l/\x.small:=by
 unfold ZJ.sz at h|-;simp only[Z5]at h|-;split at h
 .omega
 rename_i q0;rw[Yb q0];have s0:=Zs.Xj x.Zs _ ⟨hx.1,hx.2.1,hx.2.2.1,hx.2.2.2.1,hx.2.2.2.2.1⟩ h0 h1 (Yj.1 q0);split at h
 .omega
 rename_i q1;rw[Yb q1];have s1:=Za.Xj x.Za _ ⟨hx.2.2.2.2.2.1,hx.2.2.2.2.2.2.1,hx.2.2.2.2.2.2.2.1,hx.2.2.2.2.2.2.2.2.1,hx.2.2.2.2.2.2.2.2.2.1,hx.2.2.2.2.2.2.2.2.2.2.1,hx.2.2.2.2.2.2.2.2.2.2.2.1,hx.2.2.2.2.2.2.2.2.2.2.2.2.1,hx.2.2.2.2.2.2.2.2.2.2.2.2.2.1,hx.2.2.2.2.2.2.2.2.2.2.2.2.2.2.1,hx.2.2.2.2.2.2.2.2.2.2.2.2.2.2.2.1,hx.2.2.2.2.2.2.2.2.2.2.2.2.2.2.2.2.1,hx.2.2.2.2.2.2.2.2.2.2.2.2.2.2.2.2.2.1,hx.2.2.2.2.2.2.2.2.2.2.2.2.2.2.2.2.2.2.1,hx.2.2.2.2.2.2.2.2.2.2.2.2.2.2.2.2.2.2.2.1,hx.2.2.2.2.2.2.2.2.2.2.2.2.2.2.2.2.2.2.2.2.1,hx.2.2.2.2.2.2.2.2.2.2.2.2.2.2.2.2.2.2.2.2.2.1,hx.2.2.2.2.2.2.2.2.2.2.2.2.2.2.2.2.2.2.2.2.2.2.1,hx.2.2.2.2.2.2.2.2.2.2.2.2.2.2.2.2.2.2.2.2.2.2.2.1,hx.2.2.2.2.2.2.2.2.2.2.2.2.2.2.2.2.2.2.2.2.2.2.2.2.1,hx.2.2.2.2.2.2.2.2.2.2.2.2.2.2.2.2.2.2.2.2.2.2.2.2.2.1,hx.2.2.2.2.2.2.2.2.2.2.2.2.2.2.2.2.2.2.2.2.2.2.2.2.2.2.1,hx.2.2.2.2.2.2.2.2.2.2.2.2.2.2.2.2.2.2.2.2.2.2.2.2.2.2.2.1,hx.2.2.2.2.2.2.2.2.2.2.2.2.2.2.2.2.2.2.2.2.2.2.2.2.2.2.2.2.1,hx.2.2.2.2.2.2.2.2.2.2.2.2.2.2.2.2.2.2.2.2.2.2.2.2.2.2.2.2.2.1,hx.2.2.2.2.2.2.2.2.2.2.2.2.2.2.2.2.2.2.2.2.2.2.2.2.2.2.2.2.2.2.1,hx.2.2.2.2.2.2.2.2.2.2.2.2.2.2.2.2.2.2.2.2.2.2.2.2.2.2.2.2.2.2.2.1,hx.2.2.2.2.2.2.2.2.2.2.2.2.2.2.2.2.2.2.2.2.2.2.2.2.2.2.2.2.2.2.2.2.1,hx.2.2.2.2.2.2.2.2.2.2.2.2.2.2.2.2.2.2.2.2.2.2.2.2.2.2.2.2.2.2.2.2.2.1,hx.2.2.2.2.2.2.2.2.2.2.2.2.2.2.2.2.2.2.2.2.2.2.2.2.2.2.2.2.2.2.2.2.2.2.1⟩ (by omega) (by omega) (Yj.1 q1);split at h
 .omega
 rename_i q2;rw[Yb q2];have s2:=ZH.Xj x.Cache _ ⟨hx.2.2.2.2.2.2.2.2.2.2.2.2.2.2.2.2.2.2.2.2.2.2.2.2.2.2.2.2.2.2.2.2.2.2.2.1,hx.2.2.2.2.2.2.2.2.2.2.2.2.2.2.2.2.2.2.2.2.2.2.2.2.2.2.2.2.2.2.2.2.2.2.2.2.1⟩ (by omega) (by omega) (Yj.1 q2);exact⟨by omega,s0.2.1,s0.2.2.1,s0.2.2.2.1,s0.2.2.2.2,s1.2.1,s1.2.2.1,s1.2.2.2.1,s1.2.2.2.2.1,s1.2.2.2.2.2,s2.2⟩
