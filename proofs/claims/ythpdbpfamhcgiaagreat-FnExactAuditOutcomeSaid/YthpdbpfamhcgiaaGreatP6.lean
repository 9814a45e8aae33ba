/-
  Parts of the proofs for this seat: TY.
-/
import Derived.Test.YthpdbpfamhcgiaaGreatP3
set_option linter.all false
set_option maxRecDepth 100000
set_option maxHeartbeats 4000000
namespace Go.Proofs.YthpdbpfamhcgiaaGreat
open Go.AM
@[ext] structure Zt where
 Zq:YA
 Zu:Int
 Rows:V4
 deriving DecidableEq
def Zt.c(x:Zt):KS:=[.str x.Zq,.int .i64 x.Zu,tII x.Rows]
@[simp] def Zt.c_def(x:Zt):x.c=[.str x.Zq,.int .i64 x.Zu,tII x.Rows]:=rfl
abbrev Zt.small(x:Zt):Prop:=SsA x.Zq/\SmL SmA x.Rows
abbrev Zt.okay(x:Zt):Prop:=OkS x.Zq/\OkI x.Zu/\OkL (OkL OkI) x.Rows
def Zt.dec(ts:KS)(h:XK [.str,.int .i64,.slice [.slice [.int .i64]]] ts):∃x:Zt,ts=x.c/\x.okay:=by
 obtain⟨t0,us0,rfl,g0,h0⟩:=ZP h;obtain⟨t1,us1,rfl,g1,h1⟩:=ZP h0;obtain⟨t2,us2,rfl,g2,h2⟩:=ZP h1;cases Uk h2;obtain⟨x0,rfl,o0⟩:=ZeD g0;obtain⟨x1,rfl,o1⟩:=Xy g1;obtain⟨x2,rfl,o2⟩:=Zmz g2;exact⟨⟨x0,x1,x2⟩,rfl,o0,o1,o2⟩
def Zt.sz(x:Zt)(l:Int):Int:=ZV (sz1 x.Zq.size l) λl=>ZV (szL szI x.Rows l) λl=>l
def Zt.X8(x:Zt)(l:Int)(hx:x.okay)(h0:0<=l)(h1:l<=1048576)(h:0<=x.sz l):x.sz l<=l/\x.small:=by
 unfold Zt.sz at h|-;simp only[ZV]at h|-;split at h
 .omega
 rename_i q0;rw[Yb q0];have s0:=Vh hx.1 h0 h1 (Yo.1 q0);split at h
 .omega
 rename_i q1;rw[Yb q1];have s1:=KB (f:=szI) (p:=λy:V6=>SmA y) hx.2.2.1 (λy hy l a b c=>Vh (hx.2.2.2 y hy).1 a b c) (by omega) (by omega) (Yo.1 q1);exact⟨by omega,s0.2,s1.2⟩
@[ext] structure Zp where
 Z6:List Zt
 deriving DecidableEq
def Zp.c(x:Zp):KS:=[.lst 3 (x.Z6.map Zt.c)]
@[simp] def Zp.c_def(x:Zp):x.c=[.lst 3 (x.Z6.map Zt.c)]:=rfl
abbrev Zp.small(x:Zp):Prop:=SmL Zt.small x.Z6
abbrev Zp.okay(x:Zp):Prop:=OkL Zt.okay x.Z6
def Zp.sz(x:Zp)(l:Int):Int:=ZV (szL Zt.sz x.Z6 l) λl=>l
def Zp.X8(x:Zp)(l:Int)(hx:x.okay)(h0:0<=l)(h1:l<=1048576)(h:0<=x.sz l):x.sz l<=l/\x.small:=by
 unfold Zp.sz at h|-;simp only[ZV]at h|-;split at h
 .omega
 rename_i q0;rw[Yb q0];have s0:=KB (p:=Zt.small) hx.1 (λy hy l a b c=>Zt.X8 y l (hx.2 y hy) a b c) h0 h1 (Yo.1 q0);exact⟨by omega,s0.2⟩
@[ext] structure Ze where
 Zq:YA
 Za:V6
 deriving DecidableEq
def Ze.c(x:Ze):KS:=[.str x.Zq,tI x.Za]
@[simp] def Ze.c_def(x:Ze):x.c=[.str x.Zq,tI x.Za]:=rfl
abbrev Ze.small(x:Ze):Prop:=SsA x.Zq/\SmA x.Za
abbrev Ze.okay(x:Ze):Prop:=OkS x.Zq/\OkL OkI x.Za
def Ze.dec(ts:KS)(h:XK [.str,.slice [.int .i64]] ts):∃x:Ze,ts=x.c/\x.okay:=by
 obtain⟨t0,us0,rfl,g0,h0⟩:=ZP h;obtain⟨t1,us1,rfl,g1,h1⟩:=ZP h0;cases Uk h1;obtain⟨x0,rfl,o0⟩:=ZeD g0;obtain⟨x1,rfl,o1⟩:=KC g1;exact⟨⟨x0,x1⟩,rfl,o0,o1⟩
def Ze.sz(x:Ze)(l:Int):Int:=ZV (sz1 x.Zq.size l) λl=>ZV (sz1 x.Za.length l) λl=>l
def Ze.X8(x:Ze)(l:Int)(hx:x.okay)(h0:0<=l)(h1:l<=1048576)(h:0<=x.sz l):x.sz l<=l/\x.small:=by
 unfold Ze.sz at h|-;simp only[ZV]at h|-;split at h
 .omega
 rename_i q0;rw[Yb q0];have s0:=Vh hx.1 h0 h1 (Yo.1 q0);split at h
 .omega
 rename_i q1;rw[Yb q1];have s1:=Vh hx.2.1 (by omega) (by omega) (Yo.1 q1);exact⟨by omega,s0.2,s1.2⟩
@[ext] structure Zf where
 Zk:Int
 Zb:List Ze
 deriving DecidableEq
def Zf.c(x:Zf):KS:=[.int .i64 x.Zk,.lst 2 (x.Zb.map Ze.c)]
@[simp] def Zf.c_def(x:Zf):x.c=[.int .i64 x.Zk,.lst 2 (x.Zb.map Ze.c)]:=rfl
abbrev Zf.small(x:Zf):Prop:=SmL Ze.small x.Zb
abbrev Zf.okay(x:Zf):Prop:=OkI x.Zk/\OkL Ze.okay x.Zb
def Zf.dec(ts:KS)(h:XK [.int .i64,.slice [.str,.slice [.int .i64]]] ts):∃x:Zf,ts=x.c/\x.okay:=by
 obtain⟨t0,us0,rfl,g0,h0⟩:=ZP h;obtain⟨t1,us1,rfl,g1,h1⟩:=ZP h0;cases Uk h1;obtain⟨x0,rfl,o0⟩:=Xy g0;obtain⟨x1,rfl,o1⟩:=Uz Ze.dec g1;exact⟨⟨x0,x1⟩,rfl,o0,o1⟩
def Zf.sz(x:Zf)(l:Int):Int:=ZV (szL Ze.sz x.Zb l) λl=>l
def Zf.X8(x:Zf)(l:Int)(hx:x.okay)(h0:0<=l)(h1:l<=1048576)(h:0<=x.sz l):x.sz l<=l/\x.small:=by
 unfold Zf.sz at h|-;simp only[ZV]at h|-;split at h
 .omega
 rename_i q0;rw[Yb q0];have s0:=KB (p:=Ze.small) hx.2.1 (λy hy l a b c=>Ze.X8 y l (hx.2.2 y hy) a b c) h0 h1 (Yo.1 q0);exact⟨by omega,s0.2⟩
@[ext] structure ZW where
 Za:V6
 Rows:V4
 deriving DecidableEq
def ZW.c(x:ZW):KS:=[tI x.Za,tII x.Rows]
@[simp] def ZW.c_def(x:ZW):x.c=[tI x.Za,tII x.Rows]:=rfl
abbrev ZW.small(x:ZW):Prop:=SmA x.Za/\SmL SmA x.Rows
abbrev ZW.okay(x:ZW):Prop:=OkL OkI x.Za/\OkL (OkL OkI) x.Rows
def ZW.sz(x:ZW)(l:Int):Int:=ZV (sz1 x.Za.length l) λl=>ZV (szL szI x.Rows l) λl=>l
def ZW.X8(x:ZW)(l:Int)(hx:x.okay)(h0:0<=l)(h1:l<=1048576)(h:0<=x.sz l):x.sz l<=l/\x.small:=by
 unfold ZW.sz at h|-;simp only[ZV]at h|-;split at h
 .omega
 rename_i q0;rw[Yb q0];have s0:=Vh hx.1.1 h0 h1 (Yo.1 q0);split at h
 .omega
 rename_i q1;rw[Yb q1];have s1:=KB (f:=szI) (p:=λy:V6=>SmA y) hx.2.1 (λy hy l a b c=>Vh (hx.2.2 y hy).1 a b c) (by omega) (by omega) (Yo.1 q1);exact⟨by omega,s0.2,s1.2⟩
@[ext] structure ZA where
 Zq:YA
 ZY:V6
 To:Int
 deriving DecidableEq
def ZA.c(x:ZA):KS:=[.str x.Zq,tI x.ZY,.int .i64 x.To]
@[simp] def ZA.c_def(x:ZA):x.c=[.str x.Zq,tI x.ZY,.int .i64 x.To]:=rfl
abbrev ZA.small(x:ZA):Prop:=SsA x.Zq/\SmA x.ZY
abbrev ZA.okay(x:ZA):Prop:=OkS x.Zq/\OkL OkI x.ZY/\OkI x.To
def ZA.dec(ts:KS)(h:XK [.str,.slice [.int .i64],.int .i64] ts):∃x:ZA,ts=x.c/\x.okay:=by
 obtain⟨t0,us0,rfl,g0,h0⟩:=ZP h;obtain⟨t1,us1,rfl,g1,h1⟩:=ZP h0;obtain⟨t2,us2,rfl,g2,h2⟩:=ZP h1;cases Uk h2;obtain⟨x0,rfl,o0⟩:=ZeD g0;obtain⟨x1,rfl,o1⟩:=KC g1;obtain⟨x2,rfl,o2⟩:=Xy g2;exact⟨⟨x0,x1,x2⟩,rfl,o0,o1,o2⟩
def ZA.sz(x:ZA)(l:Int):Int:=ZV (sz1 x.Zq.size l) λl=>ZV (sz1 x.ZY.length l) λl=>l
def ZA.X8(x:ZA)(l:Int)(hx:x.okay)(h0:0<=l)(h1:l<=1048576)(h:0<=x.sz l):x.sz l<=l/\x.small:=by
 unfold ZA.sz at h|-;simp only[ZV]at h|-;split at h
 .omega
 rename_i q0;rw[Yb q0];have s0:=Vh hx.1 h0 h1 (Yo.1 q0);split at h
 .omega
 rename_i q1;rw[Yb q1];have s1:=Vh hx.2.1.1 (by omega) (by omega) (Yo.1 q1);exact⟨by omega,s0.2,s1.2⟩
@[ext] structure Z7 where
 Zq:YA
 Xu:Int
 Vr:YA
 XC:Int
 deriving DecidableEq
def Z7.c(x:Z7):KS:=[.str x.Zq,.int .i64 x.Xu,.str x.Vr,.int .i64 x.XC]
@[simp] def Z7.c_def(x:Z7):x.c=[.str x.Zq,.int .i64 x.Xu,.str x.Vr,.int .i64 x.XC]:=rfl
abbrev Z7.small(x:Z7):Prop:=SsA x.Zq/\SsA x.Vr
abbrev Z7.okay(x:Z7):Prop:=OkS x.Zq/\OkI x.Xu/\OkS x.Vr/\OkI x.XC
def Z7.dec(ts:KS)(h:XK [.str,.int .i64,.str,.int .i64] ts):∃x:Z7,ts=x.c/\x.okay:=by
 obtain⟨t0,us0,rfl,g0,h0⟩:=ZP h;obtain⟨t1,us1,rfl,g1,h1⟩:=ZP h0;obtain⟨t2,us2,rfl,g2,h2⟩:=ZP h1;obtain⟨t3,us3,rfl,g3,h3⟩:=ZP h2;cases Uk h3;obtain⟨x0,rfl,o0⟩:=ZeD g0;obtain⟨x1,rfl,o1⟩:=Xy g1;obtain⟨x2,rfl,o2⟩:=ZeD g2;obtain⟨x3,rfl,o3⟩:=Xy g3;exact⟨⟨x0,x1,x2,x3⟩,rfl,o0,o1,o2,o3⟩
def Z7.sz(x:Z7)(l:Int):Int:=ZV (sz1 x.Zq.size l) λl=>ZV (sz1 x.Vr.size l) λl=>l
def Z7.X8(x:Z7)(l:Int)(hx:x.okay)(h0:0<=l)(h1:l<=1048576)(h:0<=x.sz l):x.sz l<=l/\x.small:=by
 unfold Z7.sz at h|-;simp only[ZV]at h|-;split at h
 .omega
 rename_i q0;rw[Yb q0];have s0:=Vh hx.1 h0 h1 (Yo.1 q0);split at h
 .omega
 rename_i q1;rw[Yb q1];have s1:=Vh hx.2.2.1 (by omega) (by omega) (Yo.1 q1);exact⟨by omega,s0.2,s1.2⟩
@[ext] structure ZC where
 Ql:V6
 W7:V4
 Ke:V6
 deriving DecidableEq
def ZC.c(x:ZC):KS:=[tI x.Ql,tII x.W7,tI x.Ke]
@[simp] def ZC.c_def(x:ZC):x.c=[tI x.Ql,tII x.W7,tI x.Ke]:=rfl
abbrev ZC.small(x:ZC):Prop:=SmA x.Ql/\SmL SmA x.W7/\SmA x.Ke
abbrev ZC.okay(x:ZC):Prop:=OkL OkI x.Ql/\OkL (OkL OkI) x.W7/\OkL OkI x.Ke
def ZC.dec(ts:KS)(h:XK [.slice [.int .i64],.slice [.slice [.int .i64]],.slice [.int .i64]] ts):∃x:ZC,ts=x.c/\x.okay:=by
 obtain⟨t0,us0,rfl,g0,h0⟩:=ZP h;obtain⟨t1,us1,rfl,g1,h1⟩:=ZP h0;obtain⟨t2,us2,rfl,g2,h2⟩:=ZP h1;cases Uk h2;obtain⟨x0,rfl,o0⟩:=KC g0;obtain⟨x1,rfl,o1⟩:=Zmz g1;obtain⟨x2,rfl,o2⟩:=KC g2;exact⟨⟨x0,x1,x2⟩,rfl,o0,o1,o2⟩
def ZC.sz(x:ZC)(l:Int):Int:=ZV (sz1 x.Ql.length l) λl=>ZV (szL szI x.W7 l) λl=>ZV (sz1 x.Ke.length l) λl=>l
def ZC.X8(x:ZC)(l:Int)(hx:x.okay)(h0:0<=l)(h1:l<=1048576)(h:0<=x.sz l):x.sz l<=l/\x.small:=by
 unfold ZC.sz at h|-;simp only[ZV]at h|-;split at h
 .omega
 rename_i q0;rw[Yb q0];have s0:=Vh hx.1.1 h0 h1 (Yo.1 q0);split at h
 .omega
 rename_i q1;rw[Yb q1];have s1:=KB (f:=szI) (p:=λy:V6=>SmA y) hx.2.1.1 (λy hy l a b c=>Vh (hx.2.1.2 y hy).1 a b c) (by omega) (by omega) (Yo.1 q1);split at h
 .omega
 rename_i q2;rw[Yb q2];have s2:=Vh hx.2.2.1 (by omega) (by omega) (Yo.1 q2);exact⟨by omega,s0.2,s1.2,s2.2⟩
@[ext] structure Z5 where
 Zq:YA
 Zu:Int
 VD:Int
 Xs:List ZC
 deriving DecidableEq
def Z5.c(x:Z5):KS:=[.str x.Zq,.int .i64 x.Zu,.int .i64 x.VD,.lst 3 (x.Xs.map ZC.c)]
@[simp] def Z5.c_def(x:Z5):x.c=[.str x.Zq,.int .i64 x.Zu,.int .i64 x.VD,.lst 3 (x.Xs.map ZC.c)]:=rfl
abbrev Z5.small(x:Z5):Prop:=SsA x.Zq/\SmL ZC.small x.Xs
abbrev Z5.okay(x:Z5):Prop:=OkS x.Zq/\OkI x.Zu/\OkI x.VD/\OkL ZC.okay x.Xs
def Z5.dec(ts:KS)(h:XK [.str,.int .i64,.int .i64,.slice [.slice [.int .i64],.slice [.slice [.int .i64]],.slice [.int .i64]]] ts):∃x:Z5,ts=x.c/\x.okay:=by
 obtain⟨t0,us0,rfl,g0,h0⟩:=ZP h;obtain⟨t1,us1,rfl,g1,h1⟩:=ZP h0;obtain⟨t2,us2,rfl,g2,h2⟩:=ZP h1;obtain⟨t3,us3,rfl,g3,h3⟩:=ZP h2;cases Uk h3;obtain⟨x0,rfl,o0⟩:=ZeD g0;obtain⟨x1,rfl,o1⟩:=Xy g1;obtain⟨x2,rfl,o2⟩:=Xy g2;obtain⟨x3,rfl,o3⟩:=Uz ZC.dec g3;exact⟨⟨x0,x1,x2,x3⟩,rfl,o0,o1,o2,o3⟩
def Z5.sz(x:Z5)(l:Int):Int:=ZV (sz1 x.Zq.size l) λl=>ZV (szL ZC.sz x.Xs l) λl=>l
def Z5.X8(x:Z5)(l:Int)(hx:x.okay)(h0:0<=l)(h1:l<=1048576)(h:0<=x.sz l):x.sz l<=l/\x.small:=by
 unfold Z5.sz at h|-;simp only[ZV]at h|-;split at h
 .omega
 rename_i q0;rw[Yb q0];have s0:=Vh hx.1 h0 h1 (Yo.1 q0);split at h
 .omega
 rename_i q1;rw[Yb q1];have s1:=KB (p:=ZC.small) hx.2.2.2.1 (λy hy l a b c=>ZC.X8 y l (hx.2.2.2.2 y hy) a b c) (by omega) (by omega) (Yo.1 q1);exact⟨by omega,s0.2,s1.2⟩
@[ext] structure ZN where
 Xh:Int
 Z6:List Z5
 deriving DecidableEq
def ZN.c(x:ZN):KS:=[.int .i64 x.Xh,.lst 4 (x.Z6.map Z5.c)]
@[simp] def ZN.c_def(x:ZN):x.c=[.int .i64 x.Xh,.lst 4 (x.Z6.map Z5.c)]:=rfl
abbrev ZN.small(x:ZN):Prop:=SmL Z5.small x.Z6
abbrev ZN.okay(x:ZN):Prop:=OkI x.Xh/\OkL Z5.okay x.Z6
def ZN.sz(x:ZN)(l:Int):Int:=ZV (szL Z5.sz x.Z6 l) λl=>l
def ZN.X8(x:ZN)(l:Int)(hx:x.okay)(h0:0<=l)(h1:l<=1048576)(h:0<=x.sz l):x.sz l<=l/\x.small:=by
 unfold ZN.sz at h|-;simp only[ZV]at h|-;split at h
 .omega
 rename_i q0;rw[Yb q0];have s0:=KB (p:=Z5.small) hx.2.1 (λy hy l a b c=>Z5.X8 y l (hx.2.2 y hy) a b c) h0 h1 (Yo.1 q0);exact⟨by omega,s0.2⟩
@[ext] structure Xr where
 Zp:Zp
 ZN:ZN
 QD:List ZA
 QE:List Z7
 deriving DecidableEq
def Xr.c(x:Xr):KS:=[.lst 3 (x.Zp.Z6.map Zt.c),.int .i64 x.ZN.Xh,.lst 4 (x.ZN.Z6.map Z5.c),.lst 3 (x.QD.map ZA.c),.lst 4 (x.QE.map Z7.c)]
@[simp] def Xr.c_def(x:Xr):x.c=[.lst 3 (x.Zp.Z6.map Zt.c),.int .i64 x.ZN.Xh,.lst 4 (x.ZN.Z6.map Z5.c),.lst 3 (x.QD.map ZA.c),.lst 4 (x.QE.map Z7.c)]:=rfl
abbrev Xr.small(x:Xr):Prop:=SmL Zt.small x.Zp.Z6/\SmL Z5.small x.ZN.Z6/\SmL ZA.small x.QD/\SmL Z7.small x.QE
abbrev Xr.okay(x:Xr):Prop:=OkL Zt.okay x.Zp.Z6/\OkI x.ZN.Xh/\OkL Z5.okay x.ZN.Z6/\OkL ZA.okay x.QD/\OkL Z7.okay x.QE
def Xr.dec(ts:KS)(h:XK [.slice [.str,.int .i64,.slice [.slice [.int .i64]]],.int .i64,.slice [.str,.int .i64,.int .i64,.slice [.slice [.int .i64],.slice [.slice [.int .i64]],.slice [.int .i64]]],.slice [.str,.slice [.int .i64],.int .i64],.slice [.str,.int .i64,.str,.int .i64]] ts):∃x:Xr,ts=x.c/\x.okay:=by
 obtain⟨t0,us0,rfl,g0,h0⟩:=ZP h;obtain⟨t1,us1,rfl,g1,h1⟩:=ZP h0;obtain⟨t2,us2,rfl,g2,h2⟩:=ZP h1;obtain⟨t3,us3,rfl,g3,h3⟩:=ZP h2;obtain⟨t4,us4,rfl,g4,h4⟩:=ZP h3;cases Uk h4;obtain⟨x0,rfl,o0⟩:=Uz Zt.dec g0;obtain⟨x1,rfl,o1⟩:=Xy g1;obtain⟨x2,rfl,o2⟩:=Uz Z5.dec g2;obtain⟨x3,rfl,o3⟩:=Uz ZA.dec g3;obtain⟨x4,rfl,o4⟩:=Uz Z7.dec g4;exact⟨⟨⟨x0⟩,⟨x1,x2⟩,x3,x4⟩,rfl,o0,o1,o2,o3,o4⟩
def Xr.sz(x:Xr)(l:Int):Int:=ZV (Zp.sz x.Zp l) λl=>ZV (ZN.sz x.ZN l) λl=>ZV (szL ZA.sz x.QD l) λl=>ZV (szL Z7.sz x.QE l) λl=>l
def Xr.X8(x:Xr)(l:Int)(hx:x.okay)(h0:0<=l)(h1:l<=1048576)(h:0<=x.sz l):x.sz l<=l/\x.small:=by
 unfold Xr.sz at h|-;simp only[ZV]at h|-;split at h
 .omega
 rename_i q0;rw[Yb q0];have s0:=Zp.X8 x.Zp _ hx.1 h0 h1 (Yo.1 q0);split at h
 .omega
 rename_i q1;rw[Yb q1];have s1:=ZN.X8 x.ZN _ ⟨hx.2.1,hx.2.2.1⟩ (by omega) (by omega) (Yo.1 q1);split at h
 .omega
 rename_i q2;rw[Yb q2];have s2:=KB (p:=ZA.small) hx.2.2.2.1.1 (λy hy l a b c=>ZA.X8 y l (hx.2.2.2.1.2 y hy) a b c) (by omega) (by omega) (Yo.1 q2);split at h
 .omega
 rename_i q3;rw[Yb q3];have s3:=KB (p:=Z7.small) hx.2.2.2.2.1 (λy hy l a b c=>Z7.X8 y l (hx.2.2.2.2.2 y hy) a b c) (by omega) (by omega) (Yo.1 q3);exact⟨by omega,s0.2,s1.2,s2.2,s3.2⟩
@[ext] structure Box where
 Low:V6
 ZZ:V6
 deriving DecidableEq
def Box.c(x:Box):KS:=[tI x.Low,tI x.ZZ]
@[simp] def Box.c_def(x:Box):x.c=[tI x.Low,tI x.ZZ]:=rfl
abbrev Box.small(x:Box):Prop:=SmA x.Low/\SmA x.ZZ
abbrev Box.okay(x:Box):Prop:=OkL OkI x.Low/\OkL OkI x.ZZ
def Box.sz(x:Box)(l:Int):Int:=ZV (sz1 x.Low.length l) λl=>ZV (sz1 x.ZZ.length l) λl=>l
def Box.X8(x:Box)(l:Int)(hx:x.okay)(h0:0<=l)(h1:l<=1048576)(h:0<=x.sz l):x.sz l<=l/\x.small:=by
 unfold Box.sz at h|-;simp only[ZV]at h|-;split at h
 .omega
 rename_i q0;rw[Yb q0];have s0:=Vh hx.1.1 h0 h1 (Yo.1 q0);split at h
 .omega
 rename_i q1;rw[Yb q1];have s1:=Vh hx.2.1 (by omega) (by omega) (Yo.1 q1);exact⟨by omega,s0.2,s1.2⟩
@[ext] structure Zx where
 ZY:Int
 Add:Int
 deriving DecidableEq
def Zx.c(x:Zx):KS:=[.int .i64 x.ZY,.int .i64 x.Add]
@[simp] def Zx.c_def(x:Zx):x.c=[.int .i64 x.ZY,.int .i64 x.Add]:=rfl
abbrev Zx.small(x:Zx):Prop:=True
abbrev Zx.okay(x:Zx):Prop:=OkI x.ZY/\OkI x.Add
def Zx.dec(ts:KS)(h:XK [.int .i64,.int .i64] ts):∃x:Zx,ts=x.c/\x.okay:=by
 obtain⟨t0,us0,rfl,g0,h0⟩:=ZP h;obtain⟨t1,us1,rfl,g1,h1⟩:=ZP h0;cases Uk h1;obtain⟨x0,rfl,o0⟩:=Xy g0;obtain⟨x1,rfl,o1⟩:=Xy g1;exact⟨⟨x0,x1⟩,rfl,o0,o1⟩
@[ext] structure Z8 where
 ZD:Int
 ZE:Int
 ZF:Int
 ZG:Int
 ZH:Int
 Steps:List Zx
 deriving DecidableEq
def Z8.c(x:Z8):KS:=[.int .i64 x.ZD,.int .i64 x.ZE,.int .i64 x.ZF,.int .i64 x.ZG,.int .i64 x.ZH,.lst 2 (x.Steps.map Zx.c)]
@[simp] def Z8.c_def(x:Z8):x.c=[.int .i64 x.ZD,.int .i64 x.ZE,.int .i64 x.ZF,.int .i64 x.ZG,.int .i64 x.ZH,.lst 2 (x.Steps.map Zx.c)]:=rfl
abbrev Z8.small(x:Z8):Prop:=SmA x.Steps
abbrev Z8.okay(x:Z8):Prop:=OkI x.ZD/\OkI x.ZE/\OkI x.ZF/\OkI x.ZG/\OkI x.ZH/\OkL Zx.okay x.Steps
def Z8.sz(x:Z8)(l:Int):Int:=ZV (sz1 x.Steps.length l) λl=>l
def Z8.X8(x:Z8)(l:Int)(hx:x.okay)(h0:0<=l)(h1:l<=1048576)(h:0<=x.sz l):x.sz l<=l/\x.small:=by
 unfold Z8.sz at h|-;simp only[ZV]at h|-;split at h
 .omega
 rename_i q0;rw[Yb q0];have s0:=Vh hx.2.2.2.2.2.1 h0 h1 (Yo.1 q0);exact⟨by omega,s0.2⟩
@[ext] structure Zn where
 Z1:Z8
 Zz:Z8
 Z2:Z8
 Z3:Z8
 Z4:Z8
 deriving DecidableEq
def Zn.c(x:Zn):KS:=[.int .i64 x.Z1.ZD,.int .i64 x.Z1.ZE,.int .i64 x.Z1.ZF,.int .i64 x.Z1.ZG,.int .i64 x.Z1.ZH,.lst 2 (x.Z1.Steps.map Zx.c),.int .i64 x.Zz.ZD,.int .i64 x.Zz.ZE,.int .i64 x.Zz.ZF,.int .i64 x.Zz.ZG,.int .i64 x.Zz.ZH,.lst 2 (x.Zz.Steps.map Zx.c),.int .i64 x.Z2.ZD,.int .i64 x.Z2.ZE,.int .i64 x.Z2.ZF,.int .i64 x.Z2.ZG,.int .i64 x.Z2.ZH,.lst 2 (x.Z2.Steps.map Zx.c),.int .i64 x.Z3.ZD,.int .i64 x.Z3.ZE,.int .i64 x.Z3.ZF,.int .i64 x.Z3.ZG,.int .i64 x.Z3.ZH,.lst 2 (x.Z3.Steps.map Zx.c),.int .i64 x.Z4.ZD,.int .i64 x.Z4.ZE,.int .i64 x.Z4.ZF,.int .i64 x.Z4.ZG,.int .i64 x.Z4.ZH,.lst 2 (x.Z4.Steps.map Zx.c)]
@[simp] def Zn.c_def(x:Zn):x.c=[.int .i64 x.Z1.ZD,.int .i64 x.Z1.ZE,.int .i64 x.Z1.ZF,.int .i64 x.Z1.ZG,.int .i64 x.Z1.ZH,.lst 2 (x.Z1.Steps.map Zx.c),.int .i64 x.Zz.ZD,.int .i64 x.Zz.ZE,.int .i64 x.Zz.ZF,.int .i64 x.Zz.ZG,.int .i64 x.Zz.ZH,.lst 2 (x.Zz.Steps.map Zx.c),.int .i64 x.Z2.ZD,.int .i64 x.Z2.ZE,.int .i64 x.Z2.ZF,.int .i64 x.Z2.ZG,.int .i64 x.Z2.ZH,.lst 2 (x.Z2.Steps.map Zx.c),.int .i64 x.Z3.ZD,.int .i64 x.Z3.ZE,.int .i64 x.Z3.ZF,.int .i64 x.Z3.ZG,.int .i64 x.Z3.ZH,.lst 2 (x.Z3.Steps.map Zx.c),.int .i64 x.Z4.ZD,.int .i64 x.Z4.ZE,.int .i64 x.Z4.ZF,.int .i64 x.Z4.ZG,.int .i64 x.Z4.ZH,.lst 2 (x.Z4.Steps.map Zx.c)]:=rfl
abbrev Zn.small(x:Zn):Prop:=SmA x.Z1.Steps/\SmA x.Zz.Steps/\SmA x.Z2.Steps/\SmA x.Z3.Steps/\SmA x.Z4.Steps
abbrev Zn.okay(x:Zn):Prop:=OkI x.Z1.ZD/\OkI x.Z1.ZE/\OkI x.Z1.ZF/\OkI x.Z1.ZG/\OkI x.Z1.ZH/\OkL Zx.okay x.Z1.Steps/\OkI x.Zz.ZD/\OkI x.Zz.ZE/\OkI x.Zz.ZF/\OkI x.Zz.ZG/\OkI x.Zz.ZH/\OkL Zx.okay x.Zz.Steps/\OkI x.Z2.ZD/\OkI x.Z2.ZE/\OkI x.Z2.ZF/\OkI x.Z2.ZG/\OkI x.Z2.ZH/\OkL Zx.okay x.Z2.Steps/\OkI x.Z3.ZD/\OkI x.Z3.ZE/\OkI x.Z3.ZF/\OkI x.Z3.ZG/\OkI x.Z3.ZH/\OkL Zx.okay x.Z3.Steps/\OkI x.Z4.ZD/\OkI x.Z4.ZE/\OkI x.Z4.ZF/\OkI x.Z4.ZG/\OkI x.Z4.ZH/\OkL Zx.okay x.Z4.Steps
def Zn.dec(ts:KS)(h:XK [.int .i64,.int .i64,.int .i64,.int .i64,.int .i64,.slice [.int .i64,.int .i64],.int .i64,.int .i64,.int .i64,.int .i64,.int .i64,.slice [.int .i64,.int .i64],.int .i64,.int .i64,.int .i64,.int .i64,.int .i64,.slice [.int .i64,.int .i64],.int .i64,.int .i64,.int .i64,.int .i64,.int .i64,.slice [.int .i64,.int .i64],.int .i64,.int .i64,.int .i64,.int .i64,.int .i64,.slice [.int .i64,.int .i64]] ts):∃x:Zn,ts=x.c/\x.okay:=by
 obtain⟨t0,us0,rfl,g0,h0⟩:=ZP h;obtain⟨t1,us1,rfl,g1,h1⟩:=ZP h0;obtain⟨t2,us2,rfl,g2,h2⟩:=ZP h1;obtain⟨t3,us3,rfl,g3,h3⟩:=ZP h2;obtain⟨t4,us4,rfl,g4,h4⟩:=ZP h3;obtain⟨t5,us5,rfl,g5,h5⟩:=ZP h4;obtain⟨t6,us6,rfl,g6,h6⟩:=ZP h5;obtain⟨t7,us7,rfl,g7,h7⟩:=ZP h6;obtain⟨t8,us8,rfl,g8,h8⟩:=ZP h7;obtain⟨t9,us9,rfl,g9,h9⟩:=ZP h8;obtain⟨t10,us10,rfl,g10,h10⟩:=ZP h9;obtain⟨t11,us11,rfl,g11,h11⟩:=ZP h10;obtain⟨t12,us12,rfl,g12,h12⟩:=ZP h11;obtain⟨t13,us13,rfl,g13,h13⟩:=ZP h12;obtain⟨t14,us14,rfl,g14,h14⟩:=ZP h13;obtain⟨t15,us15,rfl,g15,h15⟩:=ZP h14;obtain⟨t16,us16,rfl,g16,h16⟩:=ZP h15;obtain⟨t17,us17,rfl,g17,h17⟩:=ZP h16;obtain⟨t18,us18,rfl,g18,h18⟩:=ZP h17;obtain⟨t19,us19,rfl,g19,h19⟩:=ZP h18;obtain⟨t20,us20,rfl,g20,h20⟩:=ZP h19;obtain⟨t21,us21,rfl,g21,h21⟩:=ZP h20;obtain⟨t22,us22,rfl,g22,h22⟩:=ZP h21;obtain⟨t23,us23,rfl,g23,h23⟩:=ZP h22;obtain⟨t24,us24,rfl,g24,h24⟩:=ZP h23;obtain⟨t25,us25,rfl,g25,h25⟩:=ZP h24;obtain⟨t26,us26,rfl,g26,h26⟩:=ZP h25;obtain⟨t27,us27,rfl,g27,h27⟩:=ZP h26;obtain⟨t28,us28,rfl,g28,h28⟩:=ZP h27;obtain⟨t29,us29,rfl,g29,h29⟩:=ZP h28;cases Uk h29;obtain⟨x0,rfl,o0⟩:=Xy g0;obtain⟨x1,rfl,o1⟩:=Xy g1;obtain⟨x2,rfl,o2⟩:=Xy g2;obtain⟨x3,rfl,o3⟩:=Xy g3;obtain⟨x4,rfl,o4⟩:=Xy g4;obtain⟨x5,rfl,o5⟩:=Uz Zx.dec g5;obtain⟨x6,rfl,o6⟩:=Xy g6;obtain⟨x7,rfl,o7⟩:=Xy g7;obtain⟨x8,rfl,o8⟩:=Xy g8;obtain⟨x9,rfl,o9⟩:=Xy g9;obtain⟨x10,rfl,o10⟩:=Xy g10;obtain⟨x11,rfl,o11⟩:=Uz Zx.dec g11;obtain⟨x12,rfl,o12⟩:=Xy g12;obtain⟨x13,rfl,o13⟩:=Xy g13;obtain⟨x14,rfl,o14⟩:=Xy g14;obtain⟨x15,rfl,o15⟩:=Xy g15;obtain⟨x16,rfl,o16⟩:=Xy g16;obtain⟨x17,rfl,o17⟩:=Uz Zx.dec g17;obtain⟨x18,rfl,o18⟩:=Xy g18;obtain⟨x19,rfl,o19⟩:=Xy g19;obtain⟨x20,rfl,o20⟩:=Xy g20;obtain⟨x21,rfl,o21⟩:=Xy g21;obtain⟨x22,rfl,o22⟩:=Xy g22;obtain⟨x23,rfl,o23⟩:=Uz Zx.dec g23;obtain⟨x24,rfl,o24⟩:=Xy g24;obtain⟨x25,rfl,o25⟩:=Xy g25;obtain⟨x26,rfl,o26⟩:=Xy g26;obtain⟨x27,rfl,o27⟩:=Xy g27;obtain⟨x28,rfl,o28⟩:=Xy g28;obtain⟨x29,rfl,o29⟩:=Uz Zx.dec g29;exact⟨⟨⟨x0,x1,x2,x3,x4,x5⟩,⟨x6,x7,x8,x9,x10,x11⟩,⟨x12,x13,x14,x15,x16,x17⟩,⟨x18,x19,x20,x21,x22,x23⟩,⟨x24,x25,x26,x27,x28,x29⟩⟩,rfl,o0,o1,o2,o3,o4,o5,o6,o7,o8,o9,o10,o11,o12,o13,o14,o15,o16,o17,o18,o19,o20,o21,o22,o23,o24,o25,o26,o27,o28,o29⟩
def Zn.sz(x:Zn)(l:Int):Int:=ZV (Z8.sz x.Z1 l) λl=>ZV (Z8.sz x.Zz l) λl=>ZV (Z8.sz x.Z2 l) λl=>ZV (Z8.sz x.Z3 l) λl=>ZV (Z8.sz x.Z4 l) λl=>l
def Zn.X8(x:Zn)(l:Int)(hx:x.okay)(h0:0<=l)(h1:l<=1048576)(h:0<=x.sz l):x.sz l<=l/\x.small:=by
 unfold Zn.sz at h|-;simp only[ZV]at h|-;split at h
 .omega
 rename_i q0;rw[Yb q0];have s0:=Z8.X8 x.Z1 _ ⟨hx.1,hx.2.1,hx.2.2.1,hx.2.2.2.1,hx.2.2.2.2.1,hx.2.2.2.2.2.1⟩ h0 h1 (Yo.1 q0);split at h
 .omega
 rename_i q1;rw[Yb q1];have s1:=Z8.X8 x.Zz _ ⟨hx.2.2.2.2.2.2.1,hx.2.2.2.2.2.2.2.1,hx.2.2.2.2.2.2.2.2.1,hx.2.2.2.2.2.2.2.2.2.1,hx.2.2.2.2.2.2.2.2.2.2.1,hx.2.2.2.2.2.2.2.2.2.2.2.1⟩ (by omega) (by omega) (Yo.1 q1);split at h
 .omega
 rename_i q2;rw[Yb q2];have s2:=Z8.X8 x.Z2 _ ⟨hx.2.2.2.2.2.2.2.2.2.2.2.2.1,hx.2.2.2.2.2.2.2.2.2.2.2.2.2.1,hx.2.2.2.2.2.2.2.2.2.2.2.2.2.2.1,hx.2.2.2.2.2.2.2.2.2.2.2.2.2.2.2.1,hx.2.2.2.2.2.2.2.2.2.2.2.2.2.2.2.2.1,hx.2.2.2.2.2.2.2.2.2.2.2.2.2.2.2.2.2.1⟩ (by omega) (by omega) (Yo.1 q2);split at h
 .omega
 rename_i q3;rw[Yb q3];have s3:=Z8.X8 x.Z3 _ ⟨hx.2.2.2.2.2.2.2.2.2.2.2.2.2.2.2.2.2.2.1,hx.2.2.2.2.2.2.2.2.2.2.2.2.2.2.2.2.2.2.2.1,hx.2.2.2.2.2.2.2.2.2.2.2.2.2.2.2.2.2.2.2.2.1,hx.2.2.2.2.2.2.2.2.2.2.2.2.2.2.2.2.2.2.2.2.2.1,hx.2.2.2.2.2.2.2.2.2.2.2.2.2.2.2.2.2.2.2.2.2.2.1,hx.2.2.2.2.2.2.2.2.2.2.2.2.2.2.2.2.2.2.2.2.2.2.2.1⟩ (by omega) (by omega) (Yo.1 q3);split at h
 .omega
 rename_i q4;rw[Yb q4];have s4:=Z8.X8 x.Z4 _ ⟨hx.2.2.2.2.2.2.2.2.2.2.2.2.2.2.2.2.2.2.2.2.2.2.2.2.1,hx.2.2.2.2.2.2.2.2.2.2.2.2.2.2.2.2.2.2.2.2.2.2.2.2.2.1,hx.2.2.2.2.2.2.2.2.2.2.2.2.2.2.2.2.2.2.2.2.2.2.2.2.2.2.1,hx.2.2.2.2.2.2.2.2.2.2.2.2.2.2.2.2.2.2.2.2.2.2.2.2.2.2.2.1,hx.2.2.2.2.2.2.2.2.2.2.2.2.2.2.2.2.2.2.2.2.2.2.2.2.2.2.2.2.1,hx.2.2.2.2.2.2.2.2.2.2.2.2.2.2.2.2.2.2.2.2.2.2.2.2.2.2.2.2.2⟩ (by omega) (by omega) (Yo.1 q4);exact⟨by omega,s0.2,s1.2,s2.2,s3.2,s4.2⟩
@[ext] structure Zj where
 Zs:Int
 Ze:Int
 Zl:Int
 deriving DecidableEq
def Zj.c(x:Zj):KS:=[.int .i64 x.Zs,.int .i64 x.Ze,.int .i64 x.Zl]
@[simp] def Zj.c_def(x:Zj):x.c=[.int .i64 x.Zs,.int .i64 x.Ze,.int .i64 x.Zl]:=rfl
abbrev Zj.small(x:Zj):Prop:=True
abbrev Zj.okay(x:Zj):Prop:=OkI x.Zs/\OkI x.Ze/\OkI x.Zl
def Zj.dec(ts:KS)(h:XK [.int .i64,.int .i64,.int .i64] ts):∃x:Zj,ts=x.c/\x.okay:=by
 obtain⟨t0,us0,rfl,g0,h0⟩:=ZP h;obtain⟨t1,us1,rfl,g1,h1⟩:=ZP h0;obtain⟨t2,us2,rfl,g2,h2⟩:=ZP h1;cases Uk h2;obtain⟨x0,rfl,o0⟩:=Xy g0;obtain⟨x1,rfl,o1⟩:=Xy g1;obtain⟨x2,rfl,o2⟩:=Xy g2;exact⟨⟨x0,x1,x2⟩,rfl,o0,o1,o2⟩
@[ext] structure Zg where
 Steps:List Zj
 deriving DecidableEq
def Zg.c(x:Zg):KS:=[.lst 3 (x.Steps.map Zj.c)]
@[simp] def Zg.c_def(x:Zg):x.c=[.lst 3 (x.Steps.map Zj.c)]:=rfl
abbrev Zg.small(x:Zg):Prop:=SmA x.Steps
abbrev Zg.okay(x:Zg):Prop:=OkL Zj.okay x.Steps
def Zg.dec(ts:KS)(h:XK [.slice [.int .i64,.int .i64,.int .i64]] ts):∃x:Zg,ts=x.c/\x.okay:=by
 obtain⟨t0,us0,rfl,g0,h0⟩:=ZP h;cases Uk h0;obtain⟨x0,rfl,o0⟩:=Uz Zj.dec g0;exact⟨⟨x0⟩,rfl,o0⟩
def Zg.sz(x:Zg)(l:Int):Int:=ZV (sz1 x.Steps.length l) λl=>l
def Zg.X8(x:Zg)(l:Int)(hx:x.okay)(h0:0<=l)(h1:l<=1048576)(h:0<=x.sz l):x.sz l<=l/\x.small:=by
 unfold Zg.sz at h|-;simp only[ZV]at h|-;split at h
 .omega
 rename_i q0;rw[Yb q0];have s0:=Vh hx.1 h0 h1 (Yo.1 q0);exact⟨by omega,s0.2⟩
@[ext] structure ZM where
 Xh:Int
 Xk:Int
 XL:Int
 Box:Box
 ZQ:V6
 Xl:List Zg
 ZO:V4
 deriving DecidableEq
def ZM.c(x:ZM):KS:=[.int .i64 x.Xh,.int .i64 x.Xk,.int .i64 x.XL,tI x.Box.Low,tI x.Box.ZZ,tI x.ZQ,.lst 1 (x.Xl.map Zg.c),tII x.ZO]
@[simp] def ZM.c_def(x:ZM):x.c=[.int .i64 x.Xh,.int .i64 x.Xk,.int .i64 x.XL,tI x.Box.Low,tI x.Box.ZZ,tI x.ZQ,.lst 1 (x.Xl.map Zg.c),tII x.ZO]:=rfl
abbrev ZM.small(x:ZM):Prop:=SmA x.Box.Low/\SmA x.Box.ZZ/\SmA x.ZQ/\SmL Zg.small x.Xl/\SmL SmA x.ZO
abbrev ZM.okay(x:ZM):Prop:=OkI x.Xh/\OkI x.Xk/\OkI x.XL/\OkL OkI x.Box.Low/\OkL OkI x.Box.ZZ/\OkL OkI x.ZQ/\OkL Zg.okay x.Xl/\OkL (OkL OkI) x.ZO
def ZM.dec(ts:KS)(h:XK [.int .i64,.int .i64,.int .i64,.slice [.int .i64],.slice [.int .i64],.slice [.int .i64],.slice [.slice [.int .i64,.int .i64,.int .i64]],.slice [.slice [.int .i64]]] ts):∃x:ZM,ts=x.c/\x.okay:=by
 obtain⟨t0,us0,rfl,g0,h0⟩:=ZP h;obtain⟨t1,us1,rfl,g1,h1⟩:=ZP h0;obtain⟨t2,us2,rfl,g2,h2⟩:=ZP h1;obtain⟨t3,us3,rfl,g3,h3⟩:=ZP h2;obtain⟨t4,us4,rfl,g4,h4⟩:=ZP h3;obtain⟨t5,us5,rfl,g5,h5⟩:=ZP h4;obtain⟨t6,us6,rfl,g6,h6⟩:=ZP h5;obtain⟨t7,us7,rfl,g7,h7⟩:=ZP h6;cases Uk h7;obtain⟨x0,rfl,o0⟩:=Xy g0;obtain⟨x1,rfl,o1⟩:=Xy g1;obtain⟨x2,rfl,o2⟩:=Xy g2;obtain⟨x3,rfl,o3⟩:=KC g3;obtain⟨x4,rfl,o4⟩:=KC g4;obtain⟨x5,rfl,o5⟩:=KC g5;obtain⟨x6,rfl,o6⟩:=Uz Zg.dec g6;obtain⟨x7,rfl,o7⟩:=Zmz g7;exact⟨⟨x0,x1,x2,⟨x3,x4⟩,x5,x6,x7⟩,rfl,o0,o1,o2,o3,o4,o5,o6,o7⟩
def ZM.sz(x:ZM)(l:Int):Int:=ZV (Box.sz x.Box l) λl=>ZV (sz1 x.ZQ.length l) λl=>ZV (szL Zg.sz x.Xl l) λl=>ZV (szL szI x.ZO l) λl=>l
def ZM.X8(x:ZM)(l:Int)(hx:x.okay)(h0:0<=l)(h1:l<=1048576)(h:0<=x.sz l):x.sz l<=l/\x.small:=by
 unfold ZM.sz at h|-;simp only[ZV]at h|-;split at h
 .omega
 rename_i q0;rw[Yb q0];have s0:=Box.X8 x.Box _ ⟨hx.2.2.2.1,hx.2.2.2.2.1⟩ h0 h1 (Yo.1 q0);split at h
 .omega
 rename_i q1;rw[Yb q1];have s1:=Vh hx.2.2.2.2.2.1.1 (by omega) (by omega) (Yo.1 q1);split at h
 .omega
 rename_i q2;rw[Yb q2];have s2:=KB (p:=Zg.small) hx.2.2.2.2.2.2.1.1 (λy hy l a b c=>Zg.X8 y l (hx.2.2.2.2.2.2.1.2 y hy) a b c) (by omega) (by omega) (Yo.1 q2);split at h
 .omega
 rename_i q3;rw[Yb q3];have s3:=KB (f:=szI) (p:=λy:V6=>SmA y) hx.2.2.2.2.2.2.2.1 (λy hy l a b c=>Vh (hx.2.2.2.2.2.2.2.2 y hy).1 a b c) (by omega) (by omega) (Yo.1 q3);exact⟨by omega,s0.2.1,s0.2.2,s1.2,s2.2,s3.2⟩
@[ext] structure ZR where
 Xw:Int
 Zg:Int
 Vs:Int
 Zv:Int
 Vi:Bool
 deriving DecidableEq
def ZR.c(x:ZR):KS:=[.int .i64 x.Xw,.int .i64 x.Zg,.int .i64 x.Vs,.int .i64 x.Zv,.bool x.Vi]
@[simp] def ZR.c_def(x:ZR):x.c=[.int .i64 x.Xw,.int .i64 x.Zg,.int .i64 x.Vs,.int .i64 x.Zv,.bool x.Vi]:=rfl
abbrev ZR.small(x:ZR):Prop:=True
abbrev ZR.okay(x:ZR):Prop:=OkI x.Xw/\OkI x.Zg/\OkI x.Vs/\OkI x.Zv
def ZR.dec(ts:KS)(h:XK [.int .i64,.int .i64,.int .i64,.int .i64,.bool] ts):∃x:ZR,ts=x.c/\x.okay:=by
 obtain⟨t0,us0,rfl,g0,h0⟩:=ZP h;obtain⟨t1,us1,rfl,g1,h1⟩:=ZP h0;obtain⟨t2,us2,rfl,g2,h2⟩:=ZP h1;obtain⟨t3,us3,rfl,g3,h3⟩:=ZP h2;obtain⟨t4,us4,rfl,g4,h4⟩:=ZP h3;cases Uk h4;obtain⟨x0,rfl,o0⟩:=Xy g0;obtain⟨x1,rfl,o1⟩:=Xy g1;obtain⟨x2,rfl,o2⟩:=Xy g2;obtain⟨x3,rfl,o3⟩:=Xy g3;obtain⟨x4,rfl⟩:=dec_bool g4;exact⟨⟨x0,x1,x2,x3,x4⟩,rfl,o0,o1,o2,o3⟩
@[ext] structure Wj where
 ZW:ZW
 U0:Int
 Ws:List ZR
 Box:Box
 deriving DecidableEq
def Wj.c(x:Wj):KS:=[tI x.ZW.Za,tII x.ZW.Rows,.int .i64 x.U0,.lst 5 (x.Ws.map ZR.c),tI x.Box.Low,tI x.Box.ZZ]
@[simp] def Wj.c_def(x:Wj):x.c=[tI x.ZW.Za,tII x.ZW.Rows,.int .i64 x.U0,.lst 5 (x.Ws.map ZR.c),tI x.Box.Low,tI x.Box.ZZ]:=rfl
abbrev Wj.small(x:Wj):Prop:=SmA x.ZW.Za/\SmL SmA x.ZW.Rows/\SmA x.Ws/\SmA x.Box.Low/\SmA x.Box.ZZ
abbrev Wj.okay(x:Wj):Prop:=OkL OkI x.ZW.Za/\OkL (OkL OkI) x.ZW.Rows/\OkI x.U0/\OkL ZR.okay x.Ws/\OkL OkI x.Box.Low/\OkL OkI x.Box.ZZ
def Wj.dec(ts:KS)(h:XK [.slice [.int .i64],.slice [.slice [.int .i64]],.int .i64,.slice [.int .i64,.int .i64,.int .i64,.int .i64,.bool],.slice [.int .i64],.slice [.int .i64]] ts):∃x:Wj,ts=x.c/\x.okay:=by
 obtain⟨t0,us0,rfl,g0,h0⟩:=ZP h;obtain⟨t1,us1,rfl,g1,h1⟩:=ZP h0;obtain⟨t2,us2,rfl,g2,h2⟩:=ZP h1;obtain⟨t3,us3,rfl,g3,h3⟩:=ZP h2;obtain⟨t4,us4,rfl,g4,h4⟩:=ZP h3;obtain⟨t5,us5,rfl,g5,h5⟩:=ZP h4;cases Uk h5;obtain⟨x0,rfl,o0⟩:=KC g0;obtain⟨x1,rfl,o1⟩:=Zmz g1;obtain⟨x2,rfl,o2⟩:=Xy g2;obtain⟨x3,rfl,o3⟩:=Uz ZR.dec g3;obtain⟨x4,rfl,o4⟩:=KC g4;obtain⟨x5,rfl,o5⟩:=KC g5;exact⟨⟨⟨x0,x1⟩,x2,x3,⟨x4,x5⟩⟩,rfl,o0,o1,o2,o3,o4,o5⟩
def Wj.sz(x:Wj)(l:Int):Int:=ZV (ZW.sz x.ZW l) λl=>ZV (sz1 x.Ws.length l) λl=>ZV (Box.sz x.Box l) λl=>l
def Wj.X8(x:Wj)(l:Int)(hx:x.okay)(h0:0<=l)(h1:l<=1048576)(h:0<=x.sz l):x.sz l<=l/\x.small:=by
 unfold Wj.sz at h|-;simp only[ZV]at h|-;split at h
 .omega
 rename_i q0;rw[Yb q0];have s0:=ZW.X8 x.ZW _ ⟨hx.1,hx.2.1⟩ h0 h1 (Yo.1 q0);split at h
 .omega
 rename_i q1;rw[Yb q1];have s1:=Vh hx.2.2.2.1.1 (by omega) (by omega) (Yo.1 q1);split at h
 .omega
 rename_i q2;rw[Yb q2];have s2:=Box.X8 x.Box _ ⟨hx.2.2.2.2.1,hx.2.2.2.2.2⟩ (by omega) (by omega) (Yo.1 q2);exact⟨by omega,s0.2.1,s0.2.2,s1.2,s2.2.1,s2.2.2⟩
