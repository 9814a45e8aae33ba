/-
  Parts of the proofs for this seat: TY.
-/
import Derived.Test.YtgnfoghkbpkgjaaGreatP4
set_option linter.unusedSimpArgs false
set_option linter.unusedVariables false
set_option maxRecDepth 100000
set_option maxHeartbeats 4000000
namespace Go.Proofs.YtgnfoghkbpkgjaaGreat
open Go.AM
@[ext] structure Zh where
 Name:ByteArray
 Arity:Int
 Rows:List (List Int)
 deriving DecidableEq
def Zh.c (x:Zh):List T:=[.str x.Name,.int .i64 x.Arity,tII x.Rows]
@[simp] theorem Zh.c_def (x:Zh):x.c=[.str x.Name,.int .i64 x.Arity,tII x.Rows]:=rfl
abbrev Zh.small (x:Zh):Prop:=SsA x.Name∧SmL SmA x.Rows
abbrev Zh.okay (x:Zh):Prop:=OkS x.Name∧OkI x.Arity∧OkL (OkL OkI) x.Rows
theorem Zh.dec (ts:List T) (h:HasShs [.str,.int .i64,.slice [.slice [.int .i64]]] ts):∃ x:Zh,ts=x.c∧x.okay:=by
 obtain ⟨t0,us0,rfl,g0,h0⟩:=dec_cons h;obtain ⟨t1,us1,rfl,g1,h1⟩:=dec_cons h0;obtain ⟨t2,us2,rfl,g2,h2⟩:=dec_cons h1;cases dec_nil h2;obtain ⟨x0,rfl,o0⟩:=dec_str g0;obtain ⟨x1,rfl,o1⟩:=dec_int g1;obtain ⟨x2,rfl,o2⟩:=dec_tII g2;exact ⟨⟨x0,x1,x2⟩,rfl,o0,o1,o2⟩
def Zh.sz (x:Zh) (l:Int):Int:=andSz (sz1 x.Name.size l) fun l=>andSz (szL szI x.Rows l) fun l=>l
theorem Zh.sz_ok (x:Zh) (l:Int) (hx:x.okay) (h0:0≤l) (h1:l≤1048576) (h:0≤x.sz l):x.sz l≤l∧x.small:=by
 unfold Zh.sz at h ⊢;simp only [andSz] at h ⊢;split at h
 ·omega
 rename_i q0;rw [if_neg q0];have s0:=sz1_okA hx.1 h0 h1 (Int.not_lt.1 q0);split at h
 ·omega
 rename_i q1;rw [if_neg q1];have s1:=szL_ok (f:=szI) (p:=fun y:List Int=>SmA y) hx.2.2.1 (fun y hy l a b c=>sz1_okA (hx.2.2.2 y hy).1 a b c) (by omega) (by omega) (Int.not_lt.1 q1);exact ⟨by omega,s0.2,s1.2⟩
@[ext] structure Zk where
 Tables:List Zh
 deriving DecidableEq
def Zk.c (x:Zk):List T:=[.lst 3 (x.Tables.map Zh.c)]
@[simp] theorem Zk.c_def (x:Zk):x.c=[.lst 3 (x.Tables.map Zh.c)]:=rfl
abbrev Zk.small (x:Zk):Prop:=SmL Zh.small x.Tables
abbrev Zk.okay (x:Zk):Prop:=OkL Zh.okay x.Tables
theorem Zk.dec (ts:List T) (h:HasShs [.slice [.str,.int .i64,.slice [.slice [.int .i64]]]] ts):∃ x:Zk,ts=x.c∧x.okay:=by
 obtain ⟨t0,us0,rfl,g0,h0⟩:=dec_cons h;cases dec_nil h0;obtain ⟨x0,rfl,o0⟩:=dec_slice Zh.dec g0;exact ⟨⟨x0⟩,rfl,o0⟩
def Zk.sz (x:Zk) (l:Int):Int:=andSz (szL Zh.sz x.Tables l) fun l=>l
theorem Zk.sz_ok (x:Zk) (l:Int) (hx:x.okay) (h0:0≤l) (h1:l≤1048576) (h:0≤x.sz l):x.sz l≤l∧x.small:=by
 unfold Zk.sz at h ⊢;simp only [andSz] at h ⊢;split at h
 ·omega
 rename_i q0;rw [if_neg q0];have s0:=szL_ok (p:=Zh.small) hx.1 (fun y hy l a b c=>Zh.sz_ok y l (hx.2 y hy) a b c) h0 h1 (Int.not_lt.1 q0);exact ⟨by omega,s0.2⟩
@[ext] structure Atom where
 Name:ByteArray
 Vars:List Int
 deriving DecidableEq
def Atom.c (x:Atom):List T:=[.str x.Name,tI x.Vars]
@[simp] theorem Atom.c_def (x:Atom):x.c=[.str x.Name,tI x.Vars]:=rfl
abbrev Atom.small (x:Atom):Prop:=SsA x.Name∧SmA x.Vars
abbrev Atom.okay (x:Atom):Prop:=OkS x.Name∧OkL OkI x.Vars
theorem Atom.dec (ts:List T) (h:HasShs [.str,.slice [.int .i64]] ts):∃ x:Atom,ts=x.c∧x.okay:=by
 obtain ⟨t0,us0,rfl,g0,h0⟩:=dec_cons h;obtain ⟨t1,us1,rfl,g1,h1⟩:=dec_cons h0;cases dec_nil h1;obtain ⟨x0,rfl,o0⟩:=dec_str g0;obtain ⟨x1,rfl,o1⟩:=dec_tI g1;exact ⟨⟨x0,x1⟩,rfl,o0,o1⟩
def Atom.sz (x:Atom) (l:Int):Int:=andSz (sz1 x.Name.size l) fun l=>andSz (sz1 x.Vars.length l) fun l=>l
theorem Atom.sz_ok (x:Atom) (l:Int) (hx:x.okay) (h0:0≤l) (h1:l≤1048576) (h:0≤x.sz l):x.sz l≤l∧x.small:=by
 unfold Atom.sz at h ⊢;simp only [andSz] at h ⊢;split at h
 ·omega
 rename_i q0;rw [if_neg q0];have s0:=sz1_okA hx.1 h0 h1 (Int.not_lt.1 q0);split at h
 ·omega
 rename_i q1;rw [if_neg q1];have s1:=sz1_okA hx.2.1 (by omega) (by omega) (Int.not_lt.1 q1);exact ⟨by omega,s0.2,s1.2⟩
@[ext] structure Zd where
 Zl:Int
 Atoms:List Atom
 deriving DecidableEq
def Zd.c (x:Zd):List T:=[.int .i64 x.Zl,.lst 2 (x.Atoms.map Atom.c)]
@[simp] theorem Zd.c_def (x:Zd):x.c=[.int .i64 x.Zl,.lst 2 (x.Atoms.map Atom.c)]:=rfl
abbrev Zd.small (x:Zd):Prop:=SmL Atom.small x.Atoms
abbrev Zd.okay (x:Zd):Prop:=OkI x.Zl∧OkL Atom.okay x.Atoms
theorem Zd.dec (ts:List T) (h:HasShs [.int .i64,.slice [.str,.slice [.int .i64]]] ts):∃ x:Zd,ts=x.c∧x.okay:=by
 obtain ⟨t0,us0,rfl,g0,h0⟩:=dec_cons h;obtain ⟨t1,us1,rfl,g1,h1⟩:=dec_cons h0;cases dec_nil h1;obtain ⟨x0,rfl,o0⟩:=dec_int g0;obtain ⟨x1,rfl,o1⟩:=dec_slice Atom.dec g1;exact ⟨⟨x0,x1⟩,rfl,o0,o1⟩
def Zd.sz (x:Zd) (l:Int):Int:=andSz (szL Atom.sz x.Atoms l) fun l=>l
theorem Zd.sz_ok (x:Zd) (l:Int) (hx:x.okay) (h0:0≤l) (h1:l≤1048576) (h:0≤x.sz l):x.sz l≤l∧x.small:=by
 unfold Zd.sz at h ⊢;simp only [andSz] at h ⊢;split at h
 ·omega
 rename_i q0;rw [if_neg q0];have s0:=szL_ok (p:=Atom.small) hx.2.1 (fun y hy l a b c=>Atom.sz_ok y l (hx.2.2 y hy) a b c) h0 h1 (Int.not_lt.1 q0);exact ⟨by omega,s0.2⟩
@[ext] structure Zu where
 Vars:List Int
 Rows:List (List Int)
 deriving DecidableEq
def Zu.c (x:Zu):List T:=[tI x.Vars,tII x.Rows]
@[simp] theorem Zu.c_def (x:Zu):x.c=[tI x.Vars,tII x.Rows]:=rfl
abbrev Zu.small (x:Zu):Prop:=SmA x.Vars∧SmL SmA x.Rows
abbrev Zu.okay (x:Zu):Prop:=OkL OkI x.Vars∧OkL (OkL OkI) x.Rows
theorem Zu.dec (ts:List T) (h:HasShs [.slice [.int .i64],.slice [.slice [.int .i64]]] ts):∃ x:Zu,ts=x.c∧x.okay:=by
 obtain ⟨t0,us0,rfl,g0,h0⟩:=dec_cons h;obtain ⟨t1,us1,rfl,g1,h1⟩:=dec_cons h0;cases dec_nil h1;obtain ⟨x0,rfl,o0⟩:=dec_tI g0;obtain ⟨x1,rfl,o1⟩:=dec_tII g1;exact ⟨⟨x0,x1⟩,rfl,o0,o1⟩
def Zu.sz (x:Zu) (l:Int):Int:=andSz (sz1 x.Vars.length l) fun l=>andSz (szL szI x.Rows l) fun l=>l
theorem Zu.sz_ok (x:Zu) (l:Int) (hx:x.okay) (h0:0≤l) (h1:l≤1048576) (h:0≤x.sz l):x.sz l≤l∧x.small:=by
 unfold Zu.sz at h ⊢;simp only [andSz] at h ⊢;split at h
 ·omega
 rename_i q0;rw [if_neg q0];have s0:=sz1_okA hx.1.1 h0 h1 (Int.not_lt.1 q0);split at h
 ·omega
 rename_i q1;rw [if_neg q1];have s1:=szL_ok (f:=szI) (p:=fun y:List Int=>SmA y) hx.2.1 (fun y hy l a b c=>sz1_okA (hx.2.2 y hy).1 a b c) (by omega) (by omega) (Int.not_lt.1 q1);exact ⟨by omega,s0.2,s1.2⟩
@[ext] structure Box where
 Low:List Int
 High:List Int
 deriving DecidableEq
def Box.c (x:Box):List T:=[tI x.Low,tI x.High]
@[simp] theorem Box.c_def (x:Box):x.c=[tI x.Low,tI x.High]:=rfl
abbrev Box.small (x:Box):Prop:=SmA x.Low∧SmA x.High
abbrev Box.okay (x:Box):Prop:=OkL OkI x.Low∧OkL OkI x.High
theorem Box.dec (ts:List T) (h:HasShs [.slice [.int .i64],.slice [.int .i64]] ts):∃ x:Box,ts=x.c∧x.okay:=by
 obtain ⟨t0,us0,rfl,g0,h0⟩:=dec_cons h;obtain ⟨t1,us1,rfl,g1,h1⟩:=dec_cons h0;cases dec_nil h1;obtain ⟨x0,rfl,o0⟩:=dec_tI g0;obtain ⟨x1,rfl,o1⟩:=dec_tI g1;exact ⟨⟨x0,x1⟩,rfl,o0,o1⟩
def Box.sz (x:Box) (l:Int):Int:=andSz (sz1 x.Low.length l) fun l=>andSz (sz1 x.High.length l) fun l=>l
theorem Box.sz_ok (x:Box) (l:Int) (hx:x.okay) (h0:0≤l) (h1:l≤1048576) (h:0≤x.sz l):x.sz l≤l∧x.small:=by
 unfold Box.sz at h ⊢;simp only [andSz] at h ⊢;split at h
 ·omega
 rename_i q0;rw [if_neg q0];have s0:=sz1_okA hx.1.1 h0 h1 (Int.not_lt.1 q0);split at h
 ·omega
 rename_i q1;rw [if_neg q1];have s1:=sz1_okA hx.2.1 (by omega) (by omega) (Int.not_lt.1 q1);exact ⟨by omega,s0.2,s1.2⟩
@[ext] structure Zg where
 From:Int
 Add:Int
 deriving DecidableEq
def Zg.c (x:Zg):List T:=[.int .i64 x.From,.int .i64 x.Add]
@[simp] theorem Zg.c_def (x:Zg):x.c=[.int .i64 x.From,.int .i64 x.Add]:=rfl
abbrev Zg.small (x:Zg):Prop:=True
abbrev Zg.okay (x:Zg):Prop:=OkI x.From∧OkI x.Add
theorem Zg.dec (ts:List T) (h:HasShs [.int .i64,.int .i64] ts):∃ x:Zg,ts=x.c∧x.okay:=by
 obtain ⟨t0,us0,rfl,g0,h0⟩:=dec_cons h;obtain ⟨t1,us1,rfl,g1,h1⟩:=dec_cons h0;cases dec_nil h1;obtain ⟨x0,rfl,o0⟩:=dec_int g0;obtain ⟨x1,rfl,o1⟩:=dec_int g1;exact ⟨⟨x0,x1⟩,rfl,o0,o1⟩
@[ext] structure Zi where
 Fixed:Int
 Zp:Int
 Zq:Int
 Zr:Int
 Zs:Int
 Steps:List Zg
 deriving DecidableEq
def Zi.c (x:Zi):List T:=[.int .i64 x.Fixed,.int .i64 x.Zp,.int .i64 x.Zq,.int .i64 x.Zr,.int .i64 x.Zs,.lst 2 (x.Steps.map Zg.c)]
@[simp] theorem Zi.c_def (x:Zi):x.c=[.int .i64 x.Fixed,.int .i64 x.Zp,.int .i64 x.Zq,.int .i64 x.Zr,.int .i64 x.Zs,.lst 2 (x.Steps.map Zg.c)]:=rfl
abbrev Zi.small (x:Zi):Prop:=SmA x.Steps
abbrev Zi.okay (x:Zi):Prop:=OkI x.Fixed∧OkI x.Zp∧OkI x.Zq∧OkI x.Zr∧OkI x.Zs∧OkL Zg.okay x.Steps
theorem Zi.dec (ts:List T) (h:HasShs [.int .i64,.int .i64,.int .i64,.int .i64,.int .i64,.slice [.int .i64,.int .i64]] ts):∃ x:Zi,ts=x.c∧x.okay:=by
 obtain ⟨t0,us0,rfl,g0,h0⟩:=dec_cons h;obtain ⟨t1,us1,rfl,g1,h1⟩:=dec_cons h0;obtain ⟨t2,us2,rfl,g2,h2⟩:=dec_cons h1;obtain ⟨t3,us3,rfl,g3,h3⟩:=dec_cons h2;obtain ⟨t4,us4,rfl,g4,h4⟩:=dec_cons h3;obtain ⟨t5,us5,rfl,g5,h5⟩:=dec_cons h4;cases dec_nil h5;obtain ⟨x0,rfl,o0⟩:=dec_int g0;obtain ⟨x1,rfl,o1⟩:=dec_int g1;obtain ⟨x2,rfl,o2⟩:=dec_int g2;obtain ⟨x3,rfl,o3⟩:=dec_int g3;obtain ⟨x4,rfl,o4⟩:=dec_int g4;obtain ⟨x5,rfl,o5⟩:=dec_slice Zg.dec g5;exact ⟨⟨x0,x1,x2,x3,x4,x5⟩,rfl,o0,o1,o2,o3,o4,o5⟩
def Zi.sz (x:Zi) (l:Int):Int:=andSz (sz1 x.Steps.length l) fun l=>l
theorem Zi.sz_ok (x:Zi) (l:Int) (hx:x.okay) (h0:0≤l) (h1:l≤1048576) (h:0≤x.sz l):x.sz l≤l∧x.small:=by
 unfold Zi.sz at h ⊢;simp only [andSz] at h ⊢;split at h
 ·omega
 rename_i q0;rw [if_neg q0];have s0:=sz1_okA hx.2.2.2.2.2.1 h0 h1 (Int.not_lt.1 q0);exact ⟨by omega,s0.2⟩
@[ext] structure Zj where
 Scan:Zi
 Sort_:Zi
 Hash:Zi
 Merge:Zi
 Nested:Zi
 deriving DecidableEq
def Zj.c (x:Zj):List T:=[.int .i64 x.Scan.Fixed,.int .i64 x.Scan.Zp,.int .i64 x.Scan.Zq,.int .i64 x.Scan.Zr,.int .i64 x.Scan.Zs,.lst 2 (x.Scan.Steps.map Zg.c),.int .i64 x.Sort_.Fixed,.int .i64 x.Sort_.Zp,.int .i64 x.Sort_.Zq,.int .i64 x.Sort_.Zr,.int .i64 x.Sort_.Zs,.lst 2 (x.Sort_.Steps.map Zg.c),.int .i64 x.Hash.Fixed,.int .i64 x.Hash.Zp,.int .i64 x.Hash.Zq,.int .i64 x.Hash.Zr,.int .i64 x.Hash.Zs,.lst 2 (x.Hash.Steps.map Zg.c),.int .i64 x.Merge.Fixed,.int .i64 x.Merge.Zp,.int .i64 x.Merge.Zq,.int .i64 x.Merge.Zr,.int .i64 x.Merge.Zs,.lst 2 (x.Merge.Steps.map Zg.c),.int .i64 x.Nested.Fixed,.int .i64 x.Nested.Zp,.int .i64 x.Nested.Zq,.int .i64 x.Nested.Zr,.int .i64 x.Nested.Zs,.lst 2 (x.Nested.Steps.map Zg.c)]
@[simp] theorem Zj.c_def (x:Zj):x.c=[.int .i64 x.Scan.Fixed,.int .i64 x.Scan.Zp,.int .i64 x.Scan.Zq,.int .i64 x.Scan.Zr,.int .i64 x.Scan.Zs,.lst 2 (x.Scan.Steps.map Zg.c),.int .i64 x.Sort_.Fixed,.int .i64 x.Sort_.Zp,.int .i64 x.Sort_.Zq,.int .i64 x.Sort_.Zr,.int .i64 x.Sort_.Zs,.lst 2 (x.Sort_.Steps.map Zg.c),.int .i64 x.Hash.Fixed,.int .i64 x.Hash.Zp,.int .i64 x.Hash.Zq,.int .i64 x.Hash.Zr,.int .i64 x.Hash.Zs,.lst 2 (x.Hash.Steps.map Zg.c),.int .i64 x.Merge.Fixed,.int .i64 x.Merge.Zp,.int .i64 x.Merge.Zq,.int .i64 x.Merge.Zr,.int .i64 x.Merge.Zs,.lst 2 (x.Merge.Steps.map Zg.c),.int .i64 x.Nested.Fixed,.int .i64 x.Nested.Zp,.int .i64 x.Nested.Zq,.int .i64 x.Nested.Zr,.int .i64 x.Nested.Zs,.lst 2 (x.Nested.Steps.map Zg.c)]:=rfl
abbrev Zj.small (x:Zj):Prop:=SmA x.Scan.Steps∧SmA x.Sort_.Steps∧SmA x.Hash.Steps∧SmA x.Merge.Steps∧SmA x.Nested.Steps
abbrev Zj.okay (x:Zj):Prop:=OkI x.Scan.Fixed∧OkI x.Scan.Zp∧OkI x.Scan.Zq∧OkI x.Scan.Zr∧OkI x.Scan.Zs∧OkL Zg.okay x.Scan.Steps∧OkI x.Sort_.Fixed∧OkI x.Sort_.Zp∧OkI x.Sort_.Zq∧OkI x.Sort_.Zr∧OkI x.Sort_.Zs∧OkL Zg.okay x.Sort_.Steps∧OkI x.Hash.Fixed∧OkI x.Hash.Zp∧OkI x.Hash.Zq∧OkI x.Hash.Zr∧OkI x.Hash.Zs∧OkL Zg.okay x.Hash.Steps∧OkI x.Merge.Fixed∧OkI x.Merge.Zp∧OkI x.Merge.Zq∧OkI x.Merge.Zr∧OkI x.Merge.Zs∧OkL Zg.okay x.Merge.Steps∧OkI x.Nested.Fixed∧OkI x.Nested.Zp∧OkI x.Nested.Zq∧OkI x.Nested.Zr∧OkI x.Nested.Zs∧OkL Zg.okay x.Nested.Steps
theorem Zj.dec (ts:List T) (h:HasShs [.int .i64,.int .i64,.int .i64,.int .i64,.int .i64,.slice [.int .i64,.int .i64],.int .i64,.int .i64,.int .i64,.int .i64,.int .i64,.slice [.int .i64,.int .i64],.int .i64,.int .i64,.int .i64,.int .i64,.int .i64,.slice [.int .i64,.int .i64],.int .i64,.int .i64,.int .i64,.int .i64,.int .i64,.slice [.int .i64,.int .i64],.int .i64,.int .i64,.int .i64,.int .i64,.int .i64,.slice [.int .i64,.int .i64]] ts):∃ x:Zj,ts=x.c∧x.okay:=by
 obtain ⟨t0,us0,rfl,g0,h0⟩:=dec_cons h;obtain ⟨t1,us1,rfl,g1,h1⟩:=dec_cons h0;obtain ⟨t2,us2,rfl,g2,h2⟩:=dec_cons h1;obtain ⟨t3,us3,rfl,g3,h3⟩:=dec_cons h2;obtain ⟨t4,us4,rfl,g4,h4⟩:=dec_cons h3;obtain ⟨t5,us5,rfl,g5,h5⟩:=dec_cons h4;obtain ⟨t6,us6,rfl,g6,h6⟩:=dec_cons h5;obtain ⟨t7,us7,rfl,g7,h7⟩:=dec_cons h6;obtain ⟨t8,us8,rfl,g8,h8⟩:=dec_cons h7;obtain ⟨t9,us9,rfl,g9,h9⟩:=dec_cons h8;obtain ⟨t10,us10,rfl,g10,h10⟩:=dec_cons h9;obtain ⟨t11,us11,rfl,g11,h11⟩:=dec_cons h10;obtain ⟨t12,us12,rfl,g12,h12⟩:=dec_cons h11;obtain ⟨t13,us13,rfl,g13,h13⟩:=dec_cons h12;obtain ⟨t14,us14,rfl,g14,h14⟩:=dec_cons h13;obtain ⟨t15,us15,rfl,g15,h15⟩:=dec_cons h14;obtain ⟨t16,us16,rfl,g16,h16⟩:=dec_cons h15;obtain ⟨t17,us17,rfl,g17,h17⟩:=dec_cons h16;obtain ⟨t18,us18,rfl,g18,h18⟩:=dec_cons h17;obtain ⟨t19,us19,rfl,g19,h19⟩:=dec_cons h18;obtain ⟨t20,us20,rfl,g20,h20⟩:=dec_cons h19;obtain ⟨t21,us21,rfl,g21,h21⟩:=dec_cons h20;obtain ⟨t22,us22,rfl,g22,h22⟩:=dec_cons h21;obtain ⟨t23,us23,rfl,g23,h23⟩:=dec_cons h22;obtain ⟨t24,us24,rfl,g24,h24⟩:=dec_cons h23;obtain ⟨t25,us25,rfl,g25,h25⟩:=dec_cons h24;obtain ⟨t26,us26,rfl,g26,h26⟩:=dec_cons h25;obtain ⟨t27,us27,rfl,g27,h27⟩:=dec_cons h26;obtain ⟨t28,us28,rfl,g28,h28⟩:=dec_cons h27;obtain ⟨t29,us29,rfl,g29,h29⟩:=dec_cons h28;cases dec_nil h29;obtain ⟨x0,rfl,o0⟩:=dec_int g0;obtain ⟨x1,rfl,o1⟩:=dec_int g1;obtain ⟨x2,rfl,o2⟩:=dec_int g2;obtain ⟨x3,rfl,o3⟩:=dec_int g3;obtain ⟨x4,rfl,o4⟩:=dec_int g4;obtain ⟨x5,rfl,o5⟩:=dec_slice Zg.dec g5;obtain ⟨x6,rfl,o6⟩:=dec_int g6;obtain ⟨x7,rfl,o7⟩:=dec_int g7;obtain ⟨x8,rfl,o8⟩:=dec_int g8;obtain ⟨x9,rfl,o9⟩:=dec_int g9;obtain ⟨x10,rfl,o10⟩:=dec_int g10;obtain ⟨x11,rfl,o11⟩:=dec_slice Zg.dec g11;obtain ⟨x12,rfl,o12⟩:=dec_int g12;obtain ⟨x13,rfl,o13⟩:=dec_int g13;obtain ⟨x14,rfl,o14⟩:=dec_int g14;obtain ⟨x15,rfl,o15⟩:=dec_int g15;obtain ⟨x16,rfl,o16⟩:=dec_int g16;obtain ⟨x17,rfl,o17⟩:=dec_slice Zg.dec g17;obtain ⟨x18,rfl,o18⟩:=dec_int g18;obtain ⟨x19,rfl,o19⟩:=dec_int g19;obtain ⟨x20,rfl,o20⟩:=dec_int g20;obtain ⟨x21,rfl,o21⟩:=dec_int g21;obtain ⟨x22,rfl,o22⟩:=dec_int g22;obtain ⟨x23,rfl,o23⟩:=dec_slice Zg.dec g23;obtain ⟨x24,rfl,o24⟩:=dec_int g24;obtain ⟨x25,rfl,o25⟩:=dec_int g25;obtain ⟨x26,rfl,o26⟩:=dec_int g26;obtain ⟨x27,rfl,o27⟩:=dec_int g27;obtain ⟨x28,rfl,o28⟩:=dec_int g28;obtain ⟨x29,rfl,o29⟩:=dec_slice Zg.dec g29;exact ⟨⟨⟨x0,x1,x2,x3,x4,x5⟩,⟨x6,x7,x8,x9,x10,x11⟩,⟨x12,x13,x14,x15,x16,x17⟩,⟨x18,x19,x20,x21,x22,x23⟩,⟨x24,x25,x26,x27,x28,x29⟩⟩,rfl,o0,o1,o2,o3,o4,o5,o6,o7,o8,o9,o10,o11,o12,o13,o14,o15,o16,o17,o18,o19,o20,o21,o22,o23,o24,o25,o26,o27,o28,o29⟩
def Zj.sz (x:Zj) (l:Int):Int:=andSz (Zi.sz x.Scan l) fun l=>andSz (Zi.sz x.Sort_ l) fun l=>andSz (Zi.sz x.Hash l) fun l=>andSz (Zi.sz x.Merge l) fun l=>andSz (Zi.sz x.Nested l) fun l=>l
theorem Zj.sz_ok (x:Zj) (l:Int) (hx:x.okay) (h0:0≤l) (h1:l≤1048576) (h:0≤x.sz l):x.sz l≤l∧x.small:=by
 unfold Zj.sz at h ⊢;simp only [andSz] at h ⊢;split at h
 ·omega
 rename_i q0;rw [if_neg q0];have s0:=Zi.sz_ok x.Scan _ ⟨hx.1,hx.2.1,hx.2.2.1,hx.2.2.2.1,hx.2.2.2.2.1,hx.2.2.2.2.2.1⟩ h0 h1 (Int.not_lt.1 q0);split at h
 ·omega
 rename_i q1;rw [if_neg q1];have s1:=Zi.sz_ok x.Sort_ _ ⟨hx.2.2.2.2.2.2.1,hx.2.2.2.2.2.2.2.1,hx.2.2.2.2.2.2.2.2.1,hx.2.2.2.2.2.2.2.2.2.1,hx.2.2.2.2.2.2.2.2.2.2.1,hx.2.2.2.2.2.2.2.2.2.2.2.1⟩ (by omega) (by omega) (Int.not_lt.1 q1);split at h
 ·omega
 rename_i q2;rw [if_neg q2];have s2:=Zi.sz_ok x.Hash _ ⟨hx.2.2.2.2.2.2.2.2.2.2.2.2.1,hx.2.2.2.2.2.2.2.2.2.2.2.2.2.1,hx.2.2.2.2.2.2.2.2.2.2.2.2.2.2.1,hx.2.2.2.2.2.2.2.2.2.2.2.2.2.2.2.1,hx.2.2.2.2.2.2.2.2.2.2.2.2.2.2.2.2.1,hx.2.2.2.2.2.2.2.2.2.2.2.2.2.2.2.2.2.1⟩ (by omega) (by omega) (Int.not_lt.1 q2);split at h
 ·omega
 rename_i q3;rw [if_neg q3];have s3:=Zi.sz_ok x.Merge _ ⟨hx.2.2.2.2.2.2.2.2.2.2.2.2.2.2.2.2.2.2.1,hx.2.2.2.2.2.2.2.2.2.2.2.2.2.2.2.2.2.2.2.1,hx.2.2.2.2.2.2.2.2.2.2.2.2.2.2.2.2.2.2.2.2.1,hx.2.2.2.2.2.2.2.2.2.2.2.2.2.2.2.2.2.2.2.2.2.1,hx.2.2.2.2.2.2.2.2.2.2.2.2.2.2.2.2.2.2.2.2.2.2.1,hx.2.2.2.2.2.2.2.2.2.2.2.2.2.2.2.2.2.2.2.2.2.2.2.1⟩ (by omega) (by omega) (Int.not_lt.1 q3);split at h
 ·omega
 rename_i q4;rw [if_neg q4];have s4:=Zi.sz_ok x.Nested _ ⟨hx.2.2.2.2.2.2.2.2.2.2.2.2.2.2.2.2.2.2.2.2.2.2.2.2.1,hx.2.2.2.2.2.2.2.2.2.2.2.2.2.2.2.2.2.2.2.2.2.2.2.2.2.1,hx.2.2.2.2.2.2.2.2.2.2.2.2.2.2.2.2.2.2.2.2.2.2.2.2.2.2.1,hx.2.2.2.2.2.2.2.2.2.2.2.2.2.2.2.2.2.2.2.2.2.2.2.2.2.2.2.1,hx.2.2.2.2.2.2.2.2.2.2.2.2.2.2.2.2.2.2.2.2.2.2.2.2.2.2.2.2.1,hx.2.2.2.2.2.2.2.2.2.2.2.2.2.2.2.2.2.2.2.2.2.2.2.2.2.2.2.2.2⟩ (by omega) (by omega) (Int.not_lt.1 q4);exact ⟨by omega,s0.2,s1.2,s2.2,s3.2,s4.2⟩
@[ext] structure Ze where
 Kind:Int
 Atom:Int
 Order:Int
 deriving DecidableEq
def Ze.c (x:Ze):List T:=[.int .i64 x.Kind,.int .i64 x.Atom,.int .i64 x.Order]
@[simp] theorem Ze.c_def (x:Ze):x.c=[.int .i64 x.Kind,.int .i64 x.Atom,.int .i64 x.Order]:=rfl
abbrev Ze.small (x:Ze):Prop:=True
abbrev Ze.okay (x:Ze):Prop:=OkI x.Kind∧OkI x.Atom∧OkI x.Order
theorem Ze.dec (ts:List T) (h:HasShs [.int .i64,.int .i64,.int .i64] ts):∃ x:Ze,ts=x.c∧x.okay:=by
 obtain ⟨t0,us0,rfl,g0,h0⟩:=dec_cons h;obtain ⟨t1,us1,rfl,g1,h1⟩:=dec_cons h0;obtain ⟨t2,us2,rfl,g2,h2⟩:=dec_cons h1;cases dec_nil h2;obtain ⟨x0,rfl,o0⟩:=dec_int g0;obtain ⟨x1,rfl,o1⟩:=dec_int g1;obtain ⟨x2,rfl,o2⟩:=dec_int g2;exact ⟨⟨x0,x1,x2⟩,rfl,o0,o1,o2⟩
@[ext] structure Plan where
 Steps:List Ze
 deriving DecidableEq
def Plan.c (x:Plan):List T:=[.lst 3 (x.Steps.map Ze.c)]
@[simp] theorem Plan.c_def (x:Plan):x.c=[.lst 3 (x.Steps.map Ze.c)]:=rfl
abbrev Plan.small (x:Plan):Prop:=SmA x.Steps
abbrev Plan.okay (x:Plan):Prop:=OkL Ze.okay x.Steps
theorem Plan.dec (ts:List T) (h:HasShs [.slice [.int .i64,.int .i64,.int .i64]] ts):∃ x:Plan,ts=x.c∧x.okay:=by
 obtain ⟨t0,us0,rfl,g0,h0⟩:=dec_cons h;cases dec_nil h0;obtain ⟨x0,rfl,o0⟩:=dec_slice Ze.dec g0;exact ⟨⟨x0⟩,rfl,o0⟩
def Plan.sz (x:Plan) (l:Int):Int:=andSz (sz1 x.Steps.length l) fun l=>l
theorem Plan.sz_ok (x:Plan) (l:Int) (hx:x.okay) (h0:0≤l) (h1:l≤1048576) (h:0≤x.sz l):x.sz l≤l∧x.small:=by
 unfold Plan.sz at h ⊢;simp only [andSz] at h ⊢;split at h
 ·omega
 rename_i q0;rw [if_neg q0];have s0:=sz1_okA hx.1 h0 h1 (Int.not_lt.1 q0);exact ⟨by omega,s0.2⟩
@[ext] structure Zf where
 Mask:Int
 Class:Int
 Exact:Bool
 deriving DecidableEq
def Zf.c (x:Zf):List T:=[.int .i64 x.Mask,.int .i64 x.Class,.bool x.Exact]
@[simp] theorem Zf.c_def (x:Zf):x.c=[.int .i64 x.Mask,.int .i64 x.Class,.bool x.Exact]:=rfl
abbrev Zf.small (x:Zf):Prop:=True
abbrev Zf.okay (x:Zf):Prop:=OkI x.Mask∧OkI x.Class
theorem Zf.dec (ts:List T) (h:HasShs [.int .i64,.int .i64,.bool] ts):∃ x:Zf,ts=x.c∧x.okay:=by
 obtain ⟨t0,us0,rfl,g0,h0⟩:=dec_cons h;obtain ⟨t1,us1,rfl,g1,h1⟩:=dec_cons h0;obtain ⟨t2,us2,rfl,g2,h2⟩:=dec_cons h1;cases dec_nil h2;obtain ⟨x0,rfl,o0⟩:=dec_int g0;obtain ⟨x1,rfl,o1⟩:=dec_int g1;obtain ⟨x2,rfl⟩:=dec_bool g2;exact ⟨⟨x0,x1,x2⟩,rfl,o0,o1⟩
@[ext] structure Run where
 Done:Bool
 Cost:Int
 Steps:Int
 Seen:List Zf
 Zu:Zu
 deriving DecidableEq
def Run.c (x:Run):List T:=[.bool x.Done,.int .i64 x.Cost,.int .i64 x.Steps,.lst 3 (x.Seen.map Zf.c),tI x.Zu.Vars,tII x.Zu.Rows]
@[simp] theorem Run.c_def (x:Run):x.c=[.bool x.Done,.int .i64 x.Cost,.int .i64 x.Steps,.lst 3 (x.Seen.map Zf.c),tI x.Zu.Vars,tII x.Zu.Rows]:=rfl
abbrev Run.small (x:Run):Prop:=SmA x.Seen∧SmA x.Zu.Vars∧SmL SmA x.Zu.Rows
abbrev Run.okay (x:Run):Prop:=OkI x.Cost∧OkI x.Steps∧OkL Zf.okay x.Seen∧OkL OkI x.Zu.Vars∧OkL (OkL OkI) x.Zu.Rows
theorem Run.dec (ts:List T) (h:HasShs [.bool,.int .i64,.int .i64,.slice [.int .i64,.int .i64,.bool],.slice [.int .i64],.slice [.slice [.int .i64]]] ts):∃ x:Run,ts=x.c∧x.okay:=by
 obtain ⟨t0,us0,rfl,g0,h0⟩:=dec_cons h;obtain ⟨t1,us1,rfl,g1,h1⟩:=dec_cons h0;obtain ⟨t2,us2,rfl,g2,h2⟩:=dec_cons h1;obtain ⟨t3,us3,rfl,g3,h3⟩:=dec_cons h2;obtain ⟨t4,us4,rfl,g4,h4⟩:=dec_cons h3;obtain ⟨t5,us5,rfl,g5,h5⟩:=dec_cons h4;cases dec_nil h5;obtain ⟨x0,rfl⟩:=dec_bool g0;obtain ⟨x1,rfl,o1⟩:=dec_int g1;obtain ⟨x2,rfl,o2⟩:=dec_int g2;obtain ⟨x3,rfl,o3⟩:=dec_slice Zf.dec g3;obtain ⟨x4,rfl,o4⟩:=dec_tI g4;obtain ⟨x5,rfl,o5⟩:=dec_tII g5;exact ⟨⟨x0,x1,x2,x3,⟨x4,x5⟩⟩,rfl,o1,o2,o3,o4,o5⟩
def Run.sz (x:Run) (l:Int):Int:=andSz (sz1 x.Seen.length l) fun l=>andSz (Zu.sz x.Zu l) fun l=>l
theorem Run.sz_ok (x:Run) (l:Int) (hx:x.okay) (h0:0≤l) (h1:l≤1048576) (h:0≤x.sz l):x.sz l≤l∧x.small:=by
 unfold Run.sz at h ⊢;simp only [andSz] at h ⊢;split at h
 ·omega
 rename_i q0;rw [if_neg q0];have s0:=sz1_okA hx.2.2.1.1 h0 h1 (Int.not_lt.1 q0);split at h
 ·omega
 rename_i q1;rw [if_neg q1];have s1:=Zu.sz_ok x.Zu _ ⟨hx.2.2.2.1,hx.2.2.2.2⟩ (by omega) (by omega) (Int.not_lt.1 q1);exact ⟨by omega,s0.2,s1.2.1,s1.2.2⟩
@[ext] structure Kept where
 Mask:Int
 Size:Int
 deriving DecidableEq
def Kept.c (x:Kept):List T:=[.int .i64 x.Mask,.int .i64 x.Size]
@[simp] theorem Kept.c_def (x:Kept):x.c=[.int .i64 x.Mask,.int .i64 x.Size]:=rfl
abbrev Kept.small (x:Kept):Prop:=True
abbrev Kept.okay (x:Kept):Prop:=OkI x.Mask∧OkI x.Size
theorem Kept.dec (ts:List T) (h:HasShs [.int .i64,.int .i64] ts):∃ x:Kept,ts=x.c∧x.okay:=by
 obtain ⟨t0,us0,rfl,g0,h0⟩:=dec_cons h;obtain ⟨t1,us1,rfl,g1,h1⟩:=dec_cons h0;cases dec_nil h1;obtain ⟨x0,rfl,o0⟩:=dec_int g0;obtain ⟨x1,rfl,o1⟩:=dec_int g1;exact ⟨⟨x0,x1⟩,rfl,o0,o1⟩
end Go.Proofs.YtgnfoghkbpkgjaaGreat
