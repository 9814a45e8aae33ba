/-
  Parts of the proofs for this seat: TY.
-/
import Derived.Test.YtdfoicjjheifeaaP5
set_option linter.unusedSimpArgs false
set_option linter.unusedVariables false
set_option maxRecDepth 100000
set_option maxHeartbeats 4000000
/- part: TY -/
namespace Go.Proofs.Ytdfoicjjheifeaa
open Go.AM
@[ext] structure Atom where
 Name:ByteArray
 Vars:List Int
 deriving DecidableEq
def Atom.c (x:Atom):List T:=[.str x.Name,tI x.Vars]
@[simp] theorem Atom.c_def (x:Atom):x.c=[.str x.Name,tI x.Vars]:=rfl
abbrev Atom.small (x:Atom):Prop:=SsA x.Name∧SmA x.Vars
abbrev Atom.okay (x:Atom):Prop:=OkS x.Name∧OkL OkI x.Vars
theorem Atom.dec (ts:List T) (h:HasShs [.str,.slice [.int .i64]] ts):∃ x:Atom,ts=x.c∧x.okay:=by
 obtain ⟨t0,us0,rfl,g0,h0⟩:=dec_cons h
 obtain ⟨t1,us1,rfl,g1,h1⟩:=dec_cons h0
 cases dec_nil h1
 obtain ⟨x0,rfl,o0⟩:=dec_str g0
 obtain ⟨x1,rfl,o1⟩:=dec_tI g1
 exact ⟨⟨x0,x1⟩,rfl,o0,o1⟩
def Atom.sz (x:Atom) (l:Int):Int:=andSz (sz1 x.Name.size l) fun l=>andSz (sz1 x.Vars.length l) fun l=>l
theorem Atom.sz_ok (x:Atom) (l:Int) (hx:x.okay) (h0:0≤l) (h1:l≤1048576) (h:0≤x.sz l):x.sz l≤l∧x.small:=by
 unfold Atom.sz at h ⊢
 simp only [andSz] at h ⊢
 split at h
 ·omega
 rename_i q0
 rw [if_neg q0]
 have s0:=sz1_okA hx.1 h0 h1 (Int.not_lt.1 q0)
 split at h
 ·omega
 rename_i q1
 rw [if_neg q1]
 have s1:=sz1_okA hx.2.1 (by omega) (by omega) (Int.not_lt.1 q1)
 exact ⟨by omega,s0.2,s1.2⟩
@[ext] structure Zc where
 Zd:Int
 Atoms:List Atom
 deriving DecidableEq
def Zc.c (x:Zc):List T:=[.int .i64 x.Zd,.lst 2 (x.Atoms.map Atom.c)]
@[simp] theorem Zc.c_def (x:Zc):x.c=[.int .i64 x.Zd,.lst 2 (x.Atoms.map Atom.c)]:=rfl
abbrev Zc.small (x:Zc):Prop:=SmL Atom.small x.Atoms
abbrev Zc.okay (x:Zc):Prop:=OkI x.Zd∧OkL Atom.okay x.Atoms
theorem Zc.dec (ts:List T) (h:HasShs [.int .i64,.slice [.str,.slice [.int .i64]]] ts):∃ x:Zc,ts=x.c∧x.okay:=by
 obtain ⟨t0,us0,rfl,g0,h0⟩:=dec_cons h
 obtain ⟨t1,us1,rfl,g1,h1⟩:=dec_cons h0
 cases dec_nil h1
 obtain ⟨x0,rfl,o0⟩:=dec_int g0
 obtain ⟨x1,rfl,o1⟩:=dec_slice Atom.dec g1
 exact ⟨⟨x0,x1⟩,rfl,o0,o1⟩
def Zc.sz (x:Zc) (l:Int):Int:=andSz (szL Atom.sz x.Atoms l) fun l=>l
theorem Zc.sz_ok (x:Zc) (l:Int) (hx:x.okay) (h0:0≤l) (h1:l≤1048576) (h:0≤x.sz l):x.sz l≤l∧x.small:=by
 unfold Zc.sz at h ⊢
 simp only [andSz] at h ⊢
 split at h
 ·omega
 rename_i q0
 rw [if_neg q0]
 have s0:=szL_ok (p:=Atom.small) hx.2.1 (fun y hy l a b c=>Atom.sz_ok y l (hx.2.2 y hy) a b c) h0 h1 (Int.not_lt.1 q0)
 exact ⟨by omega,s0.2⟩
@[ext] structure Zb where
 Kind:Int
 Atom:Int
 Order:Int
 deriving DecidableEq
def Zb.c (x:Zb):List T:=[.int .i64 x.Kind,.int .i64 x.Atom,.int .i64 x.Order]
@[simp] theorem Zb.c_def (x:Zb):x.c=[.int .i64 x.Kind,.int .i64 x.Atom,.int .i64 x.Order]:=rfl
abbrev Zb.small (x:Zb):Prop:=True
abbrev Zb.okay (x:Zb):Prop:=OkI x.Kind∧OkI x.Atom∧OkI x.Order
theorem Zb.dec (ts:List T) (h:HasShs [.int .i64,.int .i64,.int .i64] ts):∃ x:Zb,ts=x.c∧x.okay:=by
 obtain ⟨t0,us0,rfl,g0,h0⟩:=dec_cons h
 obtain ⟨t1,us1,rfl,g1,h1⟩:=dec_cons h0
 obtain ⟨t2,us2,rfl,g2,h2⟩:=dec_cons h1
 cases dec_nil h2
 obtain ⟨x0,rfl,o0⟩:=dec_int g0
 obtain ⟨x1,rfl,o1⟩:=dec_int g1
 obtain ⟨x2,rfl,o2⟩:=dec_int g2
 exact ⟨⟨x0,x1,x2⟩,rfl,o0,o1,o2⟩
@[ext] structure Plan where
 Steps:List Zb
 deriving DecidableEq
def Plan.c (x:Plan):List T:=[.lst 3 (x.Steps.map Zb.c)]
@[simp] theorem Plan.c_def (x:Plan):x.c=[.lst 3 (x.Steps.map Zb.c)]:=rfl
abbrev Plan.small (x:Plan):Prop:=SmA x.Steps
abbrev Plan.okay (x:Plan):Prop:=OkL Zb.okay x.Steps
theorem Plan.dec (ts:List T) (h:HasShs [.slice [.int .i64,.int .i64,.int .i64]] ts):∃ x:Plan,ts=x.c∧x.okay:=by
 obtain ⟨t0,us0,rfl,g0,h0⟩:=dec_cons h
 cases dec_nil h0
 obtain ⟨x0,rfl,o0⟩:=dec_slice Zb.dec g0
 exact ⟨⟨x0⟩,rfl,o0⟩
def Plan.sz (x:Plan) (l:Int):Int:=andSz (sz1 x.Steps.length l) fun l=>l
theorem Plan.sz_ok (x:Plan) (l:Int) (hx:x.okay) (h0:0≤l) (h1:l≤1048576) (h:0≤x.sz l):x.sz l≤l∧x.small:=by
 unfold Plan.sz at h ⊢
 simp only [andSz] at h ⊢
 split at h
 ·omega
 rename_i q0
 rw [if_neg q0]
 have s0:=sz1_okA hx.1 h0 h1 (Int.not_lt.1 q0)
 exact ⟨by omega,s0.2⟩
end Go.Proofs.Ytdfoicjjheifeaa
