/-
  Parts of the proofs for this seat: TX PW EX H.
-/
import Derived.Test.YtooakifnnhhnhaaGreatRows
import Derived.Test.YtooakifnnhhnhaaGreatP4
import Derived.Test.YtooakifnnhhnhaaGreatP5
import Derived.Test.YtooakifnnhhnhaaGreatP6
set_option linter.unusedSimpArgs false
set_option linter.unusedVariables false
set_option maxRecDepth 100000
set_option maxHeartbeats 4000000
namespace Go.Proofs.YtooakifnnhhnhaaGreat
open Go.AM
@[simp] theorem Zc.map_inj(xs ys:List Zc):xs.map Zc.c=ys.map Zc.c↔xs=ys:=Zb9 (by
 intro a b h;simp at h
 simp[Zc.ext_iff,h])
@[simp] theorem Zh.map_inj(xs ys:List Zh):xs.map Zh.c=ys.map Zh.c↔xs=ys:=Zb9 (by
 intro a b h;simp at h
 simp[Zh.ext_iff,h])
@[simp] theorem Zj.map_inj(xs ys:List Zj):xs.map Zj.c=ys.map Zj.c↔xs=ys:=Zb9 (by
 intro a b h;simp at h
 simp[Zj.ext_iff,h])
@[simp] theorem Zd.map_inj(xs ys:List Zd):xs.map Zd.c=ys.map Zd.c↔xs=ys:=Zb9 (by
 intro a b h;simp at h
 simp[Zd.ext_iff,h])
@[simp] theorem Zk.map_inj(xs ys:List Zk):xs.map Zk.c=ys.map Zk.c↔xs=ys:=Zb9 (by
 intro a b h;simp at h
 simp[Zk.ext_iff,h])
@[simp] theorem Ze.map_inj(xs ys:List Ze):xs.map Ze.c=ys.map Ze.c↔xs=ys:=Zb9 (by
 intro a b h;simp at h
 simp[Ze.ext_iff,h])
@[simp] theorem Zf.map_inj(xs ys:List Zf):xs.map Zf.c=ys.map Zf.c↔xs=ys:=Zb9 (by
 intro a b h;simp at h
 simp[Zf.ext_iff,h])
@[simp] theorem Zf.flat(xs:List Zf):(xs.map Zf.c).all (λx=>x.all Z4)=true:=Zjh (λ_=>rfl) xs
@[simp] theorem Zf.flat2(xs:List Zf):xs.all ((λx=>x.all Z4) ∘ Zf.c)=true:=Zji (λ_=>rfl) xs
@[simp] theorem Zl.map_inj(xs ys:List Zl):xs.map Zl.c=ys.map Zl.c↔xs=ys:=Zb9 (by
 intro a b h;simp at h
 simp[Zl.ext_iff,Zh.ext_iff,Zk.ext_iff,h])
@[simp] theorem Zb.map_inj(xs ys:List Zb):xs.map Zb.c=ys.map Zb.c↔xs=ys:=Zb9 (by
 intro a b h;simp at h
 simp[Zb.ext_iff,h])
@[simp] theorem Zb.flat(xs:List Zb):(xs.map Zb.c).all (λx=>x.all Z4)=true:=Zjh (λ_=>rfl) xs
@[simp] theorem Zb.flat2(xs:List Zb):xs.all ((λx=>x.all Z4) ∘ Zb.c)=true:=Zji (λ_=>rfl) xs
@[simp] theorem Zm.map_inj(xs ys:List Zm):xs.map Zm.c=ys.map Zm.c↔xs=ys:=Zb9 (by
 intro a b h;simp at h
 simp[Zm.ext_iff,h])
@[simp] theorem Za.map_inj(xs ys:List Za):xs.map Za.c=ys.map Za.c↔xs=ys:=Zb9 (by
 intro a b h;simp at h
 simp[Za.ext_iff,Zm.ext_iff,h])
def inR(a b c:Int):Bool:=decide (b<=a/\a<=c)
def Zfp(c:Int):Int:=if c<0 then -1 else if c=0 then 0 else if c=1 then 1 else if c=2 then 4 else if c=3 then 16 else if c=4 then 64 else if c=5 then 256 else if c=6 then 1024 else if c=7 then 4096 else -1
theorem cls8{c:Int}(h:inR c 0 7=true):c=0\/c=1\/c=2\/c=3\/c=4\/c=5\/c=6\/c=7:=by
 simp[inR]at h;omega
theorem Z2r{c:Int}(h:inR c 0 7=false):Zfp c=-1:=by
 simp[inR]at h;unfold Zfp;split
 .rfl
 .repeat' split
  all_goals omega
theorem drop_any{α:Type}(p:α->Bool){xs:List α}{i:Nat}(h:i<xs.length):(xs.drop i).any p=(p xs[i] || (xs.drop (i+1)).any p):=by
 rw[Ye h,List.any_cons]
def domAll:List Int->List Int->Bool
 |x::xs,y::ys=>decide (y<=x) && domAll xs ys
 |_,_=>true
def dom(xs ys:List Int):Bool:=decide (xs.length=ys.length) && domAll xs ys
def has(xs:List Int)(v:Int):Bool:=xs.any (λx=>decide (v=x))
def Zcf{α:Type}(p:α->Bool):List α->Nat->Int
 |[],_=>-1
 |x::xs,i=>if p x=true then i else Zcf p xs (i+1)
theorem Z2s{α:Type}(p:α->Bool){xs:List α}{i:Nat}(h:i<xs.length):Zcf p (xs.drop i) i=if p xs[i]=true then(i:Int)else Zcf p (xs.drop (i+1)) (i+1):=by
 rw[Ye h,Zcf]
theorem Zbhb{α:Type}(p:α->Bool)(xs:List α):∀i,xs.any p=false->Zcf p xs i=-1:=by
 induction xs with
 |nil=>intro i _;rfl
 |cons x xs ih=>intro i h;simp at h;simp[Zcf,h];apply ih;simp;exact h.2
theorem Zbhc{α:Type}(p:α->Bool)(xs:List α):∀i,xs.any p=true->0<=Zcf p xs i:=by
 induction xs with
 |nil=>intro i h;simp at h
 |cons x xs ih =>
  intro i h;unfold Zcf;split
  .omega
  .rename_i hx;simp only[List.any_cons,hx,Yb5]at h;exact ih _ h
def nmOk(s:ByteArray):Bool:=match s[0]? with
 |some b=>decide (s.size=1) && decide (97<=(b.toNat:Int)) && decide ((b.toNat:Int)<=122)
 |none=>false
theorem get0{s:ByteArray}(h:s.size=1):∃b,s[0]?=some b:=⟨s[0],getElem?_pos s 0 (by omega)⟩
def bl(p:Nat->Bool)(n:Nat):List (List T):=(List.range n).map λu=>[T.bool (p u)]
@[simp] theorem bl_get(p:Nat->Bool)(n i:Nat)(h:i<(bl p n).length):(bl p n)[i]=[T.bool (p i)]:=by simp[bl]
def inMask(m:Int)(i:Nat):Bool:=decide (andI (shrI m i) 1=1)
def hasV(m:Int):List Atom->Nat->Int->Bool
 |[],_,_=>false
 |a::as',i,u=>(inMask m i && has a.Vars u) || hasV m as' (i+1) u
def pV(m:Int)(qa:List Atom):Nat->Bool:=λu=>hasV m qa 0 u
def shr(qa:List Atom)(a b:Int):Bool:=(List.range 4).any λu=>pV a qa u && pV b qa u
theorem hd0{xs:List Int}(h:0<xs.length):xs.head?.getD 0=xs[0]:=by cases xs with|nil=>simp at h|cons x xs=>rfl
def cmpR:List Int->List Int->Int
 |[],[]=>0
 |[],_::_=>-1
 |_::_,[]=>1
 |a::x,b::y=>if a<b then -1 else if b<a then 1 else cmpR x y
def leR(a b:List Int):Bool:=decide (cmpR a b<=0)
def srtR(rows:List (List Int)):List (List Int):=rows.mergeSort leR
def cptR:List (List Int)->List (List Int)
 |[]=>[]
 |[a]=>[a]
 |a::b::l=>if a=b then cptR (b::l)else a::cptR (b::l)
def srtI(l:List Int):List Int:=l.mergeSort λx y=>decide (x<=y)
def cptI:List Int->List Int
 |[]=>[]
 |[a]=>[a]
 |a::b::l=>if a=b then cptI (b::l)else a::cptI (b::l)
def Z2t(es:List (List T))(rows:List (List Int)):Prop:=es=rows.map isc/\rows.length<=4096/\∀r∈rows,r.length<=4
def Z2u(es:List (List T))(l:List Int):Prop:=es=l.map ic/\l.length<=4096
open Classical in
noncomputable def extS(es:List (List T))(k:List (List Int)->AV×List Blk):Option (AV×List Blk):=if h:∃rows,Z2t es rows then some (k h.choose)else none
open Classical in
noncomputable def extI(es:List (List T))(k:List Int->AV×List Blk):Option (AV×List Blk):=if h:∃l,Z2u es l then some (k h.choose)else none
noncomputable def ext:Zw:=λf xs h0=>match xs,h0 with
 |[.own 0,.fn 270 []],[.arr 99 1 fr es]=>if f=271 then extS es λrows=>(.tup [],[.arr 99 1 fr ((srtR rows).map isc)])else none
 |[.own 0,.fn 273 []],[.arr 99 1 fr es]=>if f=272 then extS es λrows=>(.own 1,[.dead,.arr 99 1 fr ((cptR rows).map isc)])else none
 |[.own 0],[.arr 3 1 fr es]=>if f=251 then extI es λl=>(.tup [],[.arr 3 1 fr ((srtI l).map ic)])else if f=252 then extI es λl=>(.own 1,[.dead,.arr 3 1 fr ((cptI l).map ic)])else none
 |_,_=>none
open Go.ChangeShapes Go.WideShapes Go.ChangeAt Go.RowKit
theorem own:ownKnob Tryz.prog.godebug=none:=by kernel_rfl
theorem laidOut:laidOutB Tryz.prog=true:=by kernel_rfl
noncomputable def tbl:Nat->Option MFun:=λf=>if f=271\/f=251 then none else tblOf Tryz.prog [4000003,2000007,2000008,2000009,3000013,3000014,3000015,2000025,2000026,2000027,2000028,2000029,3000038,3000039,3000040,3000041,3000042,3000043,6000052,6000053,2000060,2000061,2000062,2000063,2000064,3000078,3000079,3000081,3000082,3000083,6000094,2000100,2000101,2000102,2000103,6000104,6000105,1000107,3000123,3000124,3000125,3000126,2000148,2000149,1000191,2000195,8000203,1000206,1000235,7000249,251,252,265,1000267,271,272,279,298,319,1000333,336,1000342] f
theorem tbl_ok:TblOK Tryz.prog tbl:=by
 intro f m h;unfold tbl at h;split at h
 .cases h
 .exact tblOK _ _ f m h
theorem Zg{f:Nat}{fn:Func}{m:MFun}(hf:Tryz.prog.funcs[f]?=some fn)(hc:Zet Tryz.prog f=true:=by kernel_rfl)(h:Zf9 Tryz.prog (inlOf [4000003,2000007,2000008,2000009,3000013,3000014,3000015,2000025,2000026,2000027,2000028,2000029,3000038,3000039,3000040,3000041,3000042,3000043,6000052,6000053,2000060,2000061,2000062,2000063,2000064,3000078,3000079,3000081,3000082,3000083,6000094,2000100,2000101,2000102,2000103,6000104,6000105,1000107,3000123,3000124,3000125,3000126,2000148,2000149,1000191,2000195,8000203,1000206,1000235,7000249,251,252,265,1000267,271,272,279,298,319,1000333,336,1000342] f) (Zqe fn) fn=some m:=by kernel_rfl)(hne:¬(f=271\/f=251):=by decide):tbl f=some m:=by
 unfold tbl;rw[if_neg hne];exact tblOf_eq hf hc h
noncomputable def C:Zw:=Zbs ext tbl
theorem run{f:Nat}{xs:List AV}{m:MFun}(ht:tbl f=some m)(hl:xs.length=m.np){r:AV×List Blk}(h:Ev C [.fin 0 m.res] m.body ⟨Zes xs 0,[[]],[]⟩=some r):C f xs []=some r:=Z16 (h0:=[]) ht hl h
theorem runM{f:Nat}{xs:List AV}{h0:List Blk}{m:MFun}(ht:tbl f=some m)(hl:xs.length=m.np){r:AV×List Blk}(h:Ev C [.fin h0.length m.res] m.body ⟨Zes xs 0,[Zdx h0 0],h0⟩=some r):C f xs h0=some r:=Z16 ht hl h
abbrev Zbhd:Nat:=3
abbrev Zbhe:Nat:=4
abbrev Zbhf:Nat:=5
abbrev Zbhg:Nat:=7
abbrev Zbhh:Nat:=8
abbrev Z2v:Nat:=10
abbrev Z2w:Nat:=11
abbrev Z2x:Nat:=12
abbrev Z2y:Nat:=13
abbrev Z2z:Nat:=14
abbrev Z20:Nat:=15
abbrev Z21:Nat:=16
abbrev Zbhi:Nat:=17
abbrev Zbhj:Nat:=18
abbrev Zbhk:Nat:=19
abbrev Zbhl:Nat:=20
abbrev Zbhm:Nat:=21
abbrev Zbhn:Nat:=25
abbrev Zbho:Nat:=26
abbrev Zbhp:Nat:=27
abbrev Zbhq:Nat:=28
abbrev Zbhr:Nat:=29
abbrev Zbhs:Nat:=32
abbrev Z22:Nat:=33
abbrev Z23:Nat:=34
abbrev Z24:Nat:=35
abbrev Z25:Nat:=36
abbrev Z26:Nat:=37
abbrev Z27:Nat:=38
abbrev Z28:Nat:=39
abbrev Z29:Nat:=40
abbrev Z3a:Nat:=41
abbrev Z3b:Nat:=42
abbrev Zbht:Nat:=43
abbrev Z3c:Nat:=44
abbrev Z3d:Nat:=45
abbrev Zbhu:Nat:=46
abbrev Zbhv:Nat:=47
abbrev Zbhw:Nat:=48
abbrev Zbhx:Nat:=49
abbrev Zbhy:Nat:=50
abbrev Zbhz:Nat:=51
abbrev Zbh0:Nat:=60
abbrev Zbh1:Nat:=61
abbrev Zbh2:Nat:=62
abbrev Zbh3:Nat:=63
abbrev Zbh4:Nat:=64
abbrev Zbh5:Nat:=72
abbrev Z3e:Nat:=73
abbrev Z3f:Nat:=74
abbrev Zbh6:Nat:=75
abbrev Zbh7:Nat:=76
abbrev Z3g:Nat:=77
abbrev Z3h:Nat:=78
abbrev Z3i:Nat:=79
abbrev Zuo:Nat:=80
abbrev Zqi:Nat:=81
abbrev Z3j:Nat:=82
abbrev Zbh8:Nat:=83
abbrev Z3k:Nat:=84
abbrev Z3l:Nat:=85
abbrev Z3m:Nat:=86
abbrev Z3n:Nat:=87
abbrev Z3o:Nat:=88
abbrev Zbh9:Nat:=89
abbrev Zbia:Nat:=90
abbrev Zbib:Nat:=91
abbrev Zbic:Nat:=92
abbrev Zbid:Nat:=100
abbrev Zbie:Nat:=101
abbrev Zbif:Nat:=102
abbrev Zbig:Nat:=103
abbrev Zbih:Nat:=119
abbrev Zbii:Nat:=120
abbrev Zbij:Nat:=121
abbrev Zbik:Nat:=122
abbrev Zqj:Nat:=123
abbrev Zqk:Nat:=124
abbrev Z3p:Nat:=127
abbrev Z3q:Nat:=128
abbrev Zbil:Nat:=129
abbrev Z3r:Nat:=130
abbrev Zbim:Nat:=133
abbrev Zbin:Nat:=134
abbrev Zbio:Nat:=148
abbrev Zbip:Nat:=149
abbrev Zbiq:Nat:=170
abbrev Zbir:Nat:=171
abbrev Zbis:Nat:=172
abbrev Zbit:Nat:=173
abbrev Zbiu:Nat:=174
abbrev Zbiv:Nat:=195
abbrev Zbiw:Nat:=217
abbrev Zcg:Nat:=3
abbrev t_bool:Nat:=4
abbrev Zhp:Nat:=99
abbrev Zql:Nat:=116
abbrev Zqm:Nat:=118
abbrev Zly:Nat:=142
abbrev Zlz:Nat:=146
abbrev Zfq:Nat:=170
abbrev Zqn:Nat:=193
end Go.Proofs.YtooakifnnhhnhaaGreat
