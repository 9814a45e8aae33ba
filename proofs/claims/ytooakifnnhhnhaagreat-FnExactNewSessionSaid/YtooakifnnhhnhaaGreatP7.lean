/-
  Parts of the proofs for this seat: TX PW EX H.
-/
import Derived.Test.YtooakifnnhhnhaaGreatRows
import Derived.Test.YtooakifnnhhnhaaGreatP4
import Derived.Test.YtooakifnnhhnhaaGreatP5
import Derived.Test.YtooakifnnhhnhaaGreatP6
set_option linter.unusedSimpArgs false
set_option linter.unusedVariables false
set_option maxRecDepth 100000
set_option maxHeartbeats 4000000
namespace Go.Proofs.YtooakifnnhhnhaaGreat
open Go.AM
@[simp] theorem Zc.map_inj(xs ys:List Zc):xs.map Zc.c=ys.map Zc.c↔xs=ys:=Zce (by
 intro a b h;simp at h
 simp[Zc.ext_iff,h])
@[simp] theorem Zh.map_inj(xs ys:List Zh):xs.map Zh.c=ys.map Zh.c↔xs=ys:=Zce (by
 intro a b h;simp at h
 simp[Zh.ext_iff,h])
@[simp] theorem Zj.map_inj(xs ys:List Zj):xs.map Zj.c=ys.map Zj.c↔xs=ys:=Zce (by
 intro a b h;simp at h
 simp[Zj.ext_iff,h])
@[simp] theorem Zd.map_inj(xs ys:List Zd):xs.map Zd.c=ys.map Zd.c↔xs=ys:=Zce (by
 intro a b h;simp at h
 simp[Zd.ext_iff,h])
@[simp] theorem Zl.map_inj(xs ys:List Zl):xs.map Zl.c=ys.map Zl.c↔xs=ys:=Zce (by
 intro a b h;simp at h
 simp[Zl.ext_iff,h])
@[simp] theorem Ze.map_inj(xs ys:List Ze):xs.map Ze.c=ys.map Ze.c↔xs=ys:=Zce (by
 intro a b h;simp at h
 simp[Ze.ext_iff,h])
@[simp] theorem Zf.map_inj(xs ys:List Zf):xs.map Zf.c=ys.map Zf.c↔xs=ys:=Zce (by
 intro a b h;simp at h
 simp[Zf.ext_iff,h])
@[simp] theorem Zf.flat(xs:List Zf):(xs.map Zf.c).all (λx=>x.all Zba)=true:=Zji (λ_=>rfl) xs
@[simp] theorem Zf.flat2(xs:List Zf):xs.all ((λx=>x.all Zba) ∘ Zf.c)=true:=Zjj (λ_=>rfl) xs
@[simp] theorem Zm.map_inj(xs ys:List Zm):xs.map Zm.c=ys.map Zm.c↔xs=ys:=Zce (by
 intro a b h;simp at h
 simp[Zm.ext_iff,Zh.ext_iff,Zl.ext_iff,h])
@[simp] theorem Zb.map_inj(xs ys:List Zb):xs.map Zb.c=ys.map Zb.c↔xs=ys:=Zce (by
 intro a b h;simp at h
 simp[Zb.ext_iff,h])
@[simp] theorem Zb.flat(xs:List Zb):(xs.map Zb.c).all (λx=>x.all Zba)=true:=Zji (λ_=>rfl) xs
@[simp] theorem Zb.flat2(xs:List Zb):xs.all ((λx=>x.all Zba) ∘ Zb.c)=true:=Zjj (λ_=>rfl) xs
@[simp] theorem Zn.map_inj(xs ys:List Zn):xs.map Zn.c=ys.map Zn.c↔xs=ys:=Zce (by
 intro a b h;simp at h
 simp[Zn.ext_iff,h])
@[simp] theorem Za.map_inj(xs ys:List Za):xs.map Za.c=ys.map Za.c↔xs=ys:=Zce (by
 intro a b h;simp at h
 simp[Za.ext_iff,Zn.ext_iff,h])
def inR(a b c:Int):Bool:=decide (b<=a/\a<=c)
def Zfr(c:Int):Int:=if c<0 then -1 else if c=0 then 0 else if c=1 then 1 else if c=2 then 4 else if c=3 then 16 else if c=4 then 64 else if c=5 then 256 else if c=6 then 1024 else if c=7 then 4096 else -1
theorem cls8{c:Int}(h:inR c 0 7=true):c=0\/c=1\/c=2\/c=3\/c=4\/c=5\/c=6\/c=7:=by
 simp[inR]at h;omega
theorem Z26{c:Int}(h:inR c 0 7=false):Zfr c=-1:=by
 simp[inR]at h;unfold Zfr;split
 .rfl
 .repeat' split
  all_goals omega
theorem drop_any{α:Type}(p:α->Bool){xs:List α}{i:Nat}(h:i<xs.length):(xs.drop i).any p=(p xs[i] || (xs.drop (i+1)).any p):=by
 rw[Ye h,List.any_cons]
def domAll:List Int->List Int->Bool
 |x::xs,y::ys=>decide (y<=x) && domAll xs ys
 |_,_=>true
def dom(xs ys:List Int):Bool:=decide (xs.length=ys.length) && domAll xs ys
def has(xs:List Int)(v:Int):Bool:=xs.any (λx=>decide (v=x))
def Zck{α:Type}(p:α->Bool):List α->Nat->Int
 |[],_=>-1
 |x::xs,i=>if p x=true then i else Zck p xs (i+1)
theorem Z27{α:Type}(p:α->Bool){xs:List α}{i:Nat}(h:i<xs.length):Zck p (xs.drop i) i=if p xs[i]=true then(i:Int)else Zck p (xs.drop (i+1)) (i+1):=by
 rw[Ye h,Zck]
theorem Zbhp{α:Type}(p:α->Bool)(xs:List α):∀i,xs.any p=false->Zck p xs i=-1:=by
 induction xs with
 |nil=>intro i _;rfl
 |cons x xs ih=>intro i h;simp at h;simp[Zck,h];apply ih;simp;exact h.2
theorem Zbhq{α:Type}(p:α->Bool)(xs:List α):∀i,xs.any p=true->0<=Zck p xs i:=by
 induction xs with
 |nil=>intro i h;simp at h
 |cons x xs ih =>
  intro i h;unfold Zck;split
  .omega
  .rename_i hx;simp only[List.any_cons,hx,Yb5]at h;exact ih _ h
def nmOk(s:ByteArray):Bool:=match s[0]? with
 |some b=>decide (s.size=1) && decide (97<=(b.toNat:Int)) && decide ((b.toNat:Int)<=122)
 |none=>false
theorem get0{s:ByteArray}(h:s.size=1):∃b,s[0]?=some b:=⟨s[0],getElem?_pos s 0 (by omega)⟩
def bl(p:Nat->Bool)(n:Nat):List (List T):=(List.range n).map λu=>[T.bool (p u)]
@[simp] theorem bl_get(p:Nat->Bool)(n i:Nat)(h:i<(bl p n).length):(bl p n)[i]=[T.bool (p i)]:=by simp[bl]
def inMask(m:Int)(i:Nat):Bool:=decide (andI (shrI m i) 1=1)
def hasV(m:Int):List Atom->Nat->Int->Bool
 |[],_,_=>false
 |a::as',i,u=>(inMask m i && has a.Vars u) || hasV m as' (i+1) u
def pV(m:Int)(qa:List Atom):Nat->Bool:=λu=>hasV m qa 0 u
def shr(qa:List Atom)(a b:Int):Bool:=(List.range 4).any λu=>pV a qa u && pV b qa u
theorem hd0{xs:List Int}(h:0<xs.length):xs.head?.getD 0=xs[0]:=by cases xs with|nil=>simp at h|cons x xs=>rfl
def cmpR:List Int->List Int->Int
 |[],[]=>0
 |[],_::_=>-1
 |_::_,[]=>1
 |a::x,b::y=>if a<b then -1 else if b<a then 1 else cmpR x y
def leR(a b:List Int):Bool:=decide (cmpR a b<=0)
def srtR(rows:List (List Int)):List (List Int):=rows.mergeSort leR
def cptR:List (List Int)->List (List Int)
 |[]=>[]
 |[a]=>[a]
 |a::b::l=>if a=b then cptR (b::l)else a::cptR (b::l)
def srtI(l:List Int):List Int:=l.mergeSort λx y=>decide (x<=y)
def cptI:List Int->List Int
 |[]=>[]
 |[a]=>[a]
 |a::b::l=>if a=b then cptI (b::l)else a::cptI (b::l)
def Z28(es:List (List T))(rows:List (List Int)):Prop:=es=rows.map isc/\rows.length<=4096/\∀r∈rows,r.length<=4
def Z29(es:List (List T))(l:List Int):Prop:=es=l.map ic/\l.length<=4096
open Classical in
noncomputable def extS(es:List (List T))(k:List (List Int)->AV×List Blk):Option (AV×List Blk):=if h:∃rows,Z28 es rows then some (k h.choose)else none
open Classical in
noncomputable def extI(es:List (List T))(k:List Int->AV×List Blk):Option (AV×List Blk):=if h:∃l,Z29 es l then some (k h.choose)else none
noncomputable def ext:Zz:=λf xs h0=>match xs,h0 with
 |[.own 0,.fn 270 []],[.arr 99 1 fr es]=>if f=271 then extS es λrows=>(.tup [],[.arr 99 1 fr ((srtR rows).map isc)])else none
 |[.own 0,.fn 273 []],[.arr 99 1 fr es]=>if f=272 then extS es λrows=>(.own 1,[.dead,.arr 99 1 fr ((cptR rows).map isc)])else none
 |[.own 0],[.arr 3 1 fr es]=>if f=251 then extI es λl=>(.tup [],[.arr 3 1 fr ((srtI l).map ic)])else if f=252 then extI es λl=>(.own 1,[.dead,.arr 3 1 fr ((cptI l).map ic)])else none
 |_,_=>none
open Go.ChangeShapes Go.WideShapes Go.ChangeAt Go.RowKit
theorem own:ownKnob Tryz.prog.godebug=none:=by kernel_rfl
theorem laidOut:laidOutB Tryz.prog=true:=by kernel_rfl
noncomputable def tbl:Nat->Option MFun:=λf=>if f=271\/f=251 then none else tblOf Tryz.prog [4000003,2000007,2000008,2000009,3000013,3000014,3000015,2000025,2000026,2000027,2000028,2000029,3000038,3000039,3000040,3000041,3000042,3000043,6000052,6000053,2000060,2000061,2000062,2000063,2000064,3000078,3000079,3000081,3000082,3000083,6000094,2000100,2000101,2000102,2000103,6000104,6000105,1000107,3000123,3000124,3000125,3000126,2000148,2000149,1000191,2000195,8000203,1000206,1000235,7000249,251,252,265,1000267,271,272,279,298,319,1000333,336,1000342] f
theorem tbl_ok:TblOK Tryz.prog tbl:=by
 intro f m h;unfold tbl at h;split at h
 .cases h
 .exact tblOK _ _ f m h
theorem Zg{f:Nat}{fn:Func}{m:MFun}(hf:Tryz.prog.funcs[f]?=some fn)(hc:Ze0 Tryz.prog f=true:=by kernel_rfl)(h:Zgc Tryz.prog (inlOf [4000003,2000007,2000008,2000009,3000013,3000014,3000015,2000025,2000026,2000027,2000028,2000029,3000038,3000039,3000040,3000041,3000042,3000043,6000052,6000053,2000060,2000061,2000062,2000063,2000064,3000078,3000079,3000081,3000082,3000083,6000094,2000100,2000101,2000102,2000103,6000104,6000105,1000107,3000123,3000124,3000125,3000126,2000148,2000149,1000191,2000195,8000203,1000206,1000235,7000249,251,252,265,1000267,271,272,279,298,319,1000333,336,1000342] f) (Zqg fn) fn=some m:=by kernel_rfl)(hne:¬(f=271\/f=251):=by decide):tbl f=some m:=by
 unfold tbl;rw[if_neg hne];exact tblOf_eq hf hc h
noncomputable def C:Zz:=Zbx ext tbl
theorem run{f:Nat}{xs:List AV}{m:MFun}(ht:tbl f=some m)(hl:xs.length=m.np){r:AV×List Blk}(h:Ev C [.fin 0 m.res] m.body ⟨Zez xs 0,[[]],[]⟩=some r):C f xs []=some r:=Z2l (h0:=[]) ht hl h
theorem runM{f:Nat}{xs:List AV}{h0:List Blk}{m:MFun}(ht:tbl f=some m)(hl:xs.length=m.np){r:AV×List Blk}(h:Ev C [.fin h0.length m.res] m.body ⟨Zez xs 0,[Zd7 h0 0],h0⟩=some r):C f xs h0=some r:=Z2l ht hl h
abbrev Zbhr:Nat:=3
abbrev Zbhs:Nat:=4
abbrev Zbht:Nat:=5
abbrev Zbhu:Nat:=7
abbrev Zbhv:Nat:=8
abbrev Z3a:Nat:=10
abbrev Z3b:Nat:=11
abbrev Z3c:Nat:=12
abbrev Z3d:Nat:=13
abbrev Z3e:Nat:=14
abbrev Z3f:Nat:=15
abbrev Z3g:Nat:=16
abbrev Zbhw:Nat:=17
abbrev Zbhx:Nat:=18
abbrev Zbhy:Nat:=19
abbrev Zbhz:Nat:=20
abbrev Zbh0:Nat:=21
abbrev Zbh1:Nat:=25
abbrev Zbh2:Nat:=26
abbrev Zbh3:Nat:=27
abbrev Zbh4:Nat:=28
abbrev Zbh5:Nat:=29
abbrev Zbh6:Nat:=32
abbrev Z3h:Nat:=33
abbrev Z3i:Nat:=34
abbrev Z3j:Nat:=35
abbrev Z3k:Nat:=36
abbrev Z3l:Nat:=37
abbrev Z3m:Nat:=38
abbrev Z3n:Nat:=39
abbrev Z3o:Nat:=40
abbrev Z3p:Nat:=41
abbrev Z3q:Nat:=42
abbrev Zbh7:Nat:=43
abbrev Z3r:Nat:=44
abbrev Z3s:Nat:=45
abbrev Zbh8:Nat:=46
abbrev Zbh9:Nat:=47
abbrev Zbia:Nat:=48
abbrev Zbib:Nat:=49
abbrev Zbic:Nat:=50
abbrev Zbid:Nat:=51
abbrev Zbie:Nat:=60
abbrev Zbif:Nat:=61
abbrev Zbig:Nat:=62
abbrev Zbih:Nat:=63
abbrev Zbii:Nat:=64
abbrev Zbij:Nat:=72
abbrev Z3t:Nat:=73
abbrev Z3u:Nat:=74
abbrev Zbik:Nat:=75
abbrev Zbil:Nat:=76
abbrev Z3v:Nat:=77
abbrev Z3w:Nat:=78
abbrev Z3x:Nat:=79
abbrev Zuq:Nat:=80
abbrev Zqk:Nat:=81
abbrev Z3y:Nat:=82
abbrev Zbim:Nat:=83
abbrev Z3z:Nat:=84
abbrev Z30:Nat:=85
abbrev Z31:Nat:=86
abbrev Z32:Nat:=87
abbrev Z33:Nat:=88
abbrev Zbin:Nat:=89
abbrev Zbio:Nat:=90
abbrev Zbip:Nat:=91
abbrev Zbiq:Nat:=92
abbrev Zbir:Nat:=100
abbrev Zbis:Nat:=101
abbrev Zbit:Nat:=102
abbrev Zbiu:Nat:=103
abbrev Zbiv:Nat:=119
abbrev Zbiw:Nat:=120
abbrev Zbix:Nat:=121
abbrev Zbiy:Nat:=122
abbrev Zql:Nat:=123
abbrev Zqm:Nat:=124
abbrev Z34:Nat:=127
abbrev Z35:Nat:=128
abbrev Zbiz:Nat:=129
abbrev Z36:Nat:=130
abbrev Zbi0:Nat:=133
abbrev Zbi1:Nat:=134
abbrev Zbi2:Nat:=148
abbrev Zbi3:Nat:=149
abbrev Zbi4:Nat:=170
abbrev Zbi5:Nat:=171
abbrev Zbi6:Nat:=172
abbrev Zbi7:Nat:=173
abbrev Zbi8:Nat:=174
abbrev Zbi9:Nat:=195
abbrev Zbja:Nat:=217
abbrev Zcl:Nat:=3
abbrev t_bool:Nat:=4
abbrev Zhp:Nat:=99
abbrev Zqn:Nat:=116
abbrev Zqo:Nat:=118
abbrev Zl1:Nat:=142
abbrev Zl2:Nat:=146
abbrev Zfs:Nat:=170
abbrev Zqp:Nat:=193
end Go.Proofs.YtooakifnnhhnhaaGreat
