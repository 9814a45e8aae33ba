/-
  Parts of the proofs for this seat: K FG FA.
-/
import Derived.Test.YthpdbpfamhcgiaaGreatP8
set_option linter.all false
set_option maxRecDepth 100000
set_option maxHeartbeats 4000000
set_option cbv.maxSteps 9999999
namespace Go.Proofs.YthpdbpfamhcgiaaGreat
open Go.AM
noncomputable section
def Ze0:MFun:=mkF (Zi 3 Tryz.f3)
def ZRi:tbl 3=some Ze0:=Zh Tryz.func3
def ZC6:MFun:=mkF (Zi 5 Tryz.f5)
def ZRj:tbl 5=some ZC6:=Zh Tryz.func5
def ZC7:MFun:=mkF (Zi 6 Tryz.f6)
def ZRk:tbl 6=some ZC7:=Zh Tryz.func6
def ZC8:MFun:=mkF (Zi 7 Tryz.f7)
def ZRl:tbl 7=some ZC8:=Zh Tryz.func7
def ZC9:MFun:=mkF (Zi 8 Tryz.f8)
def ZRm:tbl 8=some ZC9:=Zh Tryz.func8
def ZCA:MFun:=mkF (Zi 9 Tryz.f9)
def ZRn:tbl 9=some ZCA:=Zh Tryz.func9
def ZCB:MFun:=mkF (Zi 11 Tryz.f11)
def ZRo:tbl 11=some ZCB:=Zh Tryz.func11
def ZCC:MFun:=mkF (Zi 12 Tryz.f12)
def ZRp:tbl 12=some ZCC:=Zh Tryz.func12
def ZCD:MFun:=mkF (Zi 13 Tryz.f13)
def ZRq:tbl 13=some ZCD:=Zh Tryz.func13
def ZCE:MFun:=mkF (Zi 14 Tryz.f14)
def ZRr:tbl 14=some ZCE:=Zh Tryz.func14
def ZCF:MFun:=mkF (Zi 15 Tryz.f15)
def ZRs:tbl 15=some ZCF:=Zh Tryz.func15
def ZCG:MFun:=mkF (Zi 17 Tryz.f17)
def ZRt:tbl 17=some ZCG:=Zh Tryz.func17
def ZCH:MFun:=mkF (Zi 18 Tryz.f18)
def ZRu:tbl 18=some ZCH:=Zh Tryz.func18
def ZCI:MFun:=mkF (Zi 19 Tryz.f19)
def ZRv:tbl 19=some ZCI:=Zh Tryz.func19
def ZCJ:MFun:=mkF (Zi 20 Tryz.f20)
def ZRw:tbl 20=some ZCJ:=Zh Tryz.func20
def ZCK:MFun:=mkF (Zi 21 Tryz.f21)
def ZRx:tbl 21=some ZCK:=Zh Tryz.func21
def ZCL:MFun:=mkF (Zi 33 Tryz.f33)
def ZRy:tbl 33=some ZCL:=Zh Tryz.func33
def ZCM:MFun:=mkF (Zi 34 Tryz.f34)
def ZRz:tbl 34=some ZCM:=Zh Tryz.func34
def ZCN:MFun:=mkF (Zi 35 Tryz.f35)
def ZR0:tbl 35=some ZCN:=Zh Tryz.func35
def ZCO:MFun:=mkF (Zi 39 Tryz.f39)
def ZR1:tbl 39=some ZCO:=Zh Tryz.func39
def ZCP:MFun:=mkF (Zi 40 Tryz.f40)
def ZR2:tbl 40=some ZCP:=Zh Tryz.func40
def ZCQ:MFun:=mkF (Zi 43 Tryz.f43)
def ZR3:tbl 43=some ZCQ:=Zh Tryz.func43
def ZCR:MFun:=mkF (Zi 44 Tryz.f44)
def ZR4:tbl 44=some ZCR:=Zh Tryz.func44
def ZCS:MFun:=mkF (Zi 59 Tryz.f59)
def ZR5:tbl 59=some ZCS:=Zh Tryz.func59
def ZCT:MFun:=mkF (Zi 60 Tryz.f60)
def ZR6:tbl 60=some ZCT:=Zh Tryz.func60
def ZCU:MFun:=mkF (Zi 61 Tryz.f61)
def ZR7:tbl 61=some ZCU:=Zh Tryz.func61
def ZCV:MFun:=mkF (Zi 65 Tryz.f65)
def ZR8:tbl 65=some ZCV:=Zh Tryz.func65
def ZCW:RawF (Zi 66 Tryz.f66):={ m:=_ }
def Zqs:Zc:=cut0 ZCW 9
def ZCX:MFun:=Kd ZCW 9 Zqs
def ZR9:tbl 66=some ZCX:=Zh Tryz.func66
def ZCY:MFun:=mkF (Zi 69 Tryz.f69)
def ZRA:tbl 69=some ZCY:=Zh Tryz.func69
def ZCZ:MFun:=mkF (Zi 82 Tryz.f82)
def ZRB:tbl 82=some ZCZ:=Zh Tryz.func82
def ZDa:MFun:=mkF (Zi 83 Tryz.f83)
def ZRC:tbl 83=some ZDa:=Zh Tryz.func83
def ZDb:MFun:=mkF (Zi 84 Tryz.f84)
def ZRD:tbl 84=some ZDb:=Zh Tryz.func84
def ZDc:MFun:=mkF (Zi 88 Tryz.f88)
def ZRE:tbl 88=some ZDc:=Zh Tryz.func88
def ZDd:RawF (Zi 89 Tryz.f89):={ m:=_ }
def Zqt:Zc:=cut0 ZDd 15
def Z10:MFun:=Kd ZDd 15 Zqt
def ZRF:tbl 89=some Z10:=Zh Tryz.func89
def ZDe:MFun:=mkF (Zi 92 Tryz.f92)
def ZRG:tbl 92=some ZDe:=Zh Tryz.func92
def ZDf:MFun:=mkF (Zi 120 Tryz.f120)
def ZRH:tbl 120=some ZDf:=Zh Tryz.func120
def ZDg:MFun:=mkF (Zi 123 Tryz.f123)
def ZRI:tbl 123=some ZDg:=Zh Tryz.func123
def ZDh:MFun:=mkF (Zi 124 Tryz.f124)
def ZRJ:tbl 124=some ZDh:=Zh Tryz.func124
def ZDi:MFun:=mkF (Zi 125 Tryz.f125)
def ZRK:tbl 125=some ZDi:=Zh Tryz.func125
def ZDj:MFun:=mkF (Zi 126 Tryz.f126)
def ZRL:tbl 126=some ZDj:=Zh Tryz.func126
def ZDk:MFun:=mkF (Zi 148 Tryz.f148)
def ZRM:tbl 148=some ZDk:=Zh Tryz.func148
def ZDl:MFun:=mkF (Zi 149 Tryz.f149)
def ZRN:tbl 149=some ZDl:=Zh Tryz.func149
def ZDm:MFun:=mkF (Zi 150 Tryz.f150)
def ZRO:tbl 150=some ZDm:=Zh Tryz.func150
def ZDn:MFun:=mkF (Zi 151 Tryz.f151)
def ZRP:tbl 151=some ZDn:=Zh Tryz.func151
def ZDo:MFun:=mkF (Zi 152 Tryz.f152)
def ZRQ:tbl 152=some ZDo:=Zh Tryz.func152
def ZDp:MFun:=mkF (Zi 174 Tryz.f174)
def ZRR:tbl 174=some ZDp:=Zh Tryz.func174
def ZDq:MFun:=mkF (Zi 175 Tryz.f175)
def ZRS:tbl 175=some ZDq:=Zh Tryz.func175
def ZDr:MFun:=mkF (Zi 176 Tryz.f176)
def ZRT:tbl 176=some ZDr:=Zh Tryz.func176
def ZDs:MFun:=mkF (Zi 177 Tryz.f177)
def ZRU:tbl 177=some ZDs:=Zh Tryz.func177
def ZDt:MFun:=mkF (Zi 178 Tryz.f178)
def ZRV:tbl 178=some ZDt:=Zh Tryz.func178
def ZDu:MFun:=mkF (Zi 217 Tryz.f217)
def ZRW:tbl 217=some ZDu:=Zh Tryz.func217
def ZDv:MFun:=mkF (Zi 218 Tryz.f218)
def ZRX:tbl 218=some ZDv:=Zh Tryz.func218
def ZDw:MFun:=mkF (Zi 219 Tryz.f219)
def ZRY:tbl 219=some ZDw:=Zh Tryz.func219
def ZDx:MFun:=mkF (Zi 238 Tryz.f238)
def ZRZ:tbl 238=some ZDx:=Zh Tryz.func238
def ZDy:MFun:=mkF (Zi 239 Tryz.f239)
def ZSa:tbl 239=some ZDy:=Zh Tryz.func239
def ZDz:MFun:=mkF (Zi 240 Tryz.f240)
def ZSb:tbl 240=some ZDz:=Zh Tryz.func240
def ZD0:MFun:=mkF (Zi 264 Tryz.f264)
def ZSc:tbl 264=some ZD0:=Zh Tryz.func264
def ZD1:MFun:=mkF (Zi 265 Tryz.f265)
def ZSd:tbl 265=some ZD1:=Zh Tryz.func265
def ZD2:MFun:=mkF (Zi 266 Tryz.f266)
def ZSe:tbl 266=some ZD2:=Zh Tryz.func266
def ZD3:MFun:=mkF (Zi 319 Tryz.f319)
def ZSf:tbl 319=some ZD3:=Zh Tryz.func319
def ZD4:MFun:=mkF (Zi 339 Tryz.f339)
def ZSg:tbl 339=some ZD4:=Zh Tryz.func339
def ZD5:MFun:=mkF (Zi 365 Tryz.f365)
def ZSh:tbl 365=some ZD5:=Zh Tryz.func365
def ZD6:MFun:=mkF (Zi 373 Tryz.f373)
def ZSi:tbl 373=some ZD6:=Zh Tryz.func373
def ZD7:MFun:=mkF (Zi 386 Tryz.f386)
def ZSj:tbl 386=some ZD7:=Zh Tryz.func386
end
end Go.Proofs.YthpdbpfamhcgiaaGreat
namespace Go.AM
variable{ext:Xe}{tbl:Nat->Option MFun}
def hdB(a b c d x:Nat)(ks:V8)(y z:Zc):Zc:=.seq (.seq (.reg [⟨some a,none,.mov (.s x)⟩,⟨some b,none,.mov (.s 0)⟩,⟨some c,none,.len false (.s b)⟩,⟨some d,none,.bin .lss (.s a) (.s c)⟩] (ks++[d])) (.cond (.s d) .skip (.exit 0))) (.seq (.block 1 y) z)
def toR(n k:Nat)(l:Option Nat):Zc:=.reg [⟨some 14,none,.mov (.s 3)⟩,⟨some 15,none,.mov (.s 4)⟩,⟨some 16,none,.mov (.s 0)⟩,⟨some 17,none,.mov (.s 4)⟩,⟨some 18,none,.iaddr n (.s 16) (.s 17)⟩,⟨some 19,none,.load l (.s 18)⟩,⟨some 20,none,.call k [.s 19]⟩,⟨some 21,none,.iaddr n (.s 14) (.s 15)⟩,⟨none,none,.store n (.s 21) (.s 20)⟩] [0,3,4]
def toB(n k:Nat)(l:Option Nat):Zc:=hdB 8 9 10 11 4 [0,3,4] (toR n k l) (.reg [⟨some 12,none,.mov (.s 4)⟩,⟨some 13,none,.bin .add (.s 12) (.c (.t (.int .i64 1)))⟩,⟨some 4,none,.mov (.s 13)⟩] [0,3,4])
def toM(ty n sz k:Nat)(z:KS)(l:Option Nat):MFun:=⟨1,23,[.tmp 2],.seq (.reg [⟨some 2,none,.mov (.c (.t .nil))⟩] [0]) (.seq (.reg [⟨some 5,none,.mov (.s 0)⟩,⟨some 6,none,.len false (.s 5)⟩,⟨some 7,none,.mkslice ty n sz z (.s 6) (.s 6)⟩,⟨some 3,none,.mov (.s 7)⟩] [0,3]) (.seq (.seq (.reg [⟨some 4,none,.mov (.c (.t (.int .i64 0)))⟩] [0,3,4]) (.block 0 (.loop [0,3,4] (toB n k l)))) (.seq (.reg [⟨some 22,none,.mov (.s 3)⟩,⟨some 2,none,.mov (.s 22)⟩] [2]) .ret)))⟩
theorem toG{f ty n sz k:Nat}{z:KS}{l:Option Nat}(ht:tbl f=some (toM ty n sz k z l)){Cx:Xe}(hC:Cx=XJ ext tbl){α:Type}(c:α->KS)(xs:List α)(hl:xs.length<=4294967296)(hs:sz<=4096)
  (hb:∀i (hi:i<xs.length),(fill c z xs i).length=xs.length->IntKind.wrap .i64 ((i:Int)+1)=(i:Int)+1->∀fr,EvL Cx fr [0,3,4] (toB n k l) ⟨[(0,L n (xs.map c)),(3,.own 0),(4,I i)],[[]],[.arr ty n true (fill c z xs i)]⟩=EvL Cx fr [0,3,4] (toB n k l) ⟨[(0,L n (xs.map c)),(3,.own 0),(4,I ((i:Int)+1))],[[]],[.arr ty n true ((fill c z xs i).set i (c xs[i]))]⟩) :
  Cx f [L n (xs.map c)] []=some (.own 0,[.arr ty n true (xs.map c)]):=by
 subst hC;refine ZhZ (h0:=[]) ht rfl ?_;have hq:∀fr,∀i,i<=xs.length->EvL (XJ ext tbl) fr [0,3,4] (toB n k l) ⟨[(0,L n (xs.map c)),(3,.own 0),(4,I i)],[[]],[.arr ty n true (fill c z xs i)]⟩ =
   EvX (XJ ext tbl) fr (.x 0) ⟨[(0,L n (xs.map c)),(3,.own 0),(4,I xs.length),(11,Bo false)],[[]],[.arr ty n true (xs.map c)]⟩:=by
  intro fr;refine down xs.length ?_ ?_
  .rw[Zr (toB.eq_1 n k l)];simp[hdB,Z2S]
  .intro i hi ih;rw[hb i hi (Z2T (Nat.le_of_lt hi)) (ZL (by omega) (by omega)) fr,Z2U hi,<-ih];rfl
 have h1:xs.length*sz<=room:=Yr (Ycb hl hs) (by decide);have h2:(xs.length:Int)<=140737488355328:=by omega
 have h3:=λfr=>hq fr 0 (Yc _)
 simp[Z2R]at h3;simp[toM,h1,h2,h3]
def eqR(n k:Nat)(l:Option Nat):Zc:=.drw [⟨some 17,none,.mov (.s 0)⟩,⟨some 18,none,.mov (.s 5)⟩,⟨some 19,none,.iaddr n (.s 17) (.s 18)⟩,⟨some 20,none,.load l (.s 19)⟩,⟨some 21,none,.mov (.s 1)⟩,⟨some 22,none,.mov (.s 5)⟩,⟨some 23,none,.iaddr n (.s 21) (.s 22)⟩,⟨some 24,none,.load l (.s 23)⟩,⟨some 25,none,.call k [.s 20,.s 24]⟩,⟨some 26,none,.un .not (.s 25)⟩] [[],[],[0,1],[2],[],[],[4,5],[6],[3,7],[8]] [0,1,5,26]
def eqB(n k:Nat)(l:Option Nat):Zc:=hdB 11 12 13 14 5 [0,1,5] (.seq (eqR n k l) (.cond (.s 26) (.seq (.reg [⟨some 4,none,.mov (.c (.t (.bool false)))⟩] [4]) .ret) .skip)) (.reg [⟨some 15,none,.mov (.s 5)⟩,⟨some 16,none,.bin .add (.s 15) (.c (.t (.int .i64 1)))⟩,⟨some 5,none,.mov (.s 16)⟩] [0,1,5])
def eqM(n k:Nat)(l:Option Nat):MFun:=⟨2,27,[.tmp 4],.seq (.reg [⟨some 4,none,.mov (.c (.t (.bool false)))⟩] [0,1]) (.seq (.seq (.reg [⟨some 6,none,.mov (.s 0)⟩,⟨some 7,none,.len false (.s 6)⟩,⟨some 8,none,.mov (.s 1)⟩,⟨some 9,none,.len false (.s 8)⟩,⟨some 10,none,.bin .neq (.s 7) (.s 9)⟩] [0,1,10]) (.cond (.s 10) (.seq (.reg [⟨some 4,none,.mov (.c (.t (.bool false)))⟩] [4]) .ret) .skip)) (.seq (.seq (.reg [⟨some 5,none,.mov (.c (.t (.int .i64 0)))⟩] [0,1,5]) (.block 0 (.loop [0,1,5] (eqB n k l)))) (.seq (.reg [⟨some 4,none,.mov (.c (.t (.bool true)))⟩] [4]) .ret)))⟩
def ldV(l:Option Nat)(x:KS):AV:=match l with
 |some _=>.agg (x.map .t)
 |none=>.t (x.headD .any)
@[simp] theorem ZSk(h:V7):∀xs:KS,Ux h (xs.map .t)=some xs
 |[]=>by simp[Ux]
 |x::xs=>by simp[Ux,ZSk h xs]
@[simp] theorem ZSl:∀xs:KS,ZS (xs.map .t)=[]
 |[]=>by simp[ZS]
 |x::xs=>by simp[ZS,ZSl xs]
theorem eqG{f n k:Nat}{l:Option Nat}(ht:tbl f=some (eqM n k l)){Cx:Xe}(hC:Cx=XJ ext tbl){α:Type}[DecidableEq α](c:α->KS)(xs ys:List α)(hm:xs.length<=4294967296)(hn:∀x,(c x).length=n)(hl:l=some n\/l=none/\n=1)
  (hc:∀x,x∈xs->∀y,Cx k [ldV l (c x),ldV l (c y)] []=some (Bo (decide (x=y)),[])) :
  Cx f [L n (xs.map c),L n (ys.map c)] []=some (Bo (decide (xs=ys)),[]):=by
 subst hC;refine ZhZ (h0:=[]) ht rfl ?_;by_cases he:ys.length=xs.length
 .have hq:∀fr,∀i,i<=xs.length->EvL (XJ ext tbl) fr [0,1,5] (eqB n k l) ⟨[(0,L n (xs.map c)),(1,L n (ys.map c)),(5,I i)],[[]],[]⟩ =
   if xs.drop i=ys.drop i then EvX (XJ ext tbl) fr (.x 0) ⟨[(0,L n (xs.map c)),(1,L n (ys.map c)),(5,I xs.length),(14,Bo false)],[[]],[]⟩else EvX (XJ ext tbl) fr .r ⟨[(4,Bo false)],[[]],[]⟩:=by
   intro fr;refine down xs.length ?_ ?_
   .rw[Zr (eqB.eq_1 n k l)];simp[hdB,he,Ydv]
   .intro i hi ih;have hi2:i<ys.length:=by omega
    have h4:IntKind.wrap .i64 ((i:Int)+1)=(i:Int)+1:=ZL (by omega) (by omega);have h5:=hc xs[i] (Ye hi) ys[i];have h6:=hn xs[i];have h7:=hn ys[i];rw[Zr (eqB.eq_1 n k l)];simp at ih;simp only[Z3a hi hi2,ih];rcases hl with rfl|⟨rfl,rfl⟩
    .simp[ldV]at h5;have h8:(c xs[i]).take n=c xs[i]:=by rw[Ybp (by omega)]
     have h9:(c ys[i]).take n=c ys[i]:=by rw[Ybp (by omega)]
     simp +decide[hdB,eqR,hi,hi2,h4,h5,h6,h7,h8,h9,<-List.map_take];by_cases e1:xs[i]=ys[i]
     .simp[e1];exact ih
     .simp[e1]
    .obtain⟨a,ha⟩:=List.length_eq_one_iff.1 h6;obtain⟨b,hb⟩:=List.length_eq_one_iff.1 h7;simp[ldV,ha,hb]at h5;simp +decide[hdB,eqR,hi,hi2,h4,h5,ha,hb];by_cases e1:xs[i]=ys[i]
     .simp[e1];exact ih
     .simp[e1]
  have h3:=λfr=>hq fr 0 (Yc _)
  simp at h3;simp[eqM,h3,he];split<;>simp_all
 .have h1:xs≠ys:=λh=>he (by rw[h])
  have h2:¬((xs.length:Int)=ys.length):=by omega
  simp[eqM,h1,h2]
def szB(n k:Nat)(l:Option Nat):Zc:=hdB 12 13 14 15 5 [0,1,5] (.seq (.reg [⟨some 18,none,.mov (.s 0)⟩,⟨some 19,none,.mov (.s 5)⟩,⟨some 20,none,.iaddr n (.s 18) (.s 19)⟩,⟨some 21,none,.load l (.s 20)⟩,⟨some 22,none,.mov (.s 1)⟩,⟨some 23,none,.call k [.s 21,.s 22]⟩,⟨some 1,none,.mov (.s 23)⟩] [0,1,5]) (.seq (.reg [⟨some 24,none,.mov (.s 1)⟩,⟨some 25,none,.bin .lss (.s 24) (.c (.t (.int .i64 0)))⟩] [0,1,5,25]) (.cond (.s 25) (.seq (.reg [⟨some 4,none,.mov (.c (.t (.int .i64 (-1))))⟩] [4]) .ret) .skip))) (.reg [⟨some 16,none,.mov (.s 5)⟩,⟨some 17,none,.bin .add (.s 16) (.c (.t (.int .i64 1)))⟩,⟨some 5,none,.mov (.s 17)⟩] [0,1,5])
def szM(n k:Nat)(l:Option Nat):MFun:=⟨2,27,[.tmp 4],.seq (.reg [⟨some 4,none,.mov (.c (.t (.int .i64 0)))⟩] [0,1]) (.seq (.reg [⟨some 6,none,.mov (.s 1)⟩,⟨some 7,none,.mov (.s 0)⟩,⟨some 8,none,.len false (.s 7)⟩,⟨some 9,none,.bin .sub (.s 6) (.s 8)⟩,⟨some 1,none,.mov (.s 9)⟩] [0,1]) (.seq (.seq (.reg [⟨some 10,none,.mov (.s 1)⟩,⟨some 11,none,.bin .lss (.s 10) (.c (.t (.int .i64 0)))⟩] [0,1,11]) (.cond (.s 11) (.seq (.reg [⟨some 4,none,.mov (.c (.t (.int .i64 (-1))))⟩] [4]) .ret) .skip)) (.seq (.seq (.reg [⟨some 5,none,.mov (.c (.t (.int .i64 0)))⟩] [0,1,5]) (.block 0 (.loop [0,1,5] (szB n k l)))) (.seq (.reg [⟨some 26,none,.mov (.s 1)⟩,⟨some 4,none,.mov (.s 26)⟩] [4]) .ret))))⟩
theorem szG{f n k:Nat}{l:Option Nat}(ht:tbl f=some (szM n k l)){Cx:Xe}(hC:Cx=XJ ext tbl){α:Type}(c:α->KS)(g:α->Int->Int)(xs:List α)(cc:Int)(hm:xs.length<=maxLen)(hn:∀x,(c x).length=n)(hl:l=some n\/l=none/\n=1)
  (hc:∀x,x∈xs->∀cc,Cx k [ldV l (c x),I cc] []=some (I (g x cc),[])) :
  Cx f [L n (xs.map c),I cc] []=some (I (szL g xs cc),[]):=by
 subst hC;refine ZhZ (h0:=[]) ht rfl ?_;have hm2:maxLen<=9223372036854775807:=by decide
 have hq:∀fr,∀i,i<=xs.length->∀cc:Int,
  (EvL (XJ ext tbl) fr [0,1,5] (szB n k l) ⟨[(0,L n (xs.map c)),(1,I cc),(5,I i)],[[]],[]⟩=EvX (XJ ext tbl) fr .r ⟨[(4,I (-1))],[[]],[]⟩/\Zaa g (xs.drop i) cc=-1)\/
  EvL (XJ ext tbl) fr [0,1,5] (szB n k l) ⟨[(0,L n (xs.map c)),(1,I cc),(5,I i)],[[]],[]⟩=EvX (XJ ext tbl) fr (.x 0) ⟨[(0,L n (xs.map c)),(1,I (Zaa g (xs.drop i) cc)),(5,I xs.length),(15,Bo false)],[[]],[]⟩:=by
  intro fr;refine down xs.length ?_ ?_
  .intro cc;right;rw[Zr (szB.eq_1 n k l)];simp[hdB,Ydv,Zaa]
  .intro i hi ih cc;have h4:IntKind.wrap .i64 ((i:Int)+1)=(i:Int)+1:=ZL (by omega) (by omega);have h5:=hc xs[i] (Ye hi) cc;have h6:=hn xs[i];have e:EvL (XJ ext tbl) fr [0,1,5] (szB n k l) ⟨[(0,L n (xs.map c)),(1,I cc),(5,I i)],[[]],[]⟩=if g xs[i] cc<0 then EvX (XJ ext tbl) fr .r ⟨[(4,I (-1))],[[]],[]⟩else EvL (XJ ext tbl) fr [0,1,5] (szB n k l) ⟨[(0,L n (xs.map c)),(1,I (g xs[i] cc)),(5,I ((i+1:Nat):Int))],[[]],[]⟩:=by
    rw[Zr (szB.eq_1 n k l)];rcases hl with rfl|⟨rfl,rfl⟩
    .simp[ldV]at h5;have h8:(c xs[i]).take n=c xs[i]:=by rw[Ybp (by omega)]
     simp[hdB,hi,h4,h5,h6,h8,<-List.map_take]
    .obtain⟨a,ha⟩:=List.length_eq_one_iff.1 h6;simp[ldV,ha]at h5;simp[hdB,hi,h4,h5,ha]
   rw[e,Yi hi,Zaa];split
   .exact .inl ⟨rfl,rfl⟩
   .exact ih _
 have h3:=λfr l=>hq fr 0 (Yc _) l
 simp at h3;simp[szM,szL,ZV,sz1];split
 .simp_all
 .rcases h3 [.blk 0,.seq _,.fin _ _] (IntKind.wrap .i64 (cc-xs.length))with⟨h5,h6⟩|h5
  .rw[h5];simp[h6]
  .rw[h5];simp
end Go.AM
namespace Go.Proofs.YthpdbpfamhcgiaaGreat
open Go.AM
noncomputable section
def ZSm(xs:V6)(h:SmA xs)(fr:List Fr):∀i,i<=xs.length->EvL C fr [0,3,4] Zqs ⟨[(0,L 1 (xs.map ic)),(3,.own 0),(4,I i)],[[]],[.arr Xm 1 true (fill ic [.int .i64 0] xs i)]⟩ =
  EvX C fr (.x 0) ⟨[(0,L 1 (xs.map ic)),(3,.own 0),(4,I xs.length),(11,Bo false)],[[]],[.arr Xm 1 true (xs.map ic)]⟩:=by
 have hl:xs.length<=4294967296:=h;refine down xs.length ?_ ?_
 .rw[Zr Zqs.eq_1];simp[Z2S]
 .intro i hi ih;rw[Zr Zqs.eq_1,<-ih];have h1:=Z2U (f:=ic) (z:=[.int .i64 0]) hi;have h3:=Z2T (f:=ic) (z:=[.int .i64 0]) (Nat.le_of_lt hi);have h4:IntKind.wrap .i64 ((i:Int)+1)=(i:Int)+1:=ZL (by omega) (by omega);simp at h1;simp[hi,h3,h4,h1]
def ZaZ(xs:V6)(h:SmA xs):C ZFP [L 1 (xs.map ic)] []=some (.own 0,[.arr Xm 1 true (xs.map ic)]):=by
 refine run ZR9 rfl ?_;have hl:xs.length<=4294967296:=h;have h1:∀b,b<=4096->xs.length*b<=room:=λb hb=>Yr (Ycb hl hb) (by decide)
 have h2:(xs.length:Int)<=140737488355328:=by omega
 have h3:=λfr=>ZSm xs h fr 0 (Yc _)
 simp[Z2R]at h3;simp[ZCX,h1,h2,h3]
def ZSn(xs ys:V6)(h:SmA xs)(hl:ys.length=xs.length)(fr:List Fr):∀i,i<=xs.length->EvL C fr [0,1,5] Zqt ⟨[(0,L 1 (xs.map ic)),(1,L 1 (ys.map ic)),(5,I i)],[[]],[]⟩ =
  if xs.drop i=ys.drop i then EvX C fr (.x 0) ⟨[(0,L 1 (xs.map ic)),(1,L 1 (ys.map ic)),(5,I xs.length),(14,Bo false)],[[]],[]⟩else EvX C fr .r ⟨[(4,Bo false)],[[]],[]⟩:=by
 have hm:xs.length<=4294967296:=h;refine down xs.length ?_ ?_
 .rw[Zr Zqt.eq_1];simp[hl,Ydv]
 .intro i hi ih;have hi2:i<ys.length:=by omega
  have h4:IntKind.wrap .i64 ((i:Int)+1)=(i:Int)+1:=ZL (by omega) (by omega);rw[Zr Zqt.eq_1];simp +decide[hi,hi2,h4];simp at ih;simp only[Z3a hi hi2,ih];split<;>first|(simp_all;done)|grind
def Zba(xs ys:V6)(h:SmA xs):C ZGb [L 1 (xs.map ic),L 1 (ys.map ic)] []=some (Bo (decide (xs=ys)),[]):=by
 refine run ZRF rfl ?_;by_cases hl:ys.length=xs.length
 .have h3:=λfr=>ZSn xs ys h hl fr 0 (Yc _)
  simp at h3;simp[Z10,h3,hl];split<;>simp_all
 .have h1:xs≠ys:=λh=>hl (by rw[h])
  have h2:¬((xs.length:Int)=ys.length):=by omega
  simp[Z10,h1,h2]
@[simp] def Ze1(es:V5)(c:Int):C ZFD [L 1 es,I c] []=some (I (sz1 es.length c),[]):=by
 refine run ZR2 rfl ?_;simp[ZCP,sz1];split<;>simp_all
def ZSo:tbl 68=some (toM 40 1 24 66 [(.lst 1 [])] none):=Zh Tryz.func68 (by kernel_rfl) (by kernel_rfl)
def Zqu(xs:V4)(h:SmL SmA xs):C ZFR [L 1 (xs.map isc)] []=some (.own 0,[.arr Zbn 1 true (xs.map isc)]) :=
 toG (Cx:=C) ZSo rfl _ xs h.1 (by decide) λi hi h3 h4 fr=>by rw[Zr (toB.eq_1 _ _ _)];simp[hdB,toR,hi,h3,h4,ZaZ _ (h.2 _ (Ye hi))]
def ZSp:tbl 91=some (eqM 1 89 none):=Zh Tryz.func91 (by kernel_rfl) (by kernel_rfl)
def Zqv(xs ys:V4)(h:SmL SmA xs):C ZGd [L 1 (xs.map isc),L 1 (ys.map isc)] []=some (Bo (decide (xs=ys)),[]) :=
 eqG (Cx:=C) ZSp rfl _ xs ys h.1 (λ_=>rfl) (by decide) (λx hx y=>by simp[ldV,Zba _ _ (h.2 x hx)])
def ZSq:tbl 42=some (szM 1 40 none):=Zh Tryz.func42 (by kernel_rfl) (by kernel_rfl)
def Zqw(xs:V4)(c:Int)(h:OkL (OkL OkI) xs):C ZFF [L 1 (xs.map isc),I c] []=some (I (szL szI xs c),[]) :=
 szG (Cx:=C) ZSq rfl _ _ xs c h.1 (λ_=>rfl) (by decide) (λx hx l=>by simp[ldV,Ze1])
def ZSr(x0:YA)(x1:Int)(x2:V4)(h2:SmL SmA x2):C ZG7 [.agg [.t (.str x0),I x1,.t (tII x2)]] []=some (.agg [.t (.str x0),I x1,.own 0],[.arr Zbn 1 true (x2.map isc)]):=by
 refine run ZSa rfl ?_;simp[ZDy,Zqu _ h2]
def ZSs(x0:YA)(x1:Int)(x2:V4)(y0:YA)(y1:Int)(y2:V4)(h2:SmL SmA x2):C ZGB [.agg [.t (.str x0),I x1,.t (tII x2)],.agg [.t (.str y0),I y1,.t (tII y2)]] []=some (Bo (decide (x0=y0/\x1=y1/\x2=y2)),[]):=by
 refine run ZSd rfl ?_;simp[ZD1,Zqv _ _ h2]
 repeat' split
 all_goals first|(simp_all;done)|grind
def ZSt(x0:YA)(x1:Int)(x2:V4)(c:Int)(h2:OkL (OkL OkI) x2):C ZG3 [.agg [.t (.str x0),I x1,.t (tII x2)],I c] []=some (I (Zt.sz ⟨x0,x1,x2⟩ c),[]):=by
 refine run ZRW rfl ?_;simp[ZDu,Zqw _ _ h2,Zt.sz,ZV,sz1]
 repeat' split
 all_goals first|(simp_all;done)|grind
def ZSu:tbl 146=some (toM 209 3 48 239 [(.str ⟨#[]⟩),(.int .i64 0),(.lst 1 [])] (some 3)):=Zh Tryz.func146 (by kernel_rfl) (by kernel_rfl)
def ZSv(xs:List Zt)(h:SmL Zt.small xs):C ZGo [L 3 (xs.map Zt.c)] []=some (.own 0,[.arr Zrl 3 true (xs.map Zt.c)]) :=
 toG (Cx:=C) ZSu rfl _ xs h.1 (by decide) λi hi h3 h4 fr=>by rw[Zr (toB.eq_1 _ _ _)];simp[hdB,toR,hi,h3,h4,ZSr _ _ _ (h.2 _ (Ye hi)).2]
def ZSw:tbl 172=some (eqM 3 265 (some 3)):=Zh Tryz.func172 (by kernel_rfl) (by kernel_rfl)
def ZSx(xs ys:List Zt)(h:SmL Zt.small xs):C ZGw [L 3 (xs.map Zt.c),L 3 (ys.map Zt.c)] []=some (Bo (decide (xs=ys)),[]) :=
 eqG (Cx:=C) ZSw rfl _ xs ys h.1 (λ_=>rfl) (by decide) (λx hx y=>by simp[ldV,ZSs _ _ _ _ _ _ (h.2 x hx).2,Zt.ext_iff,Bool.and_assoc])
def ZSy:tbl 121=some (szM 3 217 (some 3)):=Zh Tryz.func121 (by kernel_rfl) (by kernel_rfl)
def ZSz(xs:List Zt)(cc:Int)(h:OkL Zt.okay xs):C ZGh [L 3 (xs.map Zt.c),I cc] []=some (I (szL Zt.sz xs cc),[]) :=
 szG (Cx:=C) ZSy rfl _ _ xs cc h.1 (λ_=>rfl) (by decide) (λx hx l=>by simp[ldV,ZSt _ _ _ _ (h.2 x hx).2.2])
def ZS0(x0:List Zt)(h0:SmL Zt.small x0):C ZFJ [.agg [.t (.lst 3 (x0.map Zt.c))]] []=some (.agg [.own 0],[.arr Zrl 3 true (x0.map Zt.c)]):=by
 refine run ZR6 rfl ?_;simp[ZCT,ZSv _ h0]
def ZS1(x0 y0:List Zt)(h0:SmL Zt.small x0):C ZFV [.agg [.t (.lst 3 (x0.map Zt.c))],.agg [.t (.lst 3 (y0.map Zt.c))]] []=some (Bo (decide (x0=y0)),[]):=by
 refine run ZRC rfl ?_;simp[ZDa,ZSx _ _ h0]
 repeat' split
 all_goals first|(simp_all;done)|grind
def ZS2(x0:List Zt)(cc:Int)(h0:OkL Zt.okay x0):C ZF7 [.agg [.t (.lst 3 (x0.map Zt.c))],I cc] []=some (I (Zp.sz ⟨x0⟩ cc),[]):=by
 refine run ZRz rfl ?_;simp[ZCM,ZSz _ _ h0,Zp.sz,ZV,sz1]
 repeat' split
 all_goals first|(simp_all;done)|grind
def ZS3(x0:YA)(x1:V6)(h1:SmA x1):C ZGs [.agg [.t (.str x0),.t (tI x1)]] []=some (.agg [.t (.str x0),.own 0],[.arr Xm 1 true (x1.map ic)]):=by
 refine run ZRO rfl ?_;simp[ZDm,ZaZ _ h1]
def ZS4(x0:YA)(x1:V6)(y0:YA)(y1:V6)(h1:SmA x1):C ZG0 [.agg [.t (.str x0),.t (tI x1)],.agg [.t (.str y0),.t (tI y1)]] []=some (Bo (decide (x0=y0/\x1=y1)),[]):=by
 refine run ZRT rfl ?_;simp[ZDr,Zba _ _ h1]
 repeat' split
 all_goals first|(simp_all;done)|grind
def ZS5(x0:YA)(x1:V6)(c:Int) :C ZGl [.agg [.t (.str x0),.t (tI x1)],I c] []=some (I (Ze.sz ⟨x0,x1⟩ c),[]):=by
 refine run ZRK rfl ?_;simp[ZDi,Ze1,Ze.sz,ZV,sz1]
 repeat' split
 all_goals first|(simp_all;done)|grind
def ZS6:tbl 64=some (toM 212 2 40 150 [(.str ⟨#[]⟩),(.lst 1 [])] (some 2)):=Zh Tryz.func64 (by kernel_rfl) (by kernel_rfl)
def ZS7(xs:List Ze)(h:SmL Ze.small xs):C ZFN [L 2 (xs.map Ze.c)] []=some (.own 0,[.arr Z30 2 true (xs.map Ze.c)]) :=
 toG (Cx:=C) ZS6 rfl _ xs h.1 (by decide) λi hi h3 h4 fr=>by rw[Zr (toB.eq_1 _ _ _)];simp[hdB,toR,hi,h3,h4,ZS3 _ _ (h.2 _ (Ye hi)).2]
def ZS8:tbl 87=some (eqM 2 176 (some 2)):=Zh Tryz.func87 (by kernel_rfl) (by kernel_rfl)
def ZS9(xs ys:List Ze)(h:SmL Ze.small xs):C ZFZ [L 2 (xs.map Ze.c),L 2 (ys.map Ze.c)] []=some (Bo (decide (xs=ys)),[]) :=
 eqG (Cx:=C) ZS8 rfl _ xs ys h.1 (λ_=>rfl) (by decide) (λx hx y=>by simp[ldV,ZS4 _ _ _ _ (h.2 x hx).2,Ze.ext_iff,Bool.and_assoc])
def ZSA:tbl 38=some (szM 2 125 (some 2)):=Zh Tryz.func38 (by kernel_rfl) (by kernel_rfl)
def ZSB(xs:List Ze)(cc:Int)(h:OkL Ze.okay xs):C ZFB [L 2 (xs.map Ze.c),I cc] []=some (I (szL Ze.sz xs cc),[]) :=
 szG (Cx:=C) ZSA rfl _ _ xs cc h.1 (λ_=>rfl) (by decide) (λx hx l=>by simp[ldV,ZS5])
def ZSC(x0:Int)(x1:List Ze)(h1:SmL Ze.small x1):C ZFy [.agg [I x0,.t (.lst 2 (x1.map Ze.c))]] []=some (.agg [I x0,.own 0],[.arr Z30 2 true (x1.map Ze.c)]):=by
 refine run ZRq rfl ?_;simp[ZCD,ZS7 _ h1]
def ZSD(x0:Int)(x1:List Ze)(y0:Int)(y1:List Ze)(h1:SmL Ze.small x1):C ZF3 [.agg [I x0,.t (.lst 2 (x1.map Ze.c))],.agg [I y0,.t (.lst 2 (y1.map Ze.c))]] []=some (Bo (decide (x0=y0/\x1=y1)),[]):=by
 refine run ZRv rfl ?_;simp[ZCI,ZS9 _ _ h1]
 repeat' split
 all_goals first|(simp_all;done)|grind
def ZSE(x0:Int)(x1:List Ze)(cc:Int)(h1:OkL Ze.okay x1):C ZFt [.agg [I x0,.t (.lst 2 (x1.map Ze.c))],I cc] []=some (I (Zf.sz ⟨x0,x1⟩ cc),[]):=by
 refine run ZRl rfl ?_;simp[ZC8,ZSB _ _ h1,Zf.sz,ZV,sz1]
 repeat' split
 all_goals first|(simp_all;done)|grind
def ZSF(x0:V6)(x1:V4)(h0:SmA x0)(h1:SmL SmA x1):C ZFS [.agg [.t (tI x0),.t (tII x1)]] []=some (.agg [.own 0,.own 1],[.arr Xm 1 true (x0.map ic),.arr Zbn 1 true (x1.map isc)]):=by
 refine run ZRA rfl ?_;simp[ZCY,ZaZ _ h0,Zqu _ h1]
def ZSG(x0:V6)(x1:V4)(y0:V6)(y1:V4)(h0:SmA x0)(h1:SmL SmA x1):C ZGe [.agg [.t (tI x0),.t (tII x1)],.agg [.t (tI y0),.t (tII y1)]] []=some (Bo (decide (x0=y0/\x1=y1)),[]):=by
 refine run ZRG rfl ?_;simp[ZDe,Zba _ _ h0,Zqv _ _ h1]
 repeat' split
 all_goals first|(simp_all;done)|grind
def ZSH(x0:V6)(x1:V4)(c:Int)(h1:OkL (OkL OkI) x1):C ZFG [.agg [.t (tI x0),.t (tII x1)],I c] []=some (I (ZW.sz ⟨x0,x1⟩ c),[]):=by
 refine run ZR3 rfl ?_;simp[ZCQ,Ze1,Zqw _ _ h1,ZW.sz,ZV,sz1]
 repeat' split
 all_goals first|(simp_all;done)|grind
def ZSI(x0:YA)(x1:V6)(x2:Int)(h1:SmA x1):C ZGq [.agg [.t (.str x0),.t (tI x1),I x2]] []=some (.agg [.t (.str x0),.own 0,I x2],[.arr Xm 1 true (x1.map ic)]):=by
 refine run ZRM rfl ?_;simp[ZDk,ZaZ _ h1]
def ZSJ(x0:YA)(x1:V6)(x2:Int)(y0:YA)(y1:V6)(y2:Int)(h1:SmA x1):C ZGy [.agg [.t (.str x0),.t (tI x1),I x2],.agg [.t (.str y0),.t (tI y1),I y2]] []=some (Bo (decide (x0=y0/\x1=y1/\x2=y2)),[]):=by
 refine run ZRR rfl ?_;simp[ZDp,Zba _ _ h1]
 repeat' split
 all_goals first|(simp_all;done)|grind
def ZSK(x0:YA)(x1:V6)(x2 c:Int) :C ZGj [.agg [.t (.str x0),.t (tI x1),I x2],I c] []=some (I (ZA.sz ⟨x0,x1,x2⟩ c),[]):=by
 refine run ZRI rfl ?_;simp[ZDg,Ze1,ZA.sz,ZV,sz1]
 repeat' split
 all_goals first|(simp_all;done)|grind
def ZSL(x0:YA)(x1:Int)(x2:YA)(x3:Int) :C ZGr [.agg [.t (.str x0),I x1,.t (.str x2),I x3]] []=some (.agg [.t (.str x0),I x1,.t (.str x2),I x3],[]):=by
 refine run ZRN rfl ?_;simp[ZDl]
def ZSM(x0:YA)(x1:Int)(x2:YA)(x3:Int)(y0:YA)(y1:Int)(y2:YA)(y3:Int) :C ZGz [.agg [.t (.str x0),I x1,.t (.str x2),I x3],.agg [.t (.str y0),I y1,.t (.str y2),I y3]] []=some (Bo (decide (x0=y0/\x1=y1/\x2=y2/\x3=y3)),[]):=by
 refine run ZRS rfl ?_;simp[ZDq]
 repeat' split
 all_goals first|(simp_all;done)|grind
def ZSN(x0:YA)(x1:Int)(x2:YA)(x3 c:Int) :C ZGk [.agg [.t (.str x0),I x1,.t (.str x2),I x3],I c] []=some (I (Z7.sz ⟨x0,x1,x2,x3⟩ c),[]):=by
 refine run ZRJ rfl ?_;simp[ZDh,Z7.sz,ZV,sz1]
 repeat' split
 all_goals first|(simp_all;done)|grind
def ZSO(x0:V6)(x1:V4)(x2:V6)(h0:SmA x0)(h1:SmL SmA x1)(h2:SmA x2):C ZGK [.agg [.t (tI x0),.t (tII x1),.t (tI x2)]] []=some (.agg [.own 0,.own 1,.own 2],[.arr Xm 1 true (x0.map ic),.arr Zbn 1 true (x1.map isc),.arr Xm 1 true (x2.map ic)]):=by
 refine run ZSi rfl ?_;simp[ZD6,ZaZ _ h0,Zqu _ h1,ZaZ _ h2]
def ZSP(x0:V6)(x1:V4)(x2 y0:V6)(y1:V4)(y2:V6)(h0:SmA x0)(h1:SmL SmA x1)(h2:SmA x2):C ZGL [.agg [.t (tI x0),.t (tII x1),.t (tI x2)],.agg [.t (tI y0),.t (tII y1),.t (tI y2)]] []=some (Bo (decide (x0=y0/\x1=y1/\x2=y2)),[]):=by
 refine run ZSj rfl ?_;simp[ZD7,Zba _ _ h0,Zqv _ _ h1,Zba _ _ h2]
 repeat' split
 all_goals first|(simp_all;done)|grind
def ZSQ(x0:V6)(x1:V4)(x2:V6)(c:Int)(h1:OkL (OkL OkI) x1):C ZGJ [.agg [.t (tI x0),.t (tII x1),.t (tI x2)],I c] []=some (I (ZC.sz ⟨x0,x1,x2⟩ c),[]):=by
 refine run ZSh rfl ?_;simp[ZD5,Ze1,Zqw _ _ h1,ZC.sz,ZV,sz1]
 repeat' split
 all_goals first|(simp_all;done)|grind
def ZSR:tbl 318=some (toM 389 3 72 373 [(.lst 1 []),(.lst 1 []),(.lst 1 [])] (some 3)):=Zh Tryz.func318 (by kernel_rfl) (by kernel_rfl)
def ZSS(xs:List ZC)(h:SmL ZC.small xs):C ZGF [L 3 (xs.map ZC.c)] []=some (.own 0,[.arr Z34 3 true (xs.map ZC.c)]) :=
 toG (Cx:=C) ZSR rfl _ xs h.1 (by decide) λi hi h3 h4 fr=>by rw[Zr (toB.eq_1 _ _ _)];simp[hdB,toR,hi,h3,h4,ZSO _ _ _ (h.2 _ (Ye hi)).1 (h.2 _ (Ye hi)).2.1 (h.2 _ (Ye hi)).2.2]
def ZST:tbl 338=some (eqM 3 386 (some 3)):=Zh Tryz.func338 (by kernel_rfl) (by kernel_rfl)
def ZSU(xs ys:List ZC)(h:SmL ZC.small xs):C ZGH [L 3 (xs.map ZC.c),L 3 (ys.map ZC.c)] []=some (Bo (decide (xs=ys)),[]) :=
 eqG (Cx:=C) ZST rfl _ xs ys h.1 (λ_=>rfl) (by decide) (λx hx y=>by simp[ldV,ZSP _ _ _ _ _ _ (h.2 x hx).1 (h.2 x hx).2.1 (h.2 x hx).2.2,ZC.ext_iff,Bool.and_assoc])
def ZSV:tbl 304=some (szM 3 365 (some 3)):=Zh Tryz.func304 (by kernel_rfl) (by kernel_rfl)
def ZSW(xs:List ZC)(cc:Int)(h:OkL ZC.okay xs):C ZGE [L 3 (xs.map ZC.c),I cc] []=some (I (szL ZC.sz xs cc),[]) :=
 szG (Cx:=C) ZSV rfl _ _ xs cc h.1 (λ_=>rfl) (by decide) (λx hx l=>by simp[ldV,ZSQ _ _ _ _ (h.2 x hx).2.1])
def ZSX(x0:YA)(x1 x2:Int)(x3:List ZC)(h3:SmL ZC.small x3):C ZG8 [.agg [.t (.str x0),I x1,I x2,.t (.lst 3 (x3.map ZC.c))]] []=some (.agg [.t (.str x0),I x1,I x2,.own 0],[.arr Z34 3 true (x3.map ZC.c)]):=by
 refine run ZSb rfl ?_;simp[ZDz,ZSS _ h3]
def ZSY(x0:YA)(x1 x2:Int)(x3:List ZC)(y0:YA)(y1 y2:Int)(y3:List ZC)(h3:SmL ZC.small x3):C ZGC [.agg [.t (.str x0),I x1,I x2,.t (.lst 3 (x3.map ZC.c))],.agg [.t (.str y0),I y1,I y2,.t (.lst 3 (y3.map ZC.c))]] []=some (Bo (decide (x0=y0/\x1=y1/\x2=y2/\x3=y3)),[]):=by
 refine run ZSe rfl ?_;simp[ZD2,ZSU _ _ h3]
 repeat' split
 all_goals first|(simp_all;done)|grind
def ZSZ(x0:YA)(x1 x2:Int)(x3:List ZC)(cc:Int)(h3:OkL ZC.okay x3):C ZG4 [.agg [.t (.str x0),I x1,I x2,.t (.lst 3 (x3.map ZC.c))],I cc] []=some (I (Z5.sz ⟨x0,x1,x2,x3⟩ cc),[]):=by
 refine run ZRX rfl ?_;simp[ZDv,ZSW _ _ h3,Z5.sz,ZV,sz1]
 repeat' split
 all_goals first|(simp_all;done)|grind
def ZTa:tbl 147=some (toM 314 4 56 240 [(.str ⟨#[]⟩),(.int .i64 0),(.int .i64 0),(.lst 3 [])] (some 4)):=Zh Tryz.func147 (by kernel_rfl) (by kernel_rfl)
def ZTb(xs:List Z5)(h:SmL Z5.small xs):C ZGp [L 4 (xs.map Z5.c)] []=some (.own 0,[.arr Zrm 4 true (xs.map Z5.c)]) :=
 toG (Cx:=C) ZTa rfl _ xs h.1 (by decide) λi hi h3 h4 fr=>by rw[Zr (toB.eq_1 _ _ _)];simp[hdB,toR,hi,h3,h4,ZSX _ _ _ _ (h.2 _ (Ye hi)).2]
def ZTc:tbl 173=some (eqM 4 266 (some 4)):=Zh Tryz.func173 (by kernel_rfl) (by kernel_rfl)
def ZTd(xs ys:List Z5)(h:SmL Z5.small xs):C ZGx [L 4 (xs.map Z5.c),L 4 (ys.map Z5.c)] []=some (Bo (decide (xs=ys)),[]) :=
 eqG (Cx:=C) ZTc rfl _ xs ys h.1 (λ_=>rfl) (by decide) (λx hx y=>by simp[ldV,ZSY _ _ _ _ _ _ _ _ (h.2 x hx).2,Z5.ext_iff,Bool.and_assoc])
def ZTe:tbl 122=some (szM 4 218 (some 4)):=Zh Tryz.func122 (by kernel_rfl) (by kernel_rfl)
def ZTf(xs:List Z5)(cc:Int)(h:OkL Z5.okay xs):C ZGi [L 4 (xs.map Z5.c),I cc] []=some (I (szL Z5.sz xs cc),[]) :=
 szG (Cx:=C) ZTe rfl _ _ xs cc h.1 (λ_=>rfl) (by decide) (λx hx l=>by simp[ldV,ZSZ _ _ _ _ _ (h.2 x hx).2.2.2])
def ZTg(x0:Int)(x1:List Z5)(h1:SmL Z5.small x1):C ZFK [.agg [I x0,.t (.lst 4 (x1.map Z5.c))]] []=some (.agg [I x0,.own 0],[.arr Zrm 4 true (x1.map Z5.c)]):=by
 refine run ZR7 rfl ?_;simp[ZCU,ZTb _ h1]
def ZTh(x0:Int)(x1:List Z5)(y0:Int)(y1:List Z5)(h1:SmL Z5.small x1):C ZFW [.agg [I x0,.t (.lst 4 (x1.map Z5.c))],.agg [I y0,.t (.lst 4 (y1.map Z5.c))]] []=some (Bo (decide (x0=y0/\x1=y1)),[]):=by
 refine run ZRD rfl ?_;simp[ZDb,ZTd _ _ h1]
 repeat' split
 all_goals first|(simp_all;done)|grind
def ZTi(x0:Int)(x1:List Z5)(cc:Int)(h1:OkL Z5.okay x1):C ZF8 [.agg [I x0,.t (.lst 4 (x1.map Z5.c))],I cc] []=some (I (ZN.sz ⟨x0,x1⟩ cc),[]):=by
 refine run ZR0 rfl ?_;simp[ZCN,ZTf _ _ h1,ZN.sz,ZV,sz1]
 repeat' split
 all_goals first|(simp_all;done)|grind
def ZTj:tbl 62=some (toM 228 3 48 148 [(.str ⟨#[]⟩),(.lst 1 []),(.int .i64 0)] (some 3)):=Zh Tryz.func62 (by kernel_rfl) (by kernel_rfl)
def ZTk(xs:List ZA)(h:SmL ZA.small xs):C ZFL [L 3 (xs.map ZA.c)] []=some (.own 0,[.arr Z31 3 true (xs.map ZA.c)]) :=
 toG (Cx:=C) ZTj rfl _ xs h.1 (by decide) λi hi h3 h4 fr=>by rw[Zr (toB.eq_1 _ _ _)];simp[hdB,toR,hi,h3,h4,ZSI _ _ _ (h.2 _ (Ye hi)).2]
def ZTl:tbl 85=some (eqM 3 174 (some 3)):=Zh Tryz.func85 (by kernel_rfl) (by kernel_rfl)
def ZTm(xs ys:List ZA)(h:SmL ZA.small xs):C ZFX [L 3 (xs.map ZA.c),L 3 (ys.map ZA.c)] []=some (Bo (decide (xs=ys)),[]) :=
 eqG (Cx:=C) ZTl rfl _ xs ys h.1 (λ_=>rfl) (by decide) (λx hx y=>by simp[ldV,ZSJ _ _ _ _ _ _ (h.2 x hx).2,ZA.ext_iff,Bool.and_assoc])
def ZTn:tbl 36=some (szM 3 123 (some 3)):=Zh Tryz.func36 (by kernel_rfl) (by kernel_rfl)
def ZTo(xs:List ZA)(cc:Int)(h:OkL ZA.okay xs):C ZF9 [L 3 (xs.map ZA.c),I cc] []=some (I (szL ZA.sz xs cc),[]) :=
 szG (Cx:=C) ZTn rfl _ _ xs cc h.1 (λ_=>rfl) (by decide) (λx hx l=>by simp[ldV,ZSK])
def ZTp:tbl 63=some (toM 230 4 48 149 [(.str ⟨#[]⟩),(.int .i64 0),(.str ⟨#[]⟩),(.int .i64 0)] (some 4)):=Zh Tryz.func63 (by kernel_rfl) (by kernel_rfl)
def ZTq(xs:List Z7)(h:SmL Z7.small xs):C ZFM [L 4 (xs.map Z7.c)] []=some (.own 0,[.arr Z32 4 true (xs.map Z7.c)]) :=
 toG (Cx:=C) ZTp rfl _ xs h.1 (by decide) λi hi h3 h4 fr=>by rw[Zr (toB.eq_1 _ _ _)];simp[hdB,toR,hi,h3,h4,ZSL _ _ _ _ ]
def ZTr:tbl 86=some (eqM 4 175 (some 4)):=Zh Tryz.func86 (by kernel_rfl) (by kernel_rfl)
def ZTs(xs ys:List Z7)(h:SmL Z7.small xs):C ZFY [L 4 (xs.map Z7.c),L 4 (ys.map Z7.c)] []=some (Bo (decide (xs=ys)),[]) :=
 eqG (Cx:=C) ZTr rfl _ xs ys h.1 (λ_=>rfl) (by decide) (λx hx y=>by simp[ldV,ZSM _ _ _ _ _ _ _ _ ,Z7.ext_iff,Bool.and_assoc])
def ZTt:tbl 37=some (szM 4 124 (some 4)):=Zh Tryz.func37 (by kernel_rfl) (by kernel_rfl)
def ZTu(xs:List Z7)(cc:Int)(h:OkL Z7.okay xs):C ZFA [L 4 (xs.map Z7.c),I cc] []=some (I (szL Z7.sz xs cc),[]) :=
 szG (Cx:=C) ZTt rfl _ _ xs cc h.1 (λ_=>rfl) (by decide) (λx hx l=>by simp[ldV,ZSN])
def ZTv(x0:List Zt)(x1:Int)(x2:List Z5)(x3:List ZA)(x4:List Z7)(h0:SmL Zt.small x0)(h2:SmL Z5.small x2)(h3:SmL ZA.small x3)(h4:SmL Z7.small x4):C ZFx [.agg [.t (.lst 3 (x0.map Zt.c)),I x1,.t (.lst 4 (x2.map Z5.c)),.t (.lst 3 (x3.map ZA.c)),.t (.lst 4 (x4.map Z7.c))]] []=some (.agg [.own 0,I x1,.own 1,.own 2,.own 3],[.arr Zrl 3 true (x0.map Zt.c),.arr Zrm 4 true (x2.map Z5.c),.arr Z31 3 true (x3.map ZA.c),.arr Z32 4 true (x4.map Z7.c)]):=by
 refine run ZRp rfl ?_;simp[ZCC,ZS0 _ h0,ZTg _ _ h2,ZTk _ h3,ZTq _ h4]
def ZTw(x0:List Zt)(x1:Int)(x2:List Z5)(x3:List ZA)(x4:List Z7)(y0:List Zt)(y1:Int)(y2:List Z5)(y3:List ZA)(y4:List Z7)(h0:SmL Zt.small x0)(h2:SmL Z5.small x2)(h3:SmL ZA.small x3)(h4:SmL Z7.small x4):C ZF2 [.agg [.t (.lst 3 (x0.map Zt.c)),I x1,.t (.lst 4 (x2.map Z5.c)),.t (.lst 3 (x3.map ZA.c)),.t (.lst 4 (x4.map Z7.c))],.agg [.t (.lst 3 (y0.map Zt.c)),I y1,.t (.lst 4 (y2.map Z5.c)),.t (.lst 3 (y3.map ZA.c)),.t (.lst 4 (y4.map Z7.c))]] []=some (Bo (decide (x0=y0/\x1=y1/\x2=y2/\x3=y3/\x4=y4)),[]):=by
 refine run ZRu rfl ?_;simp[ZCH,ZS1 _ _ h0,ZTh _ _ _ _ h2,ZTm _ _ h3,ZTs _ _ h4]
 repeat' split
 all_goals first|(simp_all;done)|grind
def ZTx(x0:List Zt)(x1:Int)(x2:List Z5)(x3:List ZA)(x4:List Z7)(cc:Int)(h0:OkL Zt.okay x0)(h2:OkL Z5.okay x2)(h3:OkL ZA.okay x3)(h4:OkL Z7.okay x4):C ZFs [.agg [.t (.lst 3 (x0.map Zt.c)),I x1,.t (.lst 4 (x2.map Z5.c)),.t (.lst 3 (x3.map ZA.c)),.t (.lst 4 (x4.map Z7.c))],I cc] []=some (I (Xr.sz ⟨⟨x0⟩,⟨x1,x2⟩,x3,x4⟩ cc),[]):=by
 refine run ZRk rfl ?_;simp[ZC7,ZS2 _ _ h0,ZTi _ _ _ h2,ZTo _ _ h3,ZTu _ _ h4,Xr.sz,ZV,sz1]
 repeat' split
 all_goals first|(simp_all;done)|grind
def ZD8(x0 x1:V6)(h0:SmA x0)(h1:SmA x1):C ZFO [.agg [.t (tI x0),.t (tI x1)]] []=some (.agg [.own 0,.own 1],[.arr Xm 1 true (x0.map ic),.arr Xm 1 true (x1.map ic)]):=by
 refine run ZR8 rfl ?_;simp[ZCV,ZaZ _ h0,ZaZ _ h1]
def ZD9(x0 x1 y0 y1:V6)(h0:SmA x0)(h1:SmA x1):C ZGa [.agg [.t (tI x0),.t (tI x1)],.agg [.t (tI y0),.t (tI y1)]] []=some (Bo (decide (x0=y0/\x1=y1)),[]):=by
 refine run ZRE rfl ?_;simp[ZDc,Zba _ _ h0,Zba _ _ h1]
 repeat' split
 all_goals first|(simp_all;done)|grind
def ZDA(x0 x1:V6)(c:Int) :C ZFC [.agg [.t (tI x0),.t (tI x1)],I c] []=some (I (Box.sz ⟨x0,x1⟩ c),[]):=by
 refine run ZR1 rfl ?_;simp[ZCO,Ze1,Box.sz,ZV,sz1]
 repeat' split
 all_goals first|(simp_all;done)|grind
def ZTy(x0 x1:Int) :C ZG6 [.agg [I x0,I x1]] []=some (.agg [I x0,I x1],[]):=by
 refine run ZRZ rfl ?_;simp[ZDx]
def ZTz(x0 x1 y0 y1:Int) :C ZGA [.agg [I x0,I x1],.agg [I y0,I y1]] []=some (Bo (decide (x0=y0/\x1=y1)),[]):=by
 refine run ZSc rfl ?_;simp[ZD0]
 repeat' split
 all_goals first|(simp_all;done)|grind
def ZT0:tbl 145=some (toM 308 2 16 238 [(.int .i64 0),(.int .i64 0)] (some 2)):=Zh Tryz.func145 (by kernel_rfl) (by kernel_rfl)
def ZT1(xs:List Zx)(h:SmA xs):C ZGn [L 2 (xs.map Zx.c)] []=some (.own 0,[.arr ZcD 2 true (xs.map Zx.c)]) :=
 toG (Cx:=C) ZT0 rfl _ xs h (by decide) λi hi h3 h4 fr=>by rw[Zr (toB.eq_1 _ _ _)];simp[hdB,toR,hi,h3,h4,ZTy]
def ZT2:tbl 171=some (eqM 2 264 (some 2)):=Zh Tryz.func171 (by kernel_rfl) (by kernel_rfl)
def ZT3(xs ys:List Zx)(h:SmA xs):C ZGv [L 2 (xs.map Zx.c),L 2 (ys.map Zx.c)] []=some (Bo (decide (xs=ys)),[]) :=
 eqG (Cx:=C) ZT2 rfl _ xs ys h (λ_=>rfl) (by decide) (λx hx y=>by simp[ldV,ZTz _ _ _ _ ,Zx.ext_iff,Bool.and_assoc])
@[simp] def ZT4(es:V5)(c:Int):C ZGg [L 2 es,I c] []=some (I (sz1 es.length c),[]):=by
 refine run ZRH rfl ?_;simp[ZDf,sz1];split<;>simp_all
def ZlT(x0 x1 x2 x3 x4:Int)(x5:List Zx)(h5:SmA x5):C ZFI [.agg [I x0,I x1,I x2,I x3,I x4,.t (.lst 2 (x5.map Zx.c))]] []=some (.agg [I x0,I x1,I x2,I x3,I x4,.own 0],[.arr ZcD 2 true (x5.map Zx.c)]):=by
 refine run ZR5 rfl ?_;simp[ZCS,ZT1 _ h5]
def ZlU(x0 x1 x2 x3 x4:Int)(x5:List Zx)(y0 y1 y2 y3 y4:Int)(y5:List Zx)(h5:SmA x5):C ZFU [.agg [I x0,I x1,I x2,I x3,I x4,.t (.lst 2 (x5.map Zx.c))],.agg [I y0,I y1,I y2,I y3,I y4,.t (.lst 2 (y5.map Zx.c))]] []=some (Bo (decide (x0=y0/\x1=y1/\x2=y2/\x3=y3/\x4=y4/\x5=y5)),[]):=by
 refine run ZRB rfl ?_;simp[ZCZ,ZT3 _ _ h5]
 repeat' split
 all_goals first|(simp_all;done)|grind
def ZT5(x0 x1 x2 x3 x4:Int)(x5:List Zx)(cc:Int) :C ZF6 [.agg [I x0,I x1,I x2,I x3,I x4,.t (.lst 2 (x5.map Zx.c))],I cc] []=some (I (Z8.sz ⟨x0,x1,x2,x3,x4,x5⟩ cc),[]):=by
 refine run ZRy rfl ?_;simp[ZCL,ZT4,Z8.sz,ZV,sz1]
 repeat' split
 all_goals first|(simp_all;done)|grind
def ZT6(x0 x1 x2 x3 x4:Int)(x5:List Zx)(x6 x7 x8 x9 cc:Int)(x11:List Zx)(cd cl cn co cp:Int)(x17:List Zx)(cu cv cy cz d:Int)(x23:List Zx)(dc dd dl dn dp:Int)(x29:List Zx)(h5:SmA x5)(du:SmA x11)(dv:SmA x17)(dy:SmA x23)(dz:SmA x29):C ZFw [.agg [I x0,I x1,I x2,I x3,I x4,.t (.lst 2 (x5.map Zx.c)),I x6,I x7,I x8,I x9,I cc,.t (.lst 2 (x11.map Zx.c)),I cd,I cl,I cn,I co,I cp,.t (.lst 2 (x17.map Zx.c)),I cu,I cv,I cy,I cz,I d,.t (.lst 2 (x23.map Zx.c)),I dc,I dd,I dl,I dn,I dp,.t (.lst 2 (x29.map Zx.c))]] []=some (.agg [I x0,I x1,I x2,I x3,I x4,.own 0,I x6,I x7,I x8,I x9,I cc,.own 1,I cd,I cl,I cn,I co,I cp,.own 2,I cu,I cv,I cy,I cz,I d,.own 3,I dc,I dd,I dl,I dn,I dp,.own 4],[.arr ZcD 2 true (x5.map Zx.c),.arr ZcD 2 true (x11.map Zx.c),.arr ZcD 2 true (x17.map Zx.c),.arr ZcD 2 true (x23.map Zx.c),.arr ZcD 2 true (x29.map Zx.c)]):=by
 refine run ZRo rfl ?_;simp[ZCB,ZlT _ _ _ _ _ _ h5,ZlT _ _ _ _ _ _ du,ZlT _ _ _ _ _ _ dv,ZlT _ _ _ _ _ _ dy,ZlT _ _ _ _ _ _ dz]
def ZT7(x0 x1 x2 x3 x4:Int)(x5:List Zx)(x6 x7 x8 x9 cc:Int)(x11:List Zx)(cd cl cn co cp:Int)(x17:List Zx)(cu cv cy cz d:Int)(x23:List Zx)(dc dd dl dn dp:Int)(x29:List Zx)(y0 y1 y2 y3 y4:Int)(y5:List Zx)(y6 y7 y8 y9 du:Int)(dv:List Zx)(dy dz l lc ld:Int)(ll:List Zx)(ln lo lp lu lv:Int)(ly:List Zx)(lz n nc nd nl:Int)(nn:List Zx)(h5:SmA x5)(np:SmA x11)(nu:SmA x17)(nv:SmA x23)(ny:SmA x29):C ZF1 [.agg [I x0,I x1,I x2,I x3,I x4,.t (.lst 2 (x5.map Zx.c)),I x6,I x7,I x8,I x9,I cc,.t (.lst 2 (x11.map Zx.c)),I cd,I cl,I cn,I co,I cp,.t (.lst 2 (x17.map Zx.c)),I cu,I cv,I cy,I cz,I d,.t (.lst 2 (x23.map Zx.c)),I dc,I dd,I dl,I dn,I dp,.t (.lst 2 (x29.map Zx.c))],.agg [I y0,I y1,I y2,I y3,I y4,.t (.lst 2 (y5.map Zx.c)),I y6,I y7,I y8,I y9,I du,.t (.lst 2 (dv.map Zx.c)),I dy,I dz,I l,I lc,I ld,.t (.lst 2 (ll.map Zx.c)),I ln,I lo,I lp,I lu,I lv,.t (.lst 2 (ly.map Zx.c)),I lz,I n,I nc,I nd,I nl,.t (.lst 2 (nn.map Zx.c))]] []=some (Bo (decide (x0=y0/\x1=y1/\x2=y2/\x3=y3/\x4=y4/\x5=y5/\x6=y6/\x7=y7/\x8=y8/\x9=y9/\cc=du/\x11=dv/\cd=dy/\cl=dz/\cn=l/\co=lc/\cp=ld/\x17=ll/\cu=ln/\cv=lo/\cy=lp/\cz=lu/\d=lv/\x23=ly/\dc=lz/\dd=n/\dl=nc/\dn=nd/\dp=nl/\x29=nn)),[]):=by
 refine run ZRt rfl ?_;simp[ZCG,ZlU _ _ _ _ _ _ _ _ _ _ _ _ h5,ZlU _ _ _ _ _ _ _ _ _ _ _ _ np,ZlU _ _ _ _ _ _ _ _ _ _ _ _ nu,ZlU _ _ _ _ _ _ _ _ _ _ _ _ nv,ZlU _ _ _ _ _ _ _ _ _ _ _ _ ny]
 repeat' split
 all_goals first|(simp_all;done)|grind
def ZT8(x0 x1 x2 x3 x4:Int)(x5:List Zx)(x6 x7 x8 x9 cd:Int)(cl:List Zx)(cn co cp cu cv:Int)(cy:List Zx)(cz d dc dd dl:Int)(dn:List Zx)(dp du dv dy dz:Int)(l:List Zx)(cc:Int) :C ZFr [.agg [I x0,I x1,I x2,I x3,I x4,.t (.lst 2 (x5.map Zx.c)),I x6,I x7,I x8,I x9,I cd,.t (.lst 2 (cl.map Zx.c)),I cn,I co,I cp,I cu,I cv,.t (.lst 2 (cy.map Zx.c)),I cz,I d,I dc,I dd,I dl,.t (.lst 2 (dn.map Zx.c)),I dp,I du,I dv,I dy,I dz,.t (.lst 2 (l.map Zx.c))],I cc] []=some (I (Zn.sz ⟨⟨x0,x1,x2,x3,x4,x5⟩,⟨x6,x7,x8,x9,cd,cl⟩,⟨cn,co,cp,cu,cv,cy⟩,⟨cz,d,dc,dd,dl,dn⟩,⟨dp,du,dv,dy,dz,l⟩⟩ cc),[]):=by
 refine run ZRj rfl ?_;simp[ZC6,ZT5,Zn.sz,ZV,sz1]
 repeat' split
 all_goals first|(simp_all;done)|grind
def ZT9(x0 x1 x2:Int) :C ZGG [.agg [I x0,I x1,I x2]] []=some (.agg [I x0,I x1,I x2],[]):=by
 refine run ZSf rfl ?_;simp[ZD3]
def ZTA(x0 x1 x2 y0 y1 y2:Int) :C ZGI [.agg [I x0,I x1,I x2],.agg [I y0,I y1,I y2]] []=some (Bo (decide (x0=y0/\x1=y1/\x2=y2)),[]):=by
 refine run ZSg rfl ?_;simp[ZD4]
 repeat' split
 all_goals first|(simp_all;done)|grind
def ZTB:tbl 241=some (toM 258 3 24 319 [(.int .i64 0),(.int .i64 0),(.int .i64 0)] (some 3)):=Zh Tryz.func241 (by kernel_rfl) (by kernel_rfl)
def ZTC(xs:List Zj)(h:SmA xs):C ZG9 [L 3 (xs.map Zj.c)] []=some (.own 0,[.arr Z33 3 true (xs.map Zj.c)]) :=
 toG (Cx:=C) ZTB rfl _ xs h (by decide) λi hi h3 h4 fr=>by rw[Zr (toB.eq_1 _ _ _)];simp[hdB,toR,hi,h3,h4,ZT9]
def ZTD:tbl 267=some (eqM 3 339 (some 3)):=Zh Tryz.func267 (by kernel_rfl) (by kernel_rfl)
def ZTE(xs ys:List Zj)(h:SmA xs):C ZGD [L 3 (xs.map Zj.c),L 3 (ys.map Zj.c)] []=some (Bo (decide (xs=ys)),[]) :=
 eqG (Cx:=C) ZTD rfl _ xs ys h (λ_=>rfl) (by decide) (λx hx y=>by simp[ldV,ZTA _ _ _ _ _ _ ,Zj.ext_iff,Bool.and_assoc])
@[simp] def ZTF(es:V5)(c:Int):C ZG5 [L 3 es,I c] []=some (I (sz1 es.length c),[]):=by
 refine run ZRY rfl ?_;simp[ZDw,sz1];split<;>simp_all
def ZTG(x0:List Zj)(h0:SmA x0):C ZGt [.agg [.t (.lst 3 (x0.map Zj.c))]] []=some (.agg [.own 0],[.arr Z33 3 true (x0.map Zj.c)]):=by
 refine run ZRP rfl ?_;simp[ZDn,ZTC _ h0]
def ZTH(x0 y0:List Zj)(h0:SmA x0):C ZG1 [.agg [.t (.lst 3 (x0.map Zj.c))],.agg [.t (.lst 3 (y0.map Zj.c))]] []=some (Bo (decide (x0=y0)),[]):=by
 refine run ZRU rfl ?_;simp[ZDs,ZTE _ _ h0]
 repeat' split
 all_goals first|(simp_all;done)|grind
def ZTI(x0:List Zj)(cc:Int) :C ZGm [.agg [.t (.lst 3 (x0.map Zj.c))],I cc] []=some (I (Zg.sz ⟨x0⟩ cc),[]):=by
 refine run ZRL rfl ?_;simp[ZDj,ZTF,Zg.sz,ZV,sz1]
 repeat' split
 all_goals first|(simp_all;done)|grind
def ZTJ:tbl 67=some (toM 170 1 24 151 [(.lst 3 [])] (some 1)):=Zh Tryz.func67 (by kernel_rfl) (by kernel_rfl)
def ZTK(xs:List Zg)(h:SmL Zg.small xs):C ZFQ [L 1 (xs.map Zg.c)] []=some (.own 0,[.arr Z3y 1 true (xs.map Zg.c)]) :=
 toG (Cx:=C) ZTJ rfl _ xs h.1 (by decide) λi hi h3 h4 fr=>by rw[Zr (toB.eq_1 _ _ _)];simp[hdB,toR,hi,h3,h4,ZTG _ (h.2 _ (Ye hi))]
def ZTL:tbl 90=some (eqM 1 177 (some 1)):=Zh Tryz.func90 (by kernel_rfl) (by kernel_rfl)
def ZTM(xs ys:List Zg)(h:SmL Zg.small xs):C ZGc [L 1 (xs.map Zg.c),L 1 (ys.map Zg.c)] []=some (Bo (decide (xs=ys)),[]) :=
 eqG (Cx:=C) ZTL rfl _ xs ys h.1 (λ_=>rfl) (by decide) (λx hx y=>by simp[ldV,ZTH _ _ (h.2 x hx),Zg.ext_iff,Bool.and_assoc])
def ZTN:tbl 41=some (szM 1 126 (some 1)):=Zh Tryz.func41 (by kernel_rfl) (by kernel_rfl)
def ZTO(xs:List Zg)(cc:Int)(h:OkL Zg.okay xs):C ZFE [L 1 (xs.map Zg.c),I cc] []=some (I (szL Zg.sz xs cc),[]) :=
 szG (Cx:=C) ZTN rfl _ _ xs cc h.1 (λ_=>rfl) (by decide) (λx hx l=>by simp[ldV,ZTI])
def ZTP(x0 x1 x2:Int)(x3 x4 x5:V6)(x6:List Zg)(x7:V4)(h3:SmA x3)(h4:SmA x4)(h5:SmA x5)(h6:SmL Zg.small x6)(h7:SmL SmA x7):C ZFz [.agg [I x0,I x1,I x2,.t (tI x3),.t (tI x4),.t (tI x5),.t (.lst 1 (x6.map Zg.c)),.t (tII x7)]] []=some (.agg [I x0,I x1,I x2,.own 0,.own 1,.own 2,.own 3,.own 4],[.arr Xm 1 true (x3.map ic),.arr Xm 1 true (x4.map ic),.arr Xm 1 true (x5.map ic),.arr Z3y 1 true (x6.map Zg.c),.arr Zbn 1 true (x7.map isc)]):=by
 refine run ZRr rfl ?_;simp[ZCE,ZD8 _ _ h3 h4,ZaZ _ h5,ZTK _ h6,Zqu _ h7]
def ZTQ(x0 x1 x2:Int)(x3 x4 x5:V6)(x6:List Zg)(x7:V4)(y0 y1 y2:Int)(y3 y4 y5:V6)(y6:List Zg)(y7:V4)(h3:SmA x3)(h4:SmA x4)(h5:SmA x5)(h6:SmL Zg.small x6)(h7:SmL SmA x7):C ZF4 [.agg [I x0,I x1,I x2,.t (tI x3),.t (tI x4),.t (tI x5),.t (.lst 1 (x6.map Zg.c)),.t (tII x7)],.agg [I y0,I y1,I y2,.t (tI y3),.t (tI y4),.t (tI y5),.t (.lst 1 (y6.map Zg.c)),.t (tII y7)]] []=some (Bo (decide (x0=y0/\x1=y1/\x2=y2/\x3=y3/\x4=y4/\x5=y5/\x6=y6/\x7=y7)),[]):=by
 refine run ZRw rfl ?_;simp[ZCJ,ZD9 _ _ _ _ h3 h4,Zba _ _ h5,ZTM _ _ h6,Zqv _ _ h7]
 repeat' split
 all_goals first|(simp_all;done)|grind
def ZTR(x0 x1 x2:Int)(x3 x4 x5:V6)(x6:List Zg)(x7:V4)(cc:Int)(h6:OkL Zg.okay x6)(h7:OkL (OkL OkI) x7):C ZFu [.agg [I x0,I x1,I x2,.t (tI x3),.t (tI x4),.t (tI x5),.t (.lst 1 (x6.map Zg.c)),.t (tII x7)],I cc] []=some (I (ZM.sz ⟨x0,x1,x2,⟨x3,x4⟩,x5,x6,x7⟩ cc),[]):=by
 refine run ZRm rfl ?_;simp[ZC9,ZDA,Ze1,ZTO _ _ h6,Zqw _ _ h7,ZM.sz,ZV,sz1]
 repeat' split
 all_goals first|(simp_all;done)|grind
def ZTS(x0 x1 x2 x3:Int)(x4:Bool) :C ZGu [.agg [I x0,I x1,I x2,I x3,Bo x4]] []=some (.agg [I x0,I x1,I x2,I x3,Bo x4],[]):=by
 refine run ZRQ rfl ?_;simp[ZDo]
def ZTT(x0 x1 x2 x3:Int)(x4:Bool)(y0 y1 y2 y3:Int)(y4:Bool) :C ZG2 [.agg [I x0,I x1,I x2,I x3,Bo x4],.agg [I y0,I y1,I y2,I y3,Bo y4]] []=some (Bo (decide (x0=y0/\x1=y1/\x2=y2/\x3=y3/\x4=y4)),[]):=by
 refine run ZRV rfl ?_;simp[ZDt]
 repeat' split
 all_goals first|(simp_all;done)|grind
def ZTU:tbl 70=some (toM 172 5 40 152 [(.int .i64 0),(.int .i64 0),(.int .i64 0),(.int .i64 0),(.bool false)] (some 5)):=Zh Tryz.func70 (by kernel_rfl) (by kernel_rfl)
def ZTV(xs:List ZR)(h:SmA xs):C ZFT [L 5 (xs.map ZR.c)] []=some (.own 0,[.arr Z3z 5 true (xs.map ZR.c)]) :=
 toG (Cx:=C) ZTU rfl _ xs h (by decide) λi hi h3 h4 fr=>by rw[Zr (toB.eq_1 _ _ _)];simp[hdB,toR,hi,h3,h4,ZTS]
def ZTW:tbl 93=some (eqM 5 178 (some 5)):=Zh Tryz.func93 (by kernel_rfl) (by kernel_rfl)
def ZTX(xs ys:List ZR)(h:SmA xs):C ZGf [L 5 (xs.map ZR.c),L 5 (ys.map ZR.c)] []=some (Bo (decide (xs=ys)),[]) :=
 eqG (Cx:=C) ZTW rfl _ xs ys h (λ_=>rfl) (by decide) (λx hx y=>by simp[ldV,ZTT _ _ _ _ _ _ _ _ _ _ ,ZR.ext_iff,Bool.and_assoc])
@[simp] def ZTY(es:V5)(c:Int):C ZFH [L 5 es,I c] []=some (I (sz1 es.length c),[]):=by
 refine run ZR4 rfl ?_;simp[ZCR,sz1];split<;>simp_all
def ZTZ(x0:V6)(x1:V4)(x2:Int)(x3:List ZR)(x4 x5:V6)(h0:SmA x0)(h1:SmL SmA x1)(h3:SmA x3)(h4:SmA x4)(h5:SmA x5):C ZF0 [.agg [.t (tI x0),.t (tII x1),I x2,.t (.lst 5 (x3.map ZR.c)),.t (tI x4),.t (tI x5)]] []=some (.agg [.own 0,.own 1,I x2,.own 2,.own 3,.own 4],[.arr Xm 1 true (x0.map ic),.arr Zbn 1 true (x1.map isc),.arr Z3z 5 true (x3.map ZR.c),.arr Xm 1 true (x4.map ic),.arr Xm 1 true (x5.map ic)]):=by
 refine run ZRs rfl ?_;simp[ZCF,ZSF _ _ h0 h1,ZTV _ h3,ZD8 _ _ h4 h5]
def ZUa(x0:V6)(x1:V4)(x2:Int)(x3:List ZR)(x4 x5 y0:V6)(y1:V4)(y2:Int)(y3:List ZR)(y4 y5:V6)(h0:SmA x0)(h1:SmL SmA x1)(h3:SmA x3)(h4:SmA x4)(h5:SmA x5):C ZF5 [.agg [.t (tI x0),.t (tII x1),I x2,.t (.lst 5 (x3.map ZR.c)),.t (tI x4),.t (tI x5)],.agg [.t (tI y0),.t (tII y1),I y2,.t (.lst 5 (y3.map ZR.c)),.t (tI y4),.t (tI y5)]] []=some (Bo (decide (x0=y0/\x1=y1/\x2=y2/\x3=y3/\x4=y4/\x5=y5)),[]):=by
 refine run ZRx rfl ?_;simp[ZCK,ZSG _ _ _ _ h0 h1,ZTX _ _ h3,ZD9 _ _ _ _ h4 h5]
 repeat' split
 all_goals first|(simp_all;done)|grind
def ZUb(x0:V6)(x1:V4)(x2:Int)(x3:List ZR)(x4 x5:V6)(cc:Int)(h1:OkL (OkL OkI) x1):C ZFv [.agg [.t (tI x0),.t (tII x1),I x2,.t (.lst 5 (x3.map ZR.c)),.t (tI x4),.t (tI x5)],I cc] []=some (I (Wj.sz ⟨⟨x0,x1⟩,x2,x3,⟨x4,x5⟩⟩ cc),[]):=by
 refine run ZRn rfl ?_;simp[ZCA,ZSH _ _ _ h1,ZTY,ZDA,Wj.sz,ZV,sz1]
 repeat' split
 all_goals first|(simp_all;done)|grind
end
