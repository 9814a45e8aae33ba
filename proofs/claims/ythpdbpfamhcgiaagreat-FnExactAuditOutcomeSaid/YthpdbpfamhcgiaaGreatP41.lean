/-
  Parts of the proofs for this seat: L50 CR.
-/
import Derived.Deep.RegionLaw
import Derived.Lib.SlBy
import Derived.Lib.SliceRun
import Derived.Lib.Walk
import Derived.Shelf.RegionOpenPlain
import Derived.Test.YthpdbpfamhcgiaaGreatChecked
import Derived.Test.YthpdbpfamhcgiaaGreatP39
import Derived.Test.YthpdbpfamhcgiaaGreatP40
set_option linter.all false
set_option maxRecDepth 100000
set_option maxHeartbeats 4000000
namespace Go.Proofs.YthpdbpfamhcgiaaGreat
open Go.AM
def ZDZ(m:Zn)(s:Xr)(q:Zf)(b:ZM)(o:Wj)(hm:m.okay)(hs:s.okay)(hq:q.okay)(hb:b.okay)(ho:o.okay):C ZFq [.agg (m.c.map .t),.agg (s.c.map .t),.agg (q.c.map .t),.agg (b.c.map .t),.agg (o.c.map .t)] []=some (Bo true,[]):=by
 refine run ZRi rfl ?_;have e1:=λl=>ZT8 m.Z1.ZD m.Z1.ZE m.Z1.ZF m.Z1.ZG m.Z1.ZH m.Z1.Steps m.Zz.ZD m.Zz.ZE m.Zz.ZF m.Zz.ZG m.Zz.ZH m.Zz.Steps m.Z2.ZD m.Z2.ZE m.Z2.ZF m.Z2.ZG m.Z2.ZH m.Z2.Steps m.Z3.ZD m.Z3.ZE m.Z3.ZF m.Z3.ZG m.Z3.ZH m.Z3.Steps m.Z4.ZD m.Z4.ZE m.Z4.ZF m.Z4.ZG m.Z4.ZH m.Z4.Steps l
 by_cases h1:Zn.sz m (1048576)<0
 .simp[Ze0,e1,h1]
 obtain⟨b1,g1⟩:=Zn.X8 m _ hm (by omega) (by omega) (by omega:0<=Zn.sz m (1048576));have e2:=λl=>ZTx s.Zp.Z6 s.ZN.Xh s.ZN.Z6 s.QD s.QE l (hs.1) (hs.2.2.1) (hs.2.2.2.1) (hs.2.2.2.2)
 by_cases h2:Xr.sz s (Zn.sz m (1048576))<0
 .simp[Ze0,e1,h1,e2,h2]
 obtain⟨b2,g2⟩:=Xr.X8 s _ hs (by omega) (by omega) (by omega:0<=Xr.sz s (Zn.sz m (1048576)));have e3:=λl=>ZSE q.Zk q.Zb l (hq.2)
 by_cases h3:Zf.sz q (Xr.sz s (Zn.sz m (1048576)))<0
 .simp[Ze0,e1,h1,e2,h2,e3,h3]
 obtain⟨b3,g3⟩:=Zf.X8 q _ hq (by omega) (by omega) (by omega:0<=Zf.sz q (Xr.sz s (Zn.sz m (1048576))));have e4:=λl=>ZTR b.Xh b.Xk b.XL b.Box.Low b.Box.ZZ b.ZQ b.Xl b.ZO l (hb.2.2.2.2.2.2.1) (hb.2.2.2.2.2.2.2)
 by_cases h4:ZM.sz b (Zf.sz q (Xr.sz s (Zn.sz m (1048576))))<0
 .simp[Ze0,e1,h1,e2,h2,e3,h3,e4,h4]
 obtain⟨b4,g4⟩:=ZM.X8 b _ hb (by omega) (by omega) (by omega:0<=ZM.sz b (Zf.sz q (Xr.sz s (Zn.sz m (1048576)))));have e5:=λl=>ZUb o.ZW.Za o.ZW.Rows o.U0 o.Ws o.Box.Low o.Box.ZZ l (ho.2.1)
 by_cases h5:Wj.sz o (ZM.sz b (Zf.sz q (Xr.sz s (Zn.sz m (1048576)))))<0
 .simp[Ze0,e1,h1,e2,h2,e3,h3,e4,h4,e5,h5]
 obtain⟨b5,g5⟩:=Wj.X8 o _ ho (by omega) (by omega) (by omega:0<=Wj.sz o (ZM.sz b (Zf.sz q (Xr.sz s (Zn.sz m (1048576))))));have t1:=ZT6 m.Z1.ZD m.Z1.ZE m.Z1.ZF m.Z1.ZG m.Z1.ZH m.Z1.Steps m.Zz.ZD m.Zz.ZE m.Zz.ZF m.Zz.ZG m.Zz.ZH m.Zz.Steps m.Z2.ZD m.Z2.ZE m.Z2.ZF m.Z2.ZG m.Z2.ZH m.Z2.Steps m.Z3.ZD m.Z3.ZE m.Z3.ZF m.Z3.ZG m.Z3.ZH m.Z3.Steps m.Z4.ZD m.Z4.ZE m.Z4.ZF m.Z4.ZG m.Z4.ZH m.Z4.Steps (g1.1) (g1.2.1) (g1.2.2.1) (g1.2.2.2.1) (g1.2.2.2.2);have q1:=λy0 y1 y2 y3 y4 y5 y6 y7 y8 y9 y10 y11 y12 y13 y14 y15 y16 y17 y18 y19 y20 y21 y22 y23 y24 y25 y26 y27 y28 y29=>ZT7 m.Z1.ZD m.Z1.ZE m.Z1.ZF m.Z1.ZG m.Z1.ZH m.Z1.Steps m.Zz.ZD m.Zz.ZE m.Zz.ZF m.Zz.ZG m.Zz.ZH m.Zz.Steps m.Z2.ZD m.Z2.ZE m.Z2.ZF m.Z2.ZG m.Z2.ZH m.Z2.Steps m.Z3.ZD m.Z3.ZE m.Z3.ZF m.Z3.ZG m.Z3.ZH m.Z3.Steps m.Z4.ZD m.Z4.ZE m.Z4.ZF m.Z4.ZG m.Z4.ZH m.Z4.Steps y0 y1 y2 y3 y4 y5 y6 y7 y8 y9 y10 y11 y12 y13 y14 y15 y16 y17 y18 y19 y20 y21 y22 y23 y24 y25 y26 y27 y28 y29 (g1.1) (g1.2.1) (g1.2.2.1) (g1.2.2.2.1) (g1.2.2.2.2)
 have t2:=ZTv s.Zp.Z6 s.ZN.Xh s.ZN.Z6 s.QD s.QE (g2.1) (g2.2.1) (g2.2.2.1) (g2.2.2.2);have q2:=λy0 y1 y2 y3 y4=>ZTw s.Zp.Z6 s.ZN.Xh s.ZN.Z6 s.QD s.QE y0 y1 y2 y3 y4 (g2.1) (g2.2.1) (g2.2.2.1) (g2.2.2.2)
 have t3:=ZSC q.Zk q.Zb (g3);have q3:=λy0 y1=>ZSD q.Zk q.Zb y0 y1 (g3)
 have t4:=ZTP b.Xh b.Xk b.XL b.Box.Low b.Box.ZZ b.ZQ b.Xl b.ZO (g4.1) (g4.2.1) (g4.2.2.1) (g4.2.2.2.1) (g4.2.2.2.2);have q4:=λy0 y1 y2 y3 y4 y5 y6 y7=>ZTQ b.Xh b.Xk b.XL b.Box.Low b.Box.ZZ b.ZQ b.Xl b.ZO y0 y1 y2 y3 y4 y5 y6 y7 (g4.1) (g4.2.1) (g4.2.2.1) (g4.2.2.2.1) (g4.2.2.2.2)
 have t5:=ZTZ o.ZW.Za o.ZW.Rows o.U0 o.Ws o.Box.Low o.Box.ZZ (g5.1) (g5.2.1) (g5.2.2.1) (g5.2.2.2.1) (g5.2.2.2.2);have q5:=λy0 y1 y2 y3 y4 y5=>ZUa o.ZW.Za o.ZW.Rows o.U0 o.Ws o.Box.Low o.Box.ZZ y0 y1 y2 y3 y4 y5 (g5.1) (g5.2.1) (g5.2.2.1) (g5.2.2.2.1) (g5.2.2.2.2)
 have nm:LeM m:=⟨by have:=g1.1;omega,by have:=g1.2.1;omega,by have:=g1.2.2.1;omega,by have:=g1.2.2.2.1;omega,by have:=g1.2.2.2.2;omega⟩;have nq:LeQ q:=⟨by have:=g3.1;omega,λx hx=>by have:=(g3.2 x hx).2;omega⟩;have nb:LeB b:=⟨by have:=g4.1;omega,by have:=g4.2.1;omega,by have:=g4.2.2.1;omega,by have:=g4.2.2.2.1.1;omega,by have:=g4.2.2.2.2.1;omega,λc hc=>by have:=g4.2.2.2.2.2 c hc;omega⟩;have  nm:LeM m:=⟨by have:=g1.1;omega,by have:=g1.2.1;omega,by have:=g1.2.2.1;omega,by have:=g1.2.2.2.1;omega,by have:=g1.2.2.2.2;omega⟩;have nd:LeD s.Zp:=⟨by have:=g2.1.1;omega,λt ht=>⟨by have:=(g2.1.2 t ht).2.1;omega,λr hr=>by have:=(g2.1.2 t ht).2.2 r hr;omega⟩⟩;have nk:LeK s.ZN:=⟨by have:=g2.2.1.1;omega,λx hx=>⟨by have:=(g2.2.1.2 x hx).2.1;omega,λy hy=>have k:=(g2.2.1.2 x hx).2.2 y hy;⟨by have:=k.1;omega,⟨by have:=k.2.1.1;omega,λr hr=>by have:=k.2.1.2 r hr;omega⟩,by have:=k.2.2;omega⟩⟩⟩;have nf:LeF s.QD:=⟨by have:=g2.2.2.1.1;omega,λx hx=>by have:=(g2.2.2.1.2 x hx).2;omega⟩;have nx:Le s.QE:=by have:=g2.2.2.2.1;omega
 have nq:LeQ q:=⟨by have:=g3.1;omega,λx hx=>by have:=(g3.2 x hx).2;omega⟩;have nb:LeB b:=⟨by have:=g4.1;omega,by have:=g4.2.1;omega,by have:=g4.2.2.1;omega,by have:=g4.2.2.2.1.1;omega,by have:=g4.2.2.2.2.1;omega,λc hc=>by have:=g4.2.2.2.2.2 c hc;omega⟩;have na:LeA o.ZW:=⟨by have:=g5.1;omega,by have:=g5.2.1.1;omega,λr hr=>by have:=g5.2.1.2 r hr;omega⟩;obtain⟨v,s1,s0⟩:=ZRh nm ⟨nd,nk,nf,nx⟩ nq nb (by have:=g4.2.2.2.1.1;omega) (by have:=g4.2.2.2.2.1;omega) na (by have:=g5.2.2.1;omega);unfold ZgQ at s0;unfold ZfG at s1;simp only[Zn.c_def,Xr.c_def,Zf.c_def,ZM.c_def,Wj.c_def,tI,tII,Y0,Yca]at s0 s1;simp +decide[Ze0,e1,h1,e2,h2,e3,h3,e4,h4,e5,h5,t1,q1,t2,q2,t3,q3,t4,q4,t5,q5,s0,s1]
end Go.Proofs.YthpdbpfamhcgiaaGreat
namespace Go.Proofs.YthpdbpfamhcgiaaGreat
open Go.RowKit Go.Lib
def ZDB(x:Int)(w:World):Calls Tryz.prog 459 #[.int .i64 x] w λe w'=>e=.returned (.bool false)/\w'=w:=by
 go_enter Tryz.func459,Tryz.ntmps459
 go_wp2
 go_ret
 exact⟨by simp,rfl⟩
def c3(x y:Int):Int:=if x<y then -1 else if y<x then 1 else 0
def ZUc(x y:Int)(w:World):Calls Tryz.prog 448 #[.int .i64 x,.int .i64 y] w λe w'=>e=.returned (.int .i64 (c3 x y))/\w'=w:=by
 have h1:=ZDB x w;have h2:=ZDB y w;by_cases e1:x<y
 .go_enter Tryz.func448,Tryz.ntmps448
  go_wp2_with (first|(refine h1.mono ?_;rintro e w' ⟨rfl,rfl⟩)|(refine h2.mono ?_;rintro e w' ⟨rfl,rfl⟩))
  go_ret
  exact⟨by simp[c3,e1],rfl⟩
 .by_cases e2:y<x
  .go_enter Tryz.func448,Tryz.ntmps448
   go_wp2_with (first|(refine h1.mono ?_;rintro e w' ⟨rfl,rfl⟩)|(refine h2.mono ?_;rintro e w' ⟨rfl,rfl⟩))
   go_ret
   exact⟨by simp[c3,e1,e2],rfl⟩
  .have hc:c3 x y=0:=by unfold c3;rw[if_neg e1,if_neg e2]
   rw[hc];clear hc
   go_enter Tryz.func448,Tryz.ntmps448
   go_wp2_with (first|(refine h1.mono ?_;rintro e w' ⟨rfl,rfl⟩)|(refine h2.mono ?_;rintro e w' ⟨rfl,rfl⟩))
   go_ret
   exact⟨rfl,rfl⟩
def Zbb(w:World)(v:Value)(r:List Int):Prop:=∃a c,v=.slice a r.length c/\∀j (h:j<r.length),∃g off,a=some ⟨g,off,none⟩/\w.cell? ⟨g,off+j,none⟩=some (.int .i64 r[j])
def ZUd{a b:List Int}{k:Nat}(h1:k<a.length)(h2:k<b.length):Xv (a.drop k) (b.drop k)=if c3 a[k] b[k]=0 then Xv (a.drop (k+1)) (b.drop (k+1))else c3 a[k] b[k]:=by
 rw[List.drop_eq_getElem_cons h1,List.drop_eq_getElem_cons h2]
 conv=>lhs;unfold Xv
 unfold c3;omega
def ZUe(v1 v2:Value)(a b:List Int)(w:World)(h1:Zbb w v1 a)(h2:Zbb w v2 b)(c:a.length<2305843009213693952)(cc:b.length<2305843009213693952) :
  Calls Tryz.prog 412 #[v1,v2] w λe w'=>e=.returned (.int .i64 (Xv a b))/\w'=w:=by
 obtain⟨p1,c1,rfl,r1⟩:=h1;obtain⟨p2,c2,rfl,r2⟩:=h2;have mixed:Tryz.prog.follows Departure.mixedOrders=true:=by kernel_rfl
 have hc:=λx y=>ZUc x y w
 generalize hR:Xv a b=R;have HR:Aside (Xv (a.drop 0) (b.drop 0)=R):=hR;clear hR
 go_enter Tryz.func412,Tryz.ntmps412
 go_wp2
 go_loopg [5,6,7,8,11] a.length (λgg _ _ _ _ s11 wr=>∃kk:Nat,kk<=a.length/\a.length-kk<=gg/\s11=.int .i64 kk/\wr=w/\Aside (kk<=b.length)/\Aside (Xv (a.drop kk) (b.drop kk)=R))
 case atStart=>exact⟨0,Nat.zero_le _,by omega,rfl,rfl,Nat.zero_le _,HR⟩
 case round =>
  obtain⟨kk,hkk,hg,rfl,rfl,A,B⟩:=hrel;by_cases hlt:kk<a.length
  .have hltz:(kk:Int)<(a.length:Int):=by omega
   obtain⟨g1,o1,rfl,d1⟩:=r1 kk hlt;by_cases hlb:kk<b.length
   .have hltb:¬(b.length:Int)<=(kk:Int):=by omega
    obtain⟨g2,o2,rfl,d2⟩:=r2 kk hlb;have hs:=ZUd hlt hlb;have hcall:=hc a[kk] b[kk];have S:Aside (Xv (a.drop kk) (b.drop kk)=if c3 a[kk] b[kk]=0 then Xv (a.drop (kk+1)) (b.drop (kk+1))else c3 a[kk] b[kk]):=hs;clear hs hc r1 r2;generalize c3 a[kk] b[kk]=z at hcall S;generalize a[kk]=x at hcall d1;generalize b[kk]=y at hcall d2;by_cases hz:z=0
    .subst hz
     go_wp2_with (refine hcall.mono ?_;rintro e w' ⟨rfl,rfl⟩)
     go_roundg (a.length-(kk+1))
     case measure=>omega
     case rel =>
      refine⟨kk+1,by omega,by omega,by go_num,rfl,(show Aside _ from by show kk+1<=b.length;omega),(show Aside _ from ?_)⟩;have:=S.out
      simp_all
    .have hr:R=z:=by rw[<-B.out,S.out,if_neg hz]
     go_wp2_with (refine hcall.mono ?_;rintro e w' ⟨rfl,rfl⟩)
     go_ret
     exact⟨by subst hr;rfl,rfl⟩
   .have hltb:(b.length:Int)<=(kk:Int):=by omega
    have hr:R=1:=by
     rw[<-B.out,List.drop_eq_getElem_cons hlt,show b.drop kk=[]from List.drop_of_length_le (by omega)];rfl
    clear hc r2
    go_wp2
    go_ret
    exact⟨by subst hr;rfl,rfl⟩
  .have hltz:¬(kk:Int)<(a.length:Int):=by omega
   have he:kk=a.length:=by omega
   have hA:=A.out;by_cases hlb:(a.length:Int)<(b.length:Int)
   .have hr:R=-1:=by
     rw[<-B.out,he,List.drop_length,List.drop_eq_getElem_cons (l:=b) (i:=a.length) (by omega)];rfl
    clear hc r1 r2
    go_wp2
    go_ret
    simp
   .have hr:R=0:=by
     rw[<-B.out,he,List.drop_length,show b.drop a.length=[]from List.drop_of_length_le (by omega)];rfl
    clear hc r1 r2
    go_wp2
    go_ret
    simp
def ZUf(v1 v2:Value)(a b:List Int)(w:World)(h1:Zbb w v1 a)(h2:Zbb w v2 b)(c:a.length<2305843009213693952)(cc:b.length<2305843009213693952) :
  Calls Tryz.prog 361 #[v1,v2] w λe w'=>e=.returned (.int .i64 (Xv a b))/\w'=w:=by
 have hc:=ZUe v1 v2 a b w h1 h2 c cc;generalize Xv a b=R at hc|-;obtain⟨p1,c1,rfl,r1⟩:=h1;obtain⟨p2,c2,rfl,r2⟩:=h2;clear r1 r2
 go_enter Tryz.func361,Tryz.ntmps361
 go_wp2_with (refine hc.mono ?_;rintro e w' ⟨rfl,rfl⟩)
 go_ret
 exact⟨rfl,rfl⟩
