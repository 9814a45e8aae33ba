/-
  Parts of the proofs for this seat: G31 G32 V1 V2 V3 V4 V5 V6 OP AD.
-/
import Derived.Test.YtobfkfgdneeabaaGreatP15
import Derived.Test.YtobfkfgdneeabaaGreatP16
import Derived.Test.YtobfkfgdneeabaaGreatP17
import Derived.Test.YtobfkfgdneeabaaGreatP18
import Derived.Test.YtobfkfgdneeabaaGreatP19
import Derived.Test.YtobfkfgdneeabaaGreatP20
import Derived.Test.YtobfkfgdneeabaaGreatP22
import Derived.Test.YtobfkfgdneeabaaGreatP23
import Derived.Test.YtobfkfgdneeabaaGreatP24
set_option linter.all false
set_option maxRecDepth 100000
set_option maxHeartbeats 4000000
namespace Go.Proofs.YtobfkfgdneeabaaGreat
open Go.AM
def ZO7:((((iM YW λm d q p x x1 budget total n r=>if n<4 then qI (NA q p (⟨x,x1⟩:Box)) (λu1=>if u1=0 then H1 x x1 total r else Sb (NO m d q p u1 budget) (λu2 u3=>Znw (oL (⟨x,x1⟩:Box) u2.Seen) (λu4 u5 u6=>if u2.Done=true then r (YW m d q p u4 u5 budget (w (total+u2.Cost)) (w (n+1)))else H1 u4 u5 (w (total+u2.Cost)) r)))else H1 x x1 total r)/\
 (iM oM λa a1 a2 a3 a4 a5 r=>qL (II a4) λk1=>qB (IG a) (qB (QA a1 a2) (qB (nN a2 a3) (qB (Kq a4) (qI (Wv a2) (λu5=>if(a4.Low.length:Int)=(w (u5+1))then qB (Z0 a5 0 1000000000000) (Qe k1 (λu7 u8=>r (YW a a1 a2 a3 u7 u8 a5 0 0))) (Qe k1 (λu7 u8=>JY u7 u8 r))else Qe k1 (λu6 u7=>JY u6 u7 r))) (Qe k1 (λu5 u6=>JY u5 u6 r))) (Qe k1 (λu4 u5=>JY u4 u5 r))) (Qe k1 (λu3 u4=>JY u3 u4 r))) (Qe k1 (λu2 u3=>JY u2 u3 r))))/\
 ((iM oP λs1 s2 x x1 r=>if x1<x then qG s1 x1 (λu1=>qH s2 x1 (λu2=>if u1=u2 then r (oP s1 s2 x (w (x1+1)))else qb false r))else qb true r)/\
 (iM oO λa a1 r=>if(a.length:Int)=(a1.length:Int)then r (oP a a1 (a.length:Int) 0)else qb false r)))/\
 (((iM oQ λa a1 r=>qB (oO a.Low a1.Low) (qV (oO a.High a1.High) (λu2=>qb u2 r)) (qb false r))/\
 (iM oS λa b i r=>if i<(a.Rows.length:Int)then qG a.Rows i (λu1=>qH b.Rows i (λu2=>qI (Vy u1 u2) (λu3=>if u3=0 then r (oS a b (w (i+1)))else qb false r)))else qb true r))/\
 ((iM Zqw λa a1 r=>qI (Vy a.Vars a1.Vars) (λu1=>if u1=0 then if(a.Rows.length:Int)=(a1.Rows.length:Int)then r (oS a a1 0)else qb false r else qb false r))/\
 (iM oT λa b i r=>if i<(a.Seen.length:Int)then qG a.Seen i (λu1=>qH b.Seen i (λu2=>if u1.Mask=u2.Mask/\u1.Class=u2.Class/\u1.Exact=u2.Exact then r (oT a b (w (i+1)))else qb false r))else qb true r))))/\
 ((((iM YX λa a1 r=>qL (qb false r) λk1=>if a.Done=a1.Done then if a.Cost=a1.Cost then if a.Steps=a1.Steps then if(a.Seen.length:Int)=(a1.Seen.length:Int)then qB (Zqw a.XC a1.XC) (r (oT a a1 0)) k1 else k1 else k1 else k1 else k1)/\
 (iM NP λa a1 r=>Gk (Qh a a1) (λu1 u2=>if u2=true then qL (w ((u1.length:Int)-1)) λk1=>0<=k1/\∃u3,u1[k1.toNat]?=some u3/\qi u3.Mask r else qi 0 r)))/\
 ((iM YY λt a vars row i r=>if i<(t.Rows.length:Int)then r (YZ t a vars row i true 0)else qb false r)/\
 (iM YZ λt a vars row i is k r=>if k<(a.Vars.length:Int)then r (oU t a vars row i is k 0)else if is=true then qb true r else r (YY t a vars row (w (i+1))))))/\
 (((iM oU λt a vars row i is k j r=>if j<(row.length:Int)then qL (oU t a vars row i) λk1=>if is=true then qG vars j (λu1=>qG a.Vars k (λu2=>if u1=u2 then qH row j (λu3=>qG t.Rows i (λu4=>qH u4 k (λu5=>r (k1 (decide (u3=u5)) k (w (j+1))))))else r (k1 true k (w (j+1)))))else r (k1 false k (w (j+1)))else r (YZ t a vars row i is (w (k+1))))/\
 (iM Zqz λa a1 a2 a3 r=>r (YY a a1 a2 a3 0)))/\
 ((iM aB λl fr atoms vars row i r=>if i<(l.length:Int)then qG l i (λu1=>qH atoms i (λu2=>qB (Zqz u1 u2 vars row) (r (aB l fr atoms vars row (w (i+1)))) (r (some (.own 4,[.arr 112 3 true (l.map Zl.c),.arr 110 2 fr (atoms.map Zd.c),.arr 3 1 true (vars.map ic),.arr 3 1 true (row.map ic),.arr 38 1 true (([]:XS).map Ae)])))))else if(row.length:Int)=(vars.length:Int)then qM row (r (some (.own 4,[.arr 112 3 true (l.map Zl.c),.arr 110 2 fr (atoms.map Zd.c),.arr 3 1 true (vars.map ic),.arr 3 1 true (row.map ic),.arr 38 1 true (([row]).map Ae)])))else r (aC l fr atoms vars row true ([]:XS) 0))/\
 ((iM aC λl fr atoms vars row fr1 out v r=>if v<=9 then qM row (qN row (qL (aA l fr atoms vars (row++[v])) λk1=>(∃(u1:List Zl),∃u2,∃(u3:List Zd),∃(u4:V2),∃(u5:V2),∃(u6:XS),k1=some (.own 4,[.arr 112 3 true (u1.map Zl.c),.arr 110 2 u2 (u3.map Zd.c),.arr 3 1 true (u4.map ic),.arr 3 1 true (u5.map ic),.arr 38 1 true (u6.map Ae)])/\out.length+u6.length<=68719476736/\r (aC u1 u2 u3 u4 row (fr1 && flat (u6.map Ae)) (out++u6) (w (v+1))))\/(∃(u1:List Zl),∃u2,∃(u3:List Zd),∃(u4:V2),∃(u5:V2),∃u6,∃(u7:XS),k1=some (.own 4,[.arr 112 3 true (u1.map Zl.c),.arr 110 2 u2 (u3.map Zd.c),.arr 3 1 true (u4.map ic),.arr 3 1 true (u5.map ic),.arr 38 1 u6 (u7.map Ae)])/\out.length+u7.length<=68719476736/\r (aC u1 u2 u3 u4 row (fr1 && flat (u7.map Ae)) (out++u7) (w (v+1))))))else r (some (.own 4,[.arr 112 3 true (l.map Zl.c),.arr 110 2 fr (atoms.map Zd.c),.arr 3 1 true (vars.map ic),.arr 3 1 true (row.map ic),.arr 38 1 fr1 (out.map Ae)])))/\
 (iM aA λx fr x1 x2 x3 r=>r (aB x fr x1 x2 x3 0)))))):=by
 refine qu ?_
 and_intros
 all_goals(intros;unfold Im;(try simp only[YW,oM,oP,oO,oQ,oS,Zqw,oT,YX,NP,YY,YZ,oU,Zqz,aB,aC,aA,NA,NO,oL,XC.c_def,Box.c_def,Zj.c_def,Zt.c_def,Zu.c_def,Zy.c_def,Zr.c_def,Zc.c_def,Run.c_def,IG,QA,nN,Kq,Wv,Z0,II,Vy,Qh,Zd.c_def,Zl.c_def,Bm,Z1H,Z1I,A7,AY]);(try simp only[AZ]);(try simp only[A0,gS,kk]))
 all_goals(repeat' first|refine Bs λ_=>?_|refine Br λ_ _=>?_|refine Bq λ_=>?_|refine AL ?_ ?_|exact False.elim)
 all_goals(intro h;first|rw[Zk Z11.eq_1]|refine run ZMK rfl ?_|rw[Zk Z14.eq_1]|refine run ZML rfl ?_|refine run ZMM rfl ?_|rw[Zk Z17.eq_1]|refine run ZMN rfl ?_|rw[Zk Z1A.eq_1]|refine run ZMO rfl ?_|refine run ZMP rfl ?_|rw[Zk Zqy.eq_1]|rw[Zk Zqx.eq_1]|rw[Zk Z1C.eq_1]|refine run ZMQ rfl ?_|rw[Zk Z1J.eq_1]|rw[Zk Z1K.eq_1]|refine Xx ZMR rfl ?_)
 all_goals (refine Yd ?_ h;clear h;first|(simp +decide[*,kk,tI,Ax,Z12,ZBP,Z15,ZBQ,ZBR,Z18,ZBS,Z1B,ZBT,ZBU,Z1G,Z1E,Z1F,Z1D,ZBV,Z1M,Z1L,ZBW];done)|((try simp only[eq_iff_iff,iff_true,iff_false]at *);simp +decide[*,kk,tI,Ax,Z12,ZBP,Z15,ZBQ,ZBR,Z18,ZBS,Z1B,ZBT,ZBU,Z1G,Z1E,Z1F,Z1D,ZBV,Z1M,Z1L,ZBW];done)|(rename_i a b _ x;cases ha:a.Done<;>cases hb:b.Done<;>first|(rw[ha,hb]at x;simp at x;done)|(simp +decide[ha,hb,kk,tI,Ax,Z12,ZBP,Z15,ZBQ,ZBR,Z18,ZBS,Z1B,ZBT,ZBU,Z1G,Z1E,Z1F,Z1D,ZBV,Z1M,Z1L,ZBW])))
abbrev XM:=uq ZO7
def ZO8:(((iM NQ λd q l fr atoms mask i r=>if i<(q.Atoms.length:Int)then ¬i<0/\if(Ai (As mask i) 1)=1 then qG q.Atoms i (λu1=>(∃u2 u3 u4,WG d u1.Name=some (.tup [.agg [.t (.str u2),I u3,.t .nil],Bo u4],[])/\qN l (qN atoms (r (NQ d q (l++[(⟨u2,u3,[]⟩:Zl)]) false (atoms++[u1]) mask (w (i+1))))))\/(∃(u2:XS),∃u3,∃u4,WG d u1.Name=some (.tup [.agg [.t (.str u3),I u4,.own 0],Bo true],[.arr 38 1 true (u2.map Ae)])/\qN l (qN atoms (r (NQ d q (l++[(⟨u3,u4,u2⟩:Zl)]) false (atoms++[u1]) mask (w (i+1)))))))else r (NQ d q l fr atoms mask (w (i+1)))else AX (Q9 q mask) (λu1=>qL (aA l fr atoms u1 ([]:V2)) λk1=>(∃(u2:List Zl),∃u3,∃(u4:List Zd),∃(u5:V2),∃(u6:V2),∃(u7:XS),k1=some (.own 4,[.arr 112 3 true (u2.map Zl.c),.arr 110 2 u3 (u4.map Zd.c),.arr 3 1 true (u5.map ic),.arr 3 1 true (u6.map ic),.arr 38 1 true (u7.map Ae)])/\VR u5 u7 r)\/(∃(u2:List Zl),∃u3,∃(u4:List Zd),∃(u5:V2),∃(u6:V2),∃u7,∃(u8:XS),k1=some (.own 4,[.arr 112 3 true (u2.map Zl.c),.arr 110 2 u3 (u4.map Zd.c),.arr 3 1 true (u5.map ic),.arr 3 1 true (u6.map ic),.arr 38 1 u7 (u8.map Ae)])/\r (some (.tup [.agg [.own 0,.own 1],Bo true],[.arr 3 1 true (u5.map ic),.arr 38 1 u7 (u8.map Ae)])))))/\
 (iM aD λa a1 a2 r=>qB (QA a a1) (qI (Wv a1) (λu2=>qB (Z0 a2 1 u2) (r (NQ a a1 ([]:List Zl) true ([]:List Zd) a2 0)) (BQ r))) (BQ r)))/\
 ((iM Zq1 λa a1 a2 r=>(aD a a1 a2=some (.tup [.agg [.t .nil,.t .nil],Bo false],[])/\qi (-1) r)\/(Vm (aD a a1 a2) (λu1 u2=>qi (u2.length:Int) r))\/(∃(u1:V2),∃u2,∃(u3:XS),aD a a1 a2=some (.tup [.agg [.own 0,.own 1],Bo true],[.arr 3 1 true (u1.map ic),.arr 38 1 u2 (u3.map Ae)])/\qi (u3.length:Int) r))/\
 (iM aE λd q out m r=>qI (Wv q) (λu1=>if m<=u1 then qB (QA d q) (qB (UD q m) (qI (Zq1 d q m) (λu4=>qN out (r (aE d q (out++[u4]) (w (m+1)))))) (qN out (r (aE d q (out++[0]) (w (m+1)))))) (Bn out r)else Bn out r))))/\
 (((iM oW λa a1 r=>r (aE a a1 ([]:V2) 0))/\
 (iM oY λout l i r=>if i<(l.length:Int)then qG l i (λu1=>qI (Uo u1) (λu2=>qN out (r (oY (out++[u2]) l (w (i+1))))))else Bn out r))/\
 ((iM oX λa a1 r=>AX (oW a a1) (λu1=>r (oY ([]:V2) u1 0)))/\
 (iM aF λa a1 r=>qB (Kq a) (qB (Nz a1 a.Low) (qV (Nz a.High a1) (λu3=>qb u3 r)) (qb false r)) (qb false r)))):=by
 refine qu ?_
 and_intros
 all_goals(intros;unfold Im;(try simp only[NQ,aD,Zq1,aE,oW,oY,oX,aF,WG,Q9,aA,Zd.c_def,Zj.c_def,Zc.c_def,Zl.c_def,QA,Wv,Z0,UD,Uo,Kq,Nz,Box.c_def,Bm,A7,AY]);(try simp only[AZ]);(try simp only[A0,gS,kk]))
 all_goals(repeat' first|refine Bs λ_=>?_|refine Br λ_ _=>?_|refine Bq λ_=>?_|refine AL ?_ ?_|exact False.elim)
 all_goals(intro h;first|rw[Zk Z1N.eq_1]|refine run ZMS rfl ?_|refine run ZMT rfl ?_|rw[Zk Z1P.eq_1]|refine run ZMU rfl ?_|rw[Zk Z1S.eq_1]|refine run ZMV rfl ?_|refine run ZMW rfl ?_)
 all_goals (refine Yd ?_ h;clear h;simp +decide[*,kk,tI,Ax,ZBX,Z1O,ZBY,ZBZ,ZCa,Z1Q,ZCb,Z1T,ZCc,ZCd])
abbrev Ut:=uq ZO8
@[simp] theorem Uu(a b c:Int):Xd a b c=some (Bo (Am a b c),[]):=by
 apply Wy.1.2.2.1;by_cases h:b<=a<;>simp[Am,h]
@[simp] theorem ZS(a b c:Int):Z0 a b c=some (Bo (Am a b c),[]):=by
 apply Xg.1.2.1.1;by_cases h:b<=a<;>simp[Am,h]
def ZO9(xs:V2)(v:Int)(hx:Le xs):∀i,i<=xs.length->
  lZ xs v xs.length i=some (I (XD (λx=>decide (v=x)) (xs.drop i) i),[]):=by
 refine down _ ?_ ?_
 .apply Wz.2.1.1.1;simp[XD]
 .intro i hi ih;apply Wz.2.1.1.1;have h4:=Xn (i:=i) E
  simp_all [Sf]
@[simp] def ZOA(xs:V2)(v:Int)(hx:Le xs):UG xs v=some (I (XD (λx=>decide (v=x)) xs 0),[]):=by
 apply Wz.2.1.1.2;have:=ZO9 xs v hx 0 (Yc _);simpa using this
@[simp] def pK(xs:V2)(v:Int)(hx:Le xs):GJ xs v=some (Bo (has xs v),[]):=by
 apply Wz.2.1.2.1;unfold has;rcases tf (xs.any (λx=>decide (v=x)))with e|e
 .simp_all [ZsM]
 .simp_all [Z5T]
def ZOB(xs:List Bool)(v:Bool)(hx:Le xs):∀i,i<=xs.length->
  l0 xs v xs.length i=some (I (XD (λx=>v == x) (xs.drop i) i),[]):=by
 refine down _ ?_ ?_
 .apply Wz.2.1.2.2;simp[XD]
 .intro i hi ih;apply Wz.2.1.2.2;have h4:=Xn (i:=i) E
  simp_all [Sf]
@[simp] def ZOC(xs:List Bool)(v:Bool)(hx:Le xs):Zpp xs v=some (Bo (xs.any (λx=>v == x)),[]):=by
 apply Wz.2.2.1.2;have q:Zpo xs v=some (I (XD (λx=>v == x) xs 0),[]):=by
  apply Wz.2.2.1.1;have:=ZOB xs v hx 0 (Yc _);simpa using this
 rcases tf (xs.any (λx=>v == x))with e|e
 .simp_all [ZsM]
 .simp_all [Z5T]
def ZOD(xs:V2)(v:Int)(hx:Le xs):∀i,i<=xs.length->hJ xs v i=some (Bo (has (xs.drop i) v),[]):=by
 unfold has;refine down _ ?_ ?_
 .simp[WM.1.1.2.1]
 .intro i hi ih;apply WM.1.1.2.1;have h4:=Xn (i:=i) E;rw[Z5P _ hi];simp at ih;by_cases e:v=xs[i]
  .simp[hi,h4,<-e]
  .have e':¬xs[i]=v:=λhc=>e hc.symm
   simp[hi,h4,e,e',ih]
@[simp] theorem G3(xs:V2)(v:Int)(hx:Le xs):VW xs v=some (Bo (has xs v),[]):=by
 apply WM.1.1.2.2;have:=ZOD xs v hx 0 (Yc _);simpa using this
def ZC2(s:KI)(P:Prop):(if(s.size:Int)=1 then(∃(b1:UInt8),s[0]?=some b1/\(if 97<=(b1.toNat:Int)then(some (Bo (decide ((b1.toNat:Int)<=122)),[])=some (Bo (UA s),([]:V3)))else(some (Bo false,[])=some (Bo (UA s),([]:V3)))))else(some (Bo false,[])=some (Bo (UA s),([]:V3)))):=by
 by_cases h:s.size=1
 .obtain⟨b,hb⟩:=AaA h;rw[An];refine⟨b,hb,?_⟩;have e:UA s=(decide (97<=(b.toNat:Int)) && decide ((b.toNat:Int)<=122)):=by
   unfold UA;rw[hb];simp only[h,decide_true,Yk]
  simp_all
 .have h':¬(s.size:Int)=1:=by omega
  have:UA s=false:=by unfold UA;split<;>simp[h]
  simp[h',this]
@[simp] def ZOE(s:KI):TT s=some (Bo (UA s),[]):=Wz.1.2.2.2 _ _ (ZC2 s True)
@[simp] def Z2b(s:KI):Mv s=some (Bo (UA s),[]):=Xg.1.1.2.2 _ _ (ZC2 s True)
def AW(q:Zc):Prop:=Le q.Atoms/\∀a∈q.Atoms,Le a.Vars
def DC(p:Nat->Bool)(n:Nat):List Bool:=(List.range n).map p
def ZOF(p:Nat->Bool)(n:Nat){v:Int}(h:Am v 0 ((n:Int)-1)=true):(DC p n).set v.toNat true=DC (WE p [v]) n:=by
 simp[Am]at h;apply D9
 .simp[DC]
 .intro i h1 h2;simp only[DC,Y7,Y1,List.length_range]at h1;rw[List.getElem_set];simp only[DC,List.getElem_map,List.getElem_range];by_cases e:v.toNat=i
  .have:(i:Int)=v:=by omega
   simp[e,WE,has,this]
  .have:¬(i:Int)=v:=by omega
   simp[e,WE,has,this]
def ZOG(q:Zc)(n:Nat)(hn:n<=4)(hq:q.Zi=n)(a:Zd)(qa:List Zd)(l j:Int)(hv:Le a.Vars)(r:XR):∀k,k<=a.Vars.length->∀p,
  (if UB n (a.Vars.take k) (a.Vars.drop k)=true then M5 q (DC (WE p (a.Vars.drop k)) n) qa l (w (j+1))=some r else some (Bo false,[])=some r)->
  l8 q (DC p n) a qa l j a.Vars a.Vars.length k=some r:=by
 refine down _ ?_ ?_
 .intro p h;apply Wz.2.2.2.2.1;simpa[UB,ZsJ]using h
 .intro k hk ih p h;have h4:=Xn (i:=k) E;have hw:w (q.Zi-1)=(n:Int)-1:=by rw[hq];exact ZF E E
  have hl:=pK (a.Vars.take k) a.Vars[k] (by simp;omega);apply Wz.2.2.2.2.1;rw[Z5U _ hk]at h;rcases tf (Am a.Vars[k] 0 ((n:Int)-1))with e1|e1
  .simp_all
  .rcases tf (has (a.Vars.take k) a.Vars[k])with e2|e2
   .rw[ZsK p hk]at h;simp only[e1,e2,Yk,Bool.not_false]at h;have ih:=ih _ h;have e0:=e1;simp[Am]at e0;have e5:(a.Vars[k]).toNat<(DC p n).length:=by simp[DC];omega
    have e6:=ZOF p n e1;have e7:k<=a.Vars.length:=by omega
    simp_all
   .simp[e1,e2]at h;have e7:k<=a.Vars.length:=by omega
    simp_all
def ZOH(q:Zc)(n:Nat)(hn:n<=4)(hq:q.Zi=n)(qa:List Zd)(hl:Le qa)(hv:∀a∈qa,Le a.Vars):∀k,k<=qa.length->∀p,
  M5 q (DC p n) qa qa.length k=some (Bo ((qa.drop k).all (WF n) && (List.range n).all (Ul p (qa.drop k))),[]):=by
 refine down _ ?_ ?_
 .intro p;apply Wz.2.2.2.1;have e:Ul p []=p:=by funext u;simp[Ul]
  have q1:=ZOC (DC p n) false (by simp[DC];omega);have q2:(DC p n).any (λx=>false == x)=!(List.range n).all p:=Mi p n
  simp_all
 .intro k hk ih p;apply Wz.2.2.2.1;have h4:=Xn (i:=k) E;rw[ZsI _ hk];rcases tf (UA qa[k].Name)with e1|e1
  .simp[hk,e1,WF]
  rcases tf (Am qa[k].Vars.length 1 3)with e2|e2
  .simp[hk,e1,e2,WF]
  have b:=ZOG q n hn hq qa[k] qa qa.length k (hv _ (Ye hk)) (Bo (WF n qa[k] && (qa.drop (k+1)).all (WF n) && (List.range n).all (Ul p (qa.drop k))),[]) 0 (Yc _) p ?_
  .simp_all
  .simp only[cW,Yq,WF,e1,e2,Yk]
   simp_all [tf,Yk,Z5V]
@[simp] def Z2c(q:Zc)(h:AW q):Ir q=some (Bo (Zx q.Zi q.Atoms),[]):=by
 apply ZNL;unfold Zx;rcases tf (Am q.Zi 1 4)with e1|e1
 .simp[e1]
 rcases tf (Am q.Atoms.length 1 4)with e2|e2
 .simp[e1,e2]
 have e0:=e1;simp[Am]at e0;have hn:q.Zi=(q.Zi.toNat:Int):=by omega
 have b:=ZOH q q.Zi.toNat E hn q.Atoms h.1 h.2 0 (Yc _) (λ_=>false);have r1:q.Zi.toNat<=room:=fA E;have r2:q.Zi<=room:=by
  omega
 have r3:q.Zi<=140737488355328:=by omega
 have ez:DC (λ_=>false) q.Zi.toNat=List.replicate q.Zi.toNat false:=by
  apply D9<;>simp[DC]
 rw[ez,<-hn]at b;simp at b;simp[e1,e2,e0,r1,r2,r3,b];omega
def ZOI(q:Zc)(n:Nat)(c:1<=n)(hn:n<=4)(hq:q.Zi=n)(a:Zd)(j:Int)(hv:Le a.Vars)(r:XR):∀k,k<=a.Vars.length->∀p,
  (if UB n (a.Vars.take k) (a.Vars.drop k)=true then SL q (Xi (WE p (a.Vars.drop k))) (w (j+1))=some r else some (Bo false,[])=some r)->
  iZ q a (Xi p) j k=some r:=by
 refine down _ ?_ ?_
 .intro p h;apply pC.2.1;simpa[UB,ZsJ]using h
 .intro k hk ih p h;have h4:=Xn (i:=k) E;have hw:w (q.Zi-1)=(n:Int)-1:=by rw[hq];exact ZF E E
  have hl:=G3 (a.Vars.take k) a.Vars[k] (by simp;omega);have e7:k<=a.Vars.length:=by omega
  apply pC.2.1;rw[Z5U _ hk]at h;rcases tf (Am a.Vars[k] 0 ((n:Int)-1))with e1|e1
  .simp_all
  .rcases tf (has (a.Vars.take k) a.Vars[k])with e2|e2
   .rw[ZsK p hk]at h;simp only[e1,e2,Yk,Bool.not_false]at h;have ih:=ih _ h;have e0:=e1;simp[Am]at e0;have e6:=ZsL p (v:=a.Vars[k]) (by simp[Am];omega)
    simp_all
   .simp_all
def pL(n:Int)(p:Nat->Bool):Bool:=decide (Xi p=w (Ac 1 n-1))
def ZOJ(q:Zc)(n:Nat)(c:1<=n)(hn:n<=4)(hq:q.Zi=n)(hl:Le q.Atoms)(hv:∀a∈q.Atoms,Le a.Vars):∀k,k<=q.Atoms.length->∀p,
  SL q (Xi p) k=some (Bo ((q.Atoms.drop k).all (WF n) && pL n (Ul p (q.Atoms.drop k))),[]):=by
 refine down _ ?_ ?_
 .intro p;apply pC.1;have e:Ul p []=p:=by funext u;simp[Ul]
  have h0:¬(n:Int)<0:=by omega
  simp[e,hq,h0,pL]
 .intro k hk ih p;apply pC.1;have h4:=Xn (i:=k) E;rw[ZsI _ hk];rcases tf (UA q.Atoms[k].Name)with e1|e1
  .simp[hk,e1,WF]
  rcases tf (Am q.Atoms[k].Vars.length 1 3)with e2|e2
  .simp[hk,e1,e2,WF]
  have b:=ZOI q n c hn hq q.Atoms[k] k (hv _ (Ye hk)) (Bo (WF n q.Atoms[k] && (q.Atoms.drop (k+1)).all (WF n) && pL n (Ul p (q.Atoms.drop k))),[]) 0 (Yc _) p ?_
  .simp_all
  .simp only[cW,Yq,WF,e1,e2,Yk]
   simp_all [tf,Yk,Z5V]
@[simp] def pM(q:Zc)(h:AW q):Kj q=some (Bo (Zx q.Zi q.Atoms),[]):=by
 apply pC.2.2;unfold Zx;rcases tf (Am q.Zi 1 4)with e1|e1
 .simp[e1]
 rcases tf (Am q.Atoms.length 1 4)with e2|e2
 .simp[e1,e2]
 have e0:=e1;simp[Am]at e0;obtain⟨k,hk⟩:∃k:Nat,q.Zi=k:=⟨q.Zi.toNat,E⟩;have b:=ZOJ q k E E hk h.1 h.2 0 (Yc _) (λ_=>false);have ez:Xi (λ_=>false)=0:=rfl;rw[ez]at b;simp only[Yq,Int.ofNat_zero]at b;have e3:(q.Atoms.all (WF k) && pL k (Ul (λ_=>false) q.Atoms))=(q.Atoms.all (WF k) && (List.range k).all (Ul (λ_=>false) q.Atoms)):=by
  rcases tf (q.Atoms.all (WF k))with e3|e3
  .simp[e3]
  .have hk':k=1\/k=2\/k=3\/k=4:=by omega
   have hz:=all_in e3;have hz':∀u:Nat,k<=u->Ul (λ_=>false) q.Atoms u=false:=λu hu=>by simp only[Ul,HA];exact hz u E
   rw[e3,Yk,Yk,Ft,pL,decide_eq_true_eq,Xi];rcases hk' with rfl|rfl|rfl|rfl
   .simp[Ac,ZF,Zn3,hz' 1 E,hz' 2 E,hz' 3 E,Di]
   .simp[Ac,ZF,Zn3,hz' 2 E,hz' 3 E,Di]
   .simp[Ac,ZF,Zn3,hz' 3 E,Di,and_assoc]
   .simp[Ac,ZF,Zn3,Di,and_assoc]
 simp_all
@[simp] def ZOK(q:Zc)(h:AW q):Zp5 q=some (I (ZU q.Zi q.Atoms),[]):=by
 apply WN.1.2.2.2.2;have q1:=Z2c q h;unfold ZU;rcases tf (Zx q.Zi q.Atoms)with e|e
 .simp[q1,e]
 .have:=(Jv e).2.2.1;have h0:¬((q.Atoms.length:Int)<0):=by omega
  simp[q1,e,this,h0]
@[simp] def W5(q:Zc)(h:AW q):Wv q=some (I (ZU q.Zi q.Atoms),[]):=by
 apply XG.1.2.2.2.1;have q1:=pM q h;unfold ZU;rcases tf (Zx q.Zi q.Atoms)with e|e
 .simp[q1,e]
 .have:=(Jv e).2.2.1
  simp_all
def ZOL(xs:V2)(hx:Le xs):∀i,i<=xs.length->nP xs i=some (Bo (Gm (xs.drop i) && decide ((xs.length:Int)<=16)),[]):=by
 refine down _ ?_ ?_
 .apply W1.1.1.1.2;simp[Gm]
 .intro i hi ih;apply W1.1.1.1.2;have h4:=Xn (i:=i) E;rw[Z5Q hi];simp at ih;rcases tf (Am xs[i] 0 7)with h|h<;>simp[hi,h4,h,ih]
@[simp] def ZC3(xs:V2)(hx:Le xs):nO xs=some (Bo (Ke xs),[]):=by
 apply W1.1.1.2.1;have:=ZOL xs hx 0 (Yc _);simpa[Ke]using this
def ZOM(xs:V2)(hx:Le xs):∀i,i<=xs.length->mN xs xs xs.length i=some (Bo (Gm (xs.drop i) && decide ((xs.length:Int)<=16)),[]):=by
 refine down _ ?_ ?_
 .apply WN.1.1.2.2;simp[Gm]
 .intro i hi ih;apply WN.1.1.2.2;have h4:=Xn (i:=i) E;rw[Z5Q hi];simp at ih;rcases tf (Am xs[i] 0 7)with h|h<;>simp[hi,h4,h,ih]
@[simp] def ZC4(xs:V2)(hx:Le xs):mM xs=some (Bo (Ke xs),[]):=by
 apply WN.1.2.1.1;have:=ZOM xs hx 0 (Yc _);simpa[Ke]using this
def ZON(xs ys:V2)(hx:Le xs)(hl:ys.length=xs.length):∀i,i<=xs.length->nQ xs ys i=some (Bo (Q7 (xs.drop i) (ys.drop i)),[]):=by
 refine down _ ?_ ?_
 .apply W1.1.1.2.2;simp[Q7]
 .intro i hi ih;apply W1.1.1.2.2;have hi2:i<ys.length:=by omega
  have h4:=Xn (i:=i) E;rw[Z5R hi hi2];simp at ih;by_cases h:xs[i]<ys[i]
  .simp[hi,hi2,h4,h,show ¬ys[i]<=xs[i] by omega]
  .simp[hi,hi2,h4,h,show ys[i]<=xs[i] by omega,ih]
@[simp] def Z2d(xs ys:V2)(hx:Le xs):Nz xs ys=some (Bo (dom xs ys),[]):=by
 apply W1.1.2.1.1;by_cases hl:ys.length=xs.length
 .have:=ZON xs ys hx hl 0 (Yc _);simp at this;simp[hl,this,dom]
 .have h2:¬((xs.length:Int)=ys.length):=by omega
  have h1:¬(xs.length=ys.length):=by omega
  simp[h1,h2,dom]
def ZOO(xs ys:V2)(hx:Le xs)(hl:ys.length=xs.length):∀i,i<=xs.length->mO xs ys xs.length i=some (Bo (Q7 (xs.drop i) (ys.drop i)),[]):=by
 refine down _ ?_ ?_
 .apply WN.1.2.1.2;simp[Q7]
 .intro i hi ih;apply WN.1.2.1.2;have hi2:i<ys.length:=by omega
  have h4:=Xn (i:=i) E;rw[Z5R hi hi2];simp at ih;by_cases h:xs[i]<ys[i]
  .simp[hi,hi2,h4,h,show ¬ys[i]<=xs[i] by omega]
  .simp[hi,hi2,h4,h,show ys[i]<=xs[i] by omega,ih]
@[simp] def ZOP(xs ys:V2)(hx:Le xs):Zp4 xs ys=some (Bo (dom xs ys),[]):=by
 apply WN.1.2.2.1;by_cases hl:ys.length=xs.length
 .have:=ZOO xs ys hx hl 0 (Yc _);simp at this;simp[hl,this,dom]
 .have h2:¬((xs.length:Int)=ys.length):=by omega
  have h1:¬(xs.length=ys.length):=by omega
  simp[h1,h2,dom]
def LeX(b:Box):Prop:=Le b.Low/\Le b.High
@[simp] def Zq8(b:Box)(h:LeX b):Iu b=some (Bo (WR b.Low b.High),[]):=by
 apply WN.1.2.2.2.1;have q1:=ZC4 b.Low h.1;have q2:=ZC4 b.High h.2;have q3:=ZOP b.High b.Low h.2;unfold WR;rcases tf (Ke b.Low)with e1|e1<;>rcases tf (Ke b.High)with e2|e2<;>by_cases e3:0<b.Low.length<;>simp[q1,q2,q3,e1,e2,e3]
@[simp] def aJ(b:Box)(h:LeX b):Kq b=some (Bo (WR b.Low b.High),[]):=by
 apply W1.1.2.1.2;have q1:=ZC3 b.Low h.1;have q2:=ZC3 b.High h.2;have q3:=Z2d b.High b.Low h.2;unfold WR;rcases tf (Ke b.Low)with e1|e1<;>rcases tf (Ke b.High)with e2|e2<;>by_cases e3:0<b.Low.length<;>simp[q1,q2,q3,e1,e2,e3]
def ZOQ(q:Zc)(m:Int)(hl:Le q.Atoms)(hv:∀a∈q.Atoms,Le a.Vars)(v:Nat)(c:v<8)(out:V2)(ho:out.length<=8)(r:XR):∀i,i<=q.Atoms.length->
  M6 q (out++if Xu m (q.Atoms.drop i) i v=true then[(v:Int)]else[]) m (w ((v:Int)+1))=some r->
  mJ q out m v q.Atoms q.Atoms.length i=some r:=by
 refine down _ ?_ ?_
 .intro h;apply Vn.2.1.1;simpa[Xu]using h
 .intro i hi ih h;apply Vn.2.1.1;have h4:=Xn (i:=i) E;have c1:=pK q.Atoms[i].Vars v (hv _ (Ye hi));have h0:¬(i:Int)<0:=by omega
  rw[ZsN _ hi]at h;by_cases e1:Ai (As m i) 1=1
  .have e2:Zw m i=true:=by simp[Zw,e1]
   rcases tf (has q.Atoms[i].Vars v)with e3|e3
   .simp_all
   .simp[e2,e3]at h;have e4:out.length+1<=68719476736:=by omega
    simp_all
  .have e2:Zw m i=false:=by simp[Zw,e1]
   simp_all
def ZOR(q:Zc)(m:Int)(hl:Le q.Atoms)(hv:∀a∈q.Atoms,Le a.Vars)(n:Nat)(hq:q.Zi=n)(hn:n<=4):∀k,k<=n->
  M6 q (ZX m q.Atoms k) m k=some (.own 0,[.arr X5 1 true ((ZX m q.Atoms n).map ic)]):=by
 refine down _ ?_ ?_
 .simp_all [Vn.1.2.2]
 .intro k hk ih;apply Vn.1.2.2;have h4:=Xn (i:=k) E
  have b:=ZOQ q m hl hv k E (ZX m q.Atoms k) (by have:=Mj m q.Atoms k;omega) _ 0 (Yc _) (by
   rw[Yq,<-ZIj,show w ((k:Int)+1)=(k:Int)+1 from h4];simpa using ih)
  simp_all
@[simp] def Z2e(q:Zc)(m:Int)(h:AW q)(hv:Zx q.Zi q.Atoms=true):TV q m=some (.own 0,[.arr X5 1 true ((ZX m q.Atoms q.Zi.toNat).map ic)]):=by
 apply Vn.2.1.2;have hn:=Kf hv;have b:=ZOR q m h.1 h.2 q.Zi.toNat E E 0 (Yc _);simpa[ZX]using b
def NW(b xs:V2)(hb:Le b)(hx:xs.length<=1000000):∀i,i<=xs.length->
  TW ((xs.take i).filter (has b)) b xs xs.length i=some (.own 0,[.arr X5 1 true ((xs.filter (has b)).map ic)]):=by
 refine down _ ?_ ?_
 .simp[Vn.2.2.1]
 .intro i hi ih;apply Vn.2.2.1;have h4:=Xn (i:=i) E;have c1:=pK b xs[i] hb;have e4:((xs.take i).filter (has b)).length+1<=68719476736:=by
   grind
  rw[Z5W _ hi]at ih;rcases tf (has b xs[i])with e|e
  .simp_all
  .simp_all
@[simp] def NX(xs b:V2)(hb:Le b)(hx:xs.length<=1000000):Zp2 xs b=some (.own 0,[.arr X5 1 true ((xs.filter (has b)).map ic)]):=by
 apply Vn.2.2.2.1;have:=NW b xs hb hx 0 (Yc _);simpa using this
def ZOS(q:Zc)(m:Int)(hv:∀a∈q.Atoms,Le a.Vars)(c:Zn4 q.Atoms)(i:Nat)(hi:i<q.Atoms.length)(hm:Zw m i=true)(r:XR):∀k,k<=q.Atoms[i].Vars.length->∀p,
  SR q m (Xi (WE p (q.Atoms[i].Vars.drop k))) (w ((i:Int)+1))=some r->jD q m (Xi p) i k=some r:=by
 have e1:Ai (As m i) 1=1:=by simpa[Zw]using hm
 have h0:¬(i:Int)<0:=by omega
 have ha:=Ye hi;refine down _ ?_ ?_
 .simp_all [XG.2.1.1.2,Yl,ZsJ]
 .intro k hk ih p h;apply XG.2.1.1.2;have h4:=Xn (i:=k) (by have:=hv _ ha;omega);have e6:=ZsL p (v:=q.Atoms[i].Vars[k]) (c _ ha _ (Ye hk));have e7:=c _ ha _ (Ye hk);simp[Am]at e7
  simp_all [ZsK]
def ZOT(q:Zc)(m:Int)(hl:Le q.Atoms)(hv:∀a∈q.Atoms,Le a.Vars)(c:Zn4 q.Atoms):∀i,i<=q.Atoms.length->∀p,
  SR q m (Xi p) i=some (I (Xi (Gq m p q.Atoms i)),[]):=by
 refine down _ ?_ ?_
 .intro p;apply XG.2.1.1.1;have e:Gq m p q.Atoms q.Atoms.length=p:=by funext u;simp[Gq,Xu]
  simp[e]
 .intro i hi ih p;apply XG.2.1.1.1;have h4:=Xn (i:=i) E;have h0:¬(i:Int)<0:=by omega
  rw[ZIi m p hi];rcases tf (Zw m i)with e|e
  .have e1:¬Ai (As m i) 1=1:=by simpa[Zw]using e
   simp_all [XG.2.1.1.2]
  .have ih:=ih (WE p q.Atoms[i].Vars);have b:=ZOS q m hv c i hi e _ 0 (Yc _) p (by rw[Yq,show w ((i:Int)+1)=(i:Int)+1 from h4];simpa using ih);simp at b;simp[hi,e,b]
@[simp] def IV(q:Zc)(m:Int)(h:AW q)(c:Zn4 q.Atoms):Un q m=some (I (Xi (pV m q.Atoms)),[]):=by
 apply XG.2.1.2.1;have b:=ZOT q m h.1 h.2 c 0 (Yc _) (λ_=>false);have ez:Xi (λ_=>false)=0:=rfl;have e:Gq m (λ_=>false) q.Atoms 0=pV m q.Atoms:=by funext u;simp[Gq,pV]
 simp_all
def ZOU(q:Zc)(hq:AW q)(h:Zx q.Zi q.Atoms=true)(x:Zn)(info:List Zf)(st:V2)(hs:Vc info st)(cc:info.length<=100)(cd:st.length<=100) :
  match Wm q.Atoms x info st with
  |some y=>M7 q x info st=some (.tup [.agg (y.c.map .t),Bo true],[])
  |none=>∃y:Zf,M7 q x info st=some (.tup [.agg (y.c.map .t),Bo false],[]):=by
 have hl:=XF h;have wl:w ((q.Atoms.length:Int)-1)=(q.Atoms.length:Int)-1:=ZF E E;unfold Wm;by_cases k1:x.Kind=1
 .rw[Ya k1];by_cases c1:Am x.Zd 0 (q.Atoms.length-1)=true/\x.Order=0
  .rw[Ya c1];have c2:=c1.1;simp[Am]at c2;have hlt:x.Zd.toNat<q.Atoms.length:=by omega
   have hv:=Sg h _ (Ye hlt);have h0:¬x.Zd<0:=by omega
   simp only;apply Vn.2.2.2.2;have e:q.Atoms[x.Zd.toNat].Vars.headD 0=q.Atoms[x.Zd.toNat].Vars[0]' E:=by
    rw[Ydu,hd0 E]
   rw[Ydu]at e;simp[k1,wl,c1,h0,hlt,c2,e,show 0<q.Atoms[x.Zd.toNat].Vars.length by omega]
  .rw[Yb c1];refine⟨⟨0,-1,-1,-1⟩,Vn.2.2.2.2 _ _ _ _ _ ?_⟩;rcases tf (Am x.Zd 0 (q.Atoms.length-1))with e|e
   .simp[k1,wl,e]
   .have e2:¬x.Order=0:=λhc=>c1 ⟨e,hc⟩
    simp[k1,wl,e,e2]
 rw[Yb k1];by_cases k0:x.Zd=0
 rotate_left
 .rw[Ya k0];exact⟨⟨0,-1,-1,-1⟩,Vn.2.2.2.2 _ _ _ _ _ (by simp[k1,k0])⟩
 rw[Yb (by simpa using k0)];have w1:w ((st.length:Int)-1)=(st.length:Int)-1:=ZF E E;have w2:w ((st.length:Int)-2)=(st.length:Int)-2:=ZF E E;by_cases k2:x.Kind=2
 .rw[Ya k2];by_cases n1:st.length<1
  .have:XY st info 1=none:=by unfold XY;rw[Ao]
   rw[this];have n1':(st.length:Int)<1:=by omega
   exact⟨⟨0,-1,-1,-1⟩,Vn.2.2.2.2 _ _ _ _ _ (by simp[k1,k2,k0,n1'])⟩
  .have n1':¬(st.length:Int)<1:=by omega
   obtain⟨s,y,t1,t2,t3,t4⟩:=Mk hs (E:1<=1) (E:1<=st.length);have z1:(0:Int)<=(st.length:Int)-1:=by omega
   have z5:(1:Int)<=(st.length:Int):=by omega
   have z2:((st.length:Int)-1).toNat=st.length-1:=by omega
   have q1:=Z2e q y.Mask hq h;have q2:=pK (ZX y.Mask q.Atoms q.Zi.toNat) x.Order (by have:=Mj y.Mask q.Atoms q.Zi.toNat;have:=Kf h;omega);rw[Ml h]at q2;rw[t1];simp only;by_cases c1:Bz q.Atoms y.Mask x.Order=true/\y.Order≠x.Order
   .rw[Ya c1];apply Vn.2.2.2.2;simp[k1,k2,k0,n1',w1,z1,z2,z5,t2,t3,t4,q1,q2,c1]
   .rw[Yb c1];refine⟨⟨0,-1,-1,-1⟩,Vn.2.2.2.2 _ _ _ _ _ ?_⟩;rcases tf (Bz q.Atoms y.Mask x.Order)with e|e
    .simp[k1,k2,k0,n1',w1,z1,z2,z5,t2,t3,t4,q1,q2,e]
    .have e2:y.Order=x.Order:=Decidable.byContradiction λhc=>c1 ⟨e,hc⟩
     simp[k1,k2,k0,n1',w1,z1,z2,z5,t2,t3,t4,q1,q2,e,e2]
 rw[Yb k2];by_cases n2:st.length<2
 .have:XY st info 2=none:=by unfold XY;rw[Ao]
  rw[this];have DE:(st.length:Int)<2:=by omega
  exact⟨⟨0,-1,-1,-1⟩,Vn.2.2.2.2 _ _ _ _ _ (by simp[k1,k2,k0,DE])⟩
 have DE:¬(st.length:Int)<2:=by omega
 obtain⟨s,y,t1,t2,t3,t4⟩:=Mk hs (E:1<=2) (E:2<=st.length);obtain⟨t,z,u1,u2,u3,u4⟩:=Mk hs (E:1<=1) (E:1<=st.length);have z1:(0:Int)<=(st.length:Int)-1:=by omega
 have z2:((st.length:Int)-1).toNat=st.length-1:=by omega
 have z3:(0:Int)<=(st.length:Int)-2:=by omega
 have z4:((st.length:Int)-2).toNat=st.length-2:=by omega
 have hn:=Kf h;have q1:=Z2e q y.Mask hq h;have q2:=Z2e q z.Mask hq h;have l1:=Mj y.Mask q.Atoms q.Zi.toNat;have l2:=Mj z.Mask q.Atoms q.Zi.toNat;have q3:=NX (ZX y.Mask q.Atoms q.Zi.toNat) (ZX z.Mask q.Atoms q.Zi.toNat) E E
 have q4:=pK ((ZX y.Mask q.Atoms q.Zi.toNat).filter (has (ZX z.Mask q.Atoms q.Zi.toNat))) x.Order (by
  have:=Ydv (has (ZX z.Mask q.Atoms q.Zi.toNat)) (ZX y.Mask q.Atoms q.Zi.toNat);omega)
 rw[ZIk h]at q4;have q5:=Z5X h y.Mask z.Mask;generalize hS:(ZX y.Mask q.Atoms q.Zi.toNat).filter (has (ZX z.Mask q.Atoms q.Zi.toNat))=S at q3 q4 q5;rw[t1,u1];simp only
 have base:∀(r:XR),(if Ai y.Mask z.Mask=0 then
    if((S.length:Int)=0)then some (.tup [.agg [I (Az y.Mask z.Mask),I (-1),I s,I t],Bo false],[])=some r
    else if x.Kind=3 then some (.tup [.agg [I (Az y.Mask z.Mask),I (-1),I s,I t],Bo (decide (x.Order=0))],[])=some r
    else if x.Kind=5 then some (.tup [.agg [I (Az y.Mask z.Mask),I y.Order,I s,I t],Bo (decide (x.Order=0))],[])=some r
    else if x.Kind=4 then
     if(Bz q.Atoms y.Mask x.Order && Bz q.Atoms z.Mask x.Order)=true then
      if y.Order=x.Order then some (.tup [.agg [I (Az y.Mask z.Mask),I x.Order,I s,I t],Bo (decide (z.Order=x.Order))],[])=some r
      else some (.tup [.agg [I (Az y.Mask z.Mask),I x.Order,I s,I t],Bo false],[])=some r
     else some (.tup [.agg [I (Az y.Mask z.Mask),I x.Order,I s,I t],Bo false],[])=some r
    else some (.tup [.agg [I (Az y.Mask z.Mask),I (-1),I s,I t],Bo false],[])=some r
   else some (.tup [.agg [I (Az y.Mask z.Mask),I (-1),I s,I t],Bo false],[])=some r)->M7 q x info st=some r:=by
  intro r hr;apply Vn.2.2.2.2;simp only[k1,k0,k2,if_false,if_true,DE,w1,w2,z1,z2,z3,z4,t2,t3,t4,u2,u3,u4,q1,q2,true_and,C0,exists_eq_left'];refine⟨_,rfl,_,rfl,S,?_,?_⟩
  .simpa using q3
  .simp only[q4,C0,Dj,AV.t.injEq,T.bool.injEq,and_true,exists_eq_left'];simpa using hr
 by_cases c1:Ai y.Mask z.Mask=0/\shr q.Atoms y.Mask z.Mask=true
 rotate_left
 .rw[Yb c1];refine⟨⟨Az y.Mask z.Mask,-1,s,t⟩,base _ ?_⟩;by_cases c2:Ai y.Mask z.Mask=0
  .have c3:S.length=0:=q5.2 (by rcases tf (shr q.Atoms y.Mask z.Mask)with e|e;exact e;exact absurd ⟨c2,e⟩ c1);have c4:(S.length:Int)=0:=by omega
   rw[Ya c2,Ya c4];simp
  .rw[Yb c2];simp
 rw[Ya c1];have c4:¬(S.length:Int)=0:=λhc=>by
  have:=q5.1 E;rw[c1.2]at this;cases this
 have c5:¬S=[]:=λhc=>c4 (by simp[hc])
 unfold Vw;by_cases j1:x.Kind=3/\x.Order=0
 .rw[Ya j1];exact base _ (by simp[c1.1,c4,c5,j1])
 rw[Yb j1];by_cases j2:x.Kind=5/\x.Order=0
 .rw[Ya j2];exact base _ (by simp[c1.1,c4,c5,j2])
 rw[Yb j2];by_cases j3:x.Kind=4/\Bz q.Atoms y.Mask x.Order=true/\Bz q.Atoms z.Mask x.Order=true/\y.Order=x.Order/\z.Order=x.Order
 .rw[Ya j3];exact base _ (by simp[c1.1,c4,c5,j3])
 rw[Yb j3];simp only[Option.map_none];by_cases k3:x.Kind=3
 .have e:¬x.Order=0:=λhc=>j1 ⟨k3,hc⟩
  exact⟨⟨Az y.Mask z.Mask,-1,s,t⟩,base _ (by simp[c1.1,c4,c5,k3,e])⟩
 by_cases k5:x.Kind=5
 .have e:¬x.Order=0:=λhc=>j2 ⟨k5,hc⟩
  exact⟨⟨Az y.Mask z.Mask,y.Order,s,t⟩,base _ (by simp[c1.1,c4,c5,k5,e])⟩
 by_cases k4:x.Kind=4
 .refine⟨⟨Az y.Mask z.Mask,x.Order,s,t⟩,base _ ?_⟩;rcases tf (Bz q.Atoms y.Mask x.Order)with e1|e1<;>rcases tf (Bz q.Atoms z.Mask x.Order)with e2|e2<;>by_cases e3:y.Order=x.Order<;>simp[c1.1,c4,c5,k4,e1,e2,e3];exact λe4=>j3 ⟨k4,e1,e2,e3,e4⟩
 .exact⟨⟨Az y.Mask z.Mask,-1,s,t⟩,base _ (by simp[c1.1,c4,c5,k3,k4,k5])⟩
@[simp] def Zq9(b v:Int):SW b v=some (Bo (Am v 0 3 && decide (Ai (As b v) 1=1)),[]):=by
 apply X6.1.2.1;rcases tf (Am v 0 3)with e|e
 .simp[e]
 .have e0:=e;simp[Am]at e0
  simp_all
def XH(x:Zn):Option Zf->XR
 |some y=>(.tup [.agg (y.c.map .t),I (Mm x)],[])
 |none=>(.tup [.agg [I 0,I 0,I 0,I 0],I (-1)],[])
def ZOV(q:Zc)(hq:AW q)(h:Zx q.Zi q.Atoms=true)(x:Zn)(info:List Zf)(st:V2)(hs:Vc info st)(cc:info.length<=100)(cd:st.length<=100) :
  MH q x info st=some (XH x (Wm q.Atoms x info st)):=by
 have hl:=XF h;have wl:w ((q.Atoms.length:Int)-1)=(q.Atoms.length:Int)-1:=ZF E E;unfold Wm;by_cases k1:x.Kind=1
 .rw[Ya k1];by_cases c1:Am x.Zd 0 (q.Atoms.length-1)=true/\x.Order=0
  .rw[Ya c1];have c2:=c1.1;simp[Am]at c2;have hlt:x.Zd.toNat<q.Atoms.length:=by omega
   have hv:=Sg h _ (Ye hlt);have h0:¬x.Zd<0:=by omega
   apply X6.2.1.1;have e:q.Atoms[x.Zd.toNat].Vars.headD 0=q.Atoms[x.Zd.toNat].Vars[0]' E:=by
    grind [hd0]
   rw[Ydu]at e;simp[k1,wl,c1,h0,hlt,c2,e,XH,Mm,show 0<q.Atoms[x.Zd.toNat].Vars.length by omega]
  .rw[Yb c1];apply X6.2.1.1;rcases tf (Am x.Zd 0 (q.Atoms.length-1))with e|e
   .simp[k1,wl,e,XH]
   .have e2:¬x.Order=0:=λhc=>c1 ⟨e,hc⟩
    simp[k1,wl,e,e2,XH]
 rw[Yb k1];have w1:w ((st.length:Int)-1)=(st.length:Int)-1:=ZF E E;have w2:w ((st.length:Int)-2)=(st.length:Int)-2:=ZF E E;by_cases k0:x.Zd=0
 rotate_left
 .rw[Ya k0];apply X6.2.1.1;have j:∀b,SY q x ⟨0,0,0,0⟩ info st st.length x.Kind b=some (XH x none):=by
   intro b;apply pF;cases b<;>simp[k0,XH]
  by_cases k2:x.Kind=2
  .simp[k1,k2,k0,XH]
  .by_cases k3:x.Kind=3<;>by_cases k4:x.Kind=4<;>simp[k1,k2,k0,k3,k4,j]<;>first|(simp only[k3]at j;simp[j,XH])|(simp only[k4]at j;simp[j,XH])|simp[XH]
 rw[Yb (by simpa using k0)];by_cases k2:x.Kind=2
 .rw[Ya k2];apply X6.2.1.1;by_cases n1:st.length<1
  .have:XY st info 1=none:=by unfold XY;rw[Ao]
   rw[this];have n1':(st.length:Int)<1:=by omega
   simp[k1,k2,k0,n1',XH]
  .have n1':¬(st.length:Int)<1:=by omega
   obtain⟨s,y,t1,t2,t3,t4⟩:=Mk hs (E:1<=1) (E:1<=st.length);have z1:(0:Int)<=(st.length:Int)-1:=by omega
   have z5:(1:Int)<=(st.length:Int):=by omega
   have z2:((st.length:Int)-1).toNat=st.length-1:=by omega
   have q1:=IV q y.Mask hq (Gp h);have q2:(Am x.Order 0 3 && decide (Ai (As (Xi (pV y.Mask q.Atoms)) x.Order) 1=1))=Bz q.Atoms y.Mask x.Order:=by
    unfold Bz;rcases tf (Am x.Order 0 3)with e|e
    .simp[e]
    .rw[e,Yk,Yk,Ft,decide_eq_true_eq];exact Zn1 _ e
   rw[t1];simp only;by_cases e2:y.Order=x.Order
   .simp[k1,k2,k0,n1',w1,z1,z2,z5,t2,t3,t4,e2,XH]
   .rcases tf (Bz q.Atoms y.Mask x.Order)with e|e
    .simp only[k1,k2,k0,n1',w1,z1,z2,t2,t3,t4,q1,Zq9,q2,e,e2,if_false,if_true,true_and,C0,exists_eq_left',Dj,AV.t.injEq,T.int.injEq,T.bool.injEq,and_true];simp[XH]
    .simp only[k1,k2,k0,n1',w1,z1,z2,t2,t3,t4,q1,Zq9,q2,e,e2,if_false,if_true,true_and,C0,exists_eq_left',Dj,AV.t.injEq,T.int.injEq,T.bool.injEq,and_true];simp[XH,Mm,k1,k2,e2]
 rw[Yb k2]
 -- a join
 have q0:∀(b:Zf) (c:Zf) (y:Zf) (f:Bool),x.Kind=4->∀m1 m2,MI q x ⟨0,0,0,0⟩ b c y (Ai (Xi (pV m1 q.Atoms)) (Xi (pV m2 q.Atoms))) f =
   if Bz q.Atoms m1 x.Order=true/\Bz q.Atoms m2 x.Order=true/\b.Order=x.Order/\c.Order=x.Order then some (.tup [.agg [I y.Mask,I x.Order,I y.Left,I y.Right],I 2],[])else some (XH x none):=by
  intro b c y f k4 m1 m2;have e:(Am x.Order 0 3 && decide (Ai (As (Ai (Xi (pV m1 q.Atoms)) (Xi (pV m2 q.Atoms))) x.Order) 1=1))=(Bz q.Atoms m1 x.Order && Bz q.Atoms m2 x.Order):=by
   unfold Bz;rcases tf (Am x.Order 0 3)with e|e
   .simp[e]
   .rw[e,Yk,Yk,Yk,Ft,decide_eq_true_eq,Z5S]
    simp_all [Zn1]
  split
  .simp_all [X6.1.2.2.2,Zq9,k4]
  .rename_i hc;apply X6.1.2.2.2;simp only[Zq9,e];rcases tf (Bz q.Atoms m1 x.Order)with e1|e1<;>rcases tf (Bz q.Atoms m2 x.Order)with e2|e2<;>by_cases e3:b.Order=x.Order<;>by_cases e4:c.Order=x.Order<;>simp[k4,e1,e2,e3,e4,XH]
   simp_all
 have q3:∀(b:Zf) (c:Zf) (y:Zf) (v:Int) (f:Bool),x.Kind≠4->MI q x ⟨0,0,0,0⟩ b c y v f=some (.tup [.agg (y.c.map .t),I 2],[]):=by
  intro b c y v f k4;simp[X6.1.2.2.2,k4]
 have q5:∀(b:Zf) (c:Zf) (y:Zf) (v:Int),x.Kind≠4->SZ q x ⟨0,0,0,0⟩ b c y v=some (.tup [.agg (y.c.map .t),I 2],[]):=by
  intro b c y v k4;simp[X6.1.2.2.1,k4]
 by_cases kk:x.Kind=3\/x.Kind=4\/x.Kind=5
 rotate_left
 .have k3:¬x.Kind=3:=λhc=>kk (.inl hc)
  have k4:¬x.Kind=4:=λhc=>kk (.inr (.inl hc))
  have k5:¬x.Kind=5:=λhc=>kk (.inr (.inr hc))
  have hj:∀y z,Vw q.Atoms x y z=none:=by intro y z;simp[Vw,k3,k4,k5]
  refine Yd (b:=some (XH x none)) (X6.2.1.1 _ _ _ _ _ (by simp[k1,k2,k3,k4,k5,XH])) ?_
  grind
 have k5':x.Kind≠3->x.Kind≠4->x.Kind=5:=λa b=>by rcases kk with h|h|h;exact absurd h a;exact absurd h b;exact h
 have red:∀r,SY q x ⟨0,0,0,0⟩ info st st.length x.Kind true=some r->(x.Kind=5->MH q x info st=some r)->MH q x info st=some r:=by
  intro r hr h5;by_cases k5:x.Kind=5
  .exact h5 k5
  .grind [X6.2.1.1]
 by_cases n2:st.length<2
 .have:XY st info 2=none:=by unfold XY;rw[Ao]
  rw[this];have DE:(st.length:Int)<2:=by omega
  refine red _ ?_ ?_
  .exact pF _ _ _ _ _ _ _ _ _ (by simp[k0,DE,XH])
  .intro k5;exact X6.2.1.1 _ _ _ _ _ (by simp[k5,k0,DE,XH])
 have DE:¬(st.length:Int)<2:=by omega
 obtain⟨s,y,t1,t2,t3,t4⟩:=Mk hs (E:1<=2) (E:2<=st.length);obtain⟨t,z,u1,u2,u3,u4⟩:=Mk hs (E:1<=1) (E:1<=st.length);have z1:(0:Int)<=(st.length:Int)-1:=by omega
 have z2:((st.length:Int)-1).toNat=st.length-1:=by omega
 have z3:(0:Int)<=(st.length:Int)-2:=by omega
 have z4:((st.length:Int)-2).toNat=st.length-2:=by omega
 have b1:=IV q y.Mask hq (Gp h);have b2:=IV q z.Mask hq (Gp h);have b3:=ZsP q.Atoms y.Mask z.Mask;rw[t1,u1];simp only;by_cases c1:Ai y.Mask z.Mask=0
 rotate_left
 .rw[Yb (λhc=>c1 hc.1)];refine red _ ?_ ?_
  .apply pF;simp only[k0,DE,w1,w2,z1,z2,z3,z4,t2,t3,t4,u2,u3,u4,b1,b2,c1,if_true,if_false,true_and,C0,exists_eq_left',Dj,AV.t.injEq,T.int.injEq,and_true];simp[XH]
  .intro k5;apply X6.2.1.1;simp only[k5,k0,DE,w1,w2,z1,z2,z3,z4,t2,t3,t4,u2,u3,u4,b1,b2,c1,if_true,if_false,true_and,C0,exists_eq_left',Dj,AV.t.injEq,T.int.injEq,and_true];simp[XH]
 rcases tf (shr q.Atoms y.Mask z.Mask)with c2|c2
 .rw[Yb (λhc=>by rw[hc.2]at c2;cases c2)];have c3:=b3.2 c2;refine red _ ?_ ?_
  .apply pF;simp only[k0,DE,w1,w2,z1,z2,z3,z4,t2,t3,t4,u2,u3,u4,b1,b2,c1,c3,if_true,if_false,true_and,C0,exists_eq_left',Dj,AV.t.injEq,T.int.injEq,and_true];simp[XH]
  .intro k5;apply X6.2.1.1;simp only[k5,k0,DE,w1,w2,z1,z2,z3,z4,t2,t3,t4,u2,u3,u4,b1,b2,c1,c3,if_true,if_false,true_and,C0,exists_eq_left',Dj,AV.t.injEq,T.int.injEq,and_true];simp[XH]
 rw[Ya ⟨c1,c2⟩];have c3:¬Ai (Xi (pV y.Mask q.Atoms)) (Xi (pV z.Mask q.Atoms))=0:=λhc=>by rw[b3.1 hc]at c2;cases c2
 have p2:Mm x=2:=by unfold Mm;rw[Yb k1,Yb k2]
 refine red _ ?_ ?_
 .apply pF;simp only[k0,DE,w1,w2,z1,z2,z3,z4,t2,t3,t4,u2,u3,u4,b1,b2,c1,c3,if_true,if_false,true_and,C0,exists_eq_left',Dj,AV.t.injEq,T.int.injEq,and_true];by_cases k4:x.Kind=4
  .have k3:¬x.Kind=3:=by omega
   have k5:¬x.Kind=5:=by omega
   rw[Ya k4,q0 _ _ _ _ k4];simp only[Vw,k3,k4,k5,false_and,true_and,if_false];split
   .rename_i hc;simp[XH,p2]
   .rfl
  .by_cases e:x.Order=0
   .by_cases k5:x.Kind=5
    .rw[Yb k4,Ya e,Ya k5,q5 _ _ _ _ k4];simp[Vw,k5,e,XH,p2]
    .have k3:x.Kind=3:=by omega
     rw[Yb k4,Ya e,Yb k5,q3 _ _ _ _ _ k4];simp[Vw,k3,e,XH,p2]
   .rw[Yb k4,Yb e];simp[Vw,k4,e,XH]
 .intro k5;apply X6.2.1.1;have k4:x.Kind≠4:=by omega
  simp only[k5,k0,DE,w1,w2,z1,z2,z3,z4,t2,t3,t4,u2,u3,u4,b1,b2,c1,c3,if_true,if_false,true_and,C0,exists_eq_left',Dj,AV.t.injEq,T.int.injEq,and_true];by_cases e:x.Order=0
  .simp[e,q5 _ _ _ _ k4,Vw,k5,XH,p2]
  .simp[e,Vw,k5,XH]
def ZOW(q:Zc)(hq:AW q)(h:Zx q.Zi q.Atoms=true)(p:Zr)(hl:p.Steps.length<=14):∀i,i<=p.Steps.length->∀info st,Vc info st->info.length=i->st.length<=i->
  jG q p info st i=some (match Xv q.Atoms (p.Steps.drop i) i info st with
   |some (AE,st')=>if st'.length=1 then(.tup [.own 0,Bo true],[.arr Mq 4 true (AE.map Zf.c)])else(.tup [.own 0,Bo false],[.arr Mq 4 true []])
   |none=>(.tup [.own 0,Bo false],[.arr Mq 4 true []])):=by
 refine down _ ?_ ?_
 .intro info st _ _ _;rw[Yl,Xv]
  grind [X6.2.1.2.1]
 .intro i hi ih info st hs hil hst;have h5:=Xn (i:=i) E;have s1:=ZOV q hq h p.Steps[i] info st hs E E;rw[Z5Y q.Atoms hi];apply X6.2.1.2.1
  cases he:Wm q.Atoms p.Steps[i] info st with
  |none =>
   rw[he,XH]at s1;have e0:MH q p.Steps[i] info st=some (.tup [.agg ((⟨0,0,0,0⟩:Zf).c.map .t),I (-1)],[]):=s1;rw[An];refine⟨E,_,Yh hi,_,_,e0,?_⟩
   simp
  |some y =>
   rw[he,XH]at s1;obtain⟨f1,f2,f3⟩:=ZsQ hs he;rw[f1]at s1;have hn:=H3 hs y (st.length-Xk y);rw[hil]at hn;have ih:=ih (info++[y]) (st.take (st.length-Xk y)++[(i:Int)]) hn (by simp[hil]) (Z5Z hst _);have w2:w ((st.length:Int)-(Xk y:Int))=(st.length:Int)-(Xk y:Int):=ZF E E;have z2:((st.length:Int)-(Xk y:Int)).toNat=st.length-Xk y:=by omega
   rw[An];refine⟨E,_,Yh hi,_,_,s1,?_⟩
   grind
@[simp] def G4(q:Zc)(p:Zr)(hq:AW q):Qh q p=some (match ZG q.Zi q.Atoms p.Steps with
  |some info=>(.tup [.own 0,Bo true],[.arr Mq 4 true (info.map Zf.c)])
  |none=>(.tup [.own 0,Bo false],[.arr Mq 4 true []])):=by
 apply X6.2.1.2.2;have q1:=pM q hq;unfold ZG;rcases tf (Zx q.Zi q.Atoms)with e|e
 .simp[q1,e]
 rcases tf (Am p.Steps.length 1 14)with e2|e2
 .simp[q1,e,e2]
 .have e3:=e2;simp[Am]at e3;have b:=ZOW q hq e p E 0 (Yc _) [] [] (λs hs=>by cases hs) rfl (Yi _)
  grind [ZS,Option.some.injEq]
def ZOX(q:Zc)(hq:AW q)(h:Zx q.Zi q.Atoms=true)(steps:List Zn)(hl:steps.length<=14):∀i,i<=steps.length->∀info st,Vc info st->info.length=i->st.length<=i->
  mK q info st steps steps.length i=some (match Xv q.Atoms (steps.drop i) i info st with
   |some (AE,st')=>if st'.length=1 then(.tup [.own 0,Bo true],[.arr Mq 4 true (AE.map Zf.c)])else(.tup [.t .nil,Bo false],[])
   |none=>(.tup [.t .nil,Bo false],[])):=by
 refine down _ ?_ ?_
 .intro info st _ _ _;rw[Yl,Xv]
  grind [WN.1.1.1.1]
 .intro i hi ih info st hs hil hst;have h5:=Xn (i:=i) E;have s1:=ZOU q hq h steps[i] info st hs E E;rw[Z5Y q.Atoms hi];apply WN.1.1.1.1
  cases he:Wm q.Atoms steps[i] info st with
  |none =>
   rw[he]at s1;obtain⟨y,s1⟩:=s1;rw[An];refine⟨E,_,Yh hi,_,_,s1,?_⟩
   simp
  |some y =>
   rw[he]at s1;obtain⟨f1,f2,f3⟩:=ZsQ hs he;have hn:=H3 hs y (st.length-Xk y);rw[hil]at hn;have ih:=ih (info++[y]) (st.take (st.length-Xk y)++[(i:Int)]) hn (by simp[hil]) (Z5Z hst _);rw[An];refine⟨E,_,Yh hi,_,_,s1,?_⟩;rw[Ya rfl];refine⟨E,?_⟩;simp only;unfold Xk at ih f2|-;rw[show w ((i:Int)+1)=(i:Int)+1 from h5];by_cases r:0<=y.Right
   .simp only[Ya r]at ih f2|-
    grind [ZF]
   .simp only[Yb r]at ih f2|-;by_cases l:0<=y.Left
    .simp only[Ya l]at ih f2|-
     grind [ZF]
    .simp only[Yb l]at ih f2|-
     grind
@[simp] theorem aK(q:Zc)(p:Zr)(hq:AW q):UH q p=some (match ZG q.Zi q.Atoms p.Steps with
  |some info=>(.tup [.own 0,Bo true],[.arr Mq 4 true (info.map Zf.c)])
  |none=>(.tup [.t .nil,Bo false],[])):=by
 apply WN.1.1.1.2;have q1:=Z2c q hq;unfold ZG;rcases tf (Zx q.Zi q.Atoms)with e|e
 .simp[q1,e]
 rcases tf (Am p.Steps.length 1 14)with e2|e2
 .simp[q1,e,e2]
 .have e3:=e2;simp[Am]at e3;have b:=ZOX q hq e p.Steps E 0 (Yc _) [] [] (λs hs=>by cases hs) rfl (Yi _)
  grind [Uu,Option.some.injEq]
@[simp] def ZVm(q:Zc)(p:Zr)(hq:AW q):NP q p=some (I (Z6b q.Zi q.Atoms p.Steps),[]):=by
 apply XM.2.1.1.2;have q1:=G4 q p hq;unfold Z6b
 cases he:ZG q.Zi q.Atoms p.Steps with
 |none=>rw[he]at q1;exact⟨[],false,q1,Z⟩
 |some info =>
  obtain⟨l1,l2,l3,l4⟩:=Um he;rw[he]at q1;have hlt:info.length-1<info.length:=by omega
  have w1:w ((info.length:Int)-1)=(info.length:Int)-1:=ZF E E;have z2:((info.length:Int)-1).toNat=info.length-1:=by omega
  refine⟨info,true,q1,?_⟩;rw[Ya rfl,w1,z2];refine⟨E,_,Yh hlt,?_⟩
  grind
def ZOY(xs:V2)(v:Int)(hx:Le xs):∀i,i<=xs.length->n5 xs v i=some (I (XD (λx=>decide (v=x)) (xs.drop i) i),[]):=by
 refine down _ ?_ ?_
 .apply G0.1.2.1;simp[XD]
 .intro i hi ih;apply G0.1.2.1;have h4:=Xn (i:=i) E;rw[Sf _ hi];simp at ih;by_cases e:v=xs[i]
  .simp[hi,h4,<-e]
  .have e':¬xs[i]=v:=λhc=>e hc.symm
   simp[hi,h4,e,e',ih]
@[simp] def ZOZ(xs:V2)(v:Int)(hx:Le xs):QG xs v=some (I (XD (λx=>decide (v=x)) xs 0),[]):=by
 apply G0.1.2.2;have:=ZOY xs v hx 0 (Yc _);simpa using this
def J3:Int->List Z4->Bool
 |_,[]=>true
 |p,s::r=>Am s.From 1 8192 && Am s.Add (-99) 99 && decide (p<s.From) && J3 s.From r
def Uv(l:List Z4):Nat->Int
 |0=>0
 |i+1=>match l[i]? with|some s=>s.From|none=>0
def Ql(n:Int):Bool:=Am n (-99) 99
def XZ(o:Zy):Bool:=Ql o.Fixed && Ql o.Vj && Ql o.Vk && Ql o.Vl && Ql o.Vv && decide (o.Steps.length<=4) && J3 0 o.Steps
def ZC5(p:Int){l:List Z4}{i:Nat}(h:i<l.length):J3 p (l.drop i)=(Am l[i].From 1 8192 && Am l[i].Add (-99) 99 && decide (p<l[i].From) && J3 l[i].From (l.drop (i+1))):=by
 rw[Yg h,J3]
@[simp] def ZPa(n:Int):GV n=some (Bo (Ql n),[]):=by
 apply W0.1.2.2.2.1;simp[Ql]
def ZPb(o:Zy)(hl:Le o.Steps):∀i,i<=o.Steps.length->Nv o i=some (Bo (J3 (Uv o.Steps i) (o.Steps.drop i)),[]):=by
 refine down _ ?_ ?_
 .apply W0.1.2.2.2.2;simp[J3]
 .intro i hi ih;apply W0.1.2.2.2.2;have h4:=Xn (i:=i) E;rw[ZC5 _ hi];have pn:Uv o.Steps (i+1)=o.Steps[i].From:=by simp[Uv,Yh hi]
  rw[pn]at ih;simp only[Y9,Cy]at ih;rw[An];refine⟨E,o.Steps[i],by rw[Yj];exact Yh hi,_,ZS _ _ _,?_⟩;rcases tf (Am o.Steps[i].From 1 8192)with e1|e1
  .rw[e1];simp
  rw[e1,Ya rfl];refine⟨_,ZPa _,?_⟩;unfold Ql;rcases tf (Am o.Steps[i].Add (-99) 99)with e2|e2
  .rw[e2];simp
  rw[e2,Ya rfl,show w ((i:Int)+1)=(i:Int)+1 from h4]
  cases i with
  |zero =>
   rw[Ao,ih]
   have:Uv o.Steps 0<o.Steps[0].From:=by simp[Am]at e1;simp[Uv];omega
   simp[this]
  |succ j =>
   have hj:j<o.Steps.length:=by omega
   have w2:w (((j+1:Nat):Int)-1)=j:=by rw[show((j+1:Nat):Int)-1=j by omega];exact ZF E E
   have pj:Uv o.Steps (j+1)=o.Steps[j].From:=by simp[Uv,Yh hj]
   grind
@[simp] def pN(o:Zy)(hl:Le o.Steps):IE o=some (Bo (XZ o),[]):=by
 apply W0.2.1.1.1;have b:=ZPb o hl 0 (Yc _);simp only[Uv,Yq,Int.ofNat_zero]at b;have b:Nv o 0=_:=b;unfold XZ;rcases tf (Ql o.Fixed)with e1|e1
 .simp[e1]
 rcases tf (Ql o.Vj)with e2|e2
 .simp[e1,e2]
 rcases tf (Ql o.Vk)with e3|e3
 .simp[e1,e2,e3]
 rcases tf (Ql o.Vl)with e4|e4
 .simp[e1,e2,e3,e4]
 rcases tf (Ql o.Vv)with e5|e5
 .simp[e1,e2,e3,e4,e5]
 by_cases e6:o.Steps.length<=4
 .have e7:¬(4:Int)<o.Steps.length:=by omega
  simp[e1,e2,e3,e4,e5,e6,e7,b]
 .have e7:(4:Int)<o.Steps.length:=by omega
  simp[e1,e2,e3,e4,e5,e6,e7]
def ZPc(o:Zy)(hl:Le o.Steps):∀i,i<=o.Steps.length->M1 o o.Steps o.Steps.length i=some (Bo (J3 (Uv o.Steps i) (o.Steps.drop i) && decide (o.Steps.length<=4)),[]):=by
 refine down _ ?_ ?_
 .apply Wy.1.2.2.2.1;rw[Ao];by_cases e:o.Steps.length<=4
  .simp[J3,e];omega
  .simp[J3,e];omega
 .intro i hi ih;apply Wy.1.2.2.2.1;have h4:=Xn (i:=i) E;rw[ZC5 _ hi];have pn:Uv o.Steps (i+1)=o.Steps[i].From:=by simp[Uv,Yh hi]
  rw[pn]at ih;simp only[Y9,Cy]at ih;rw[An];refine⟨E,o.Steps[i],by rw[Yj];exact Yh hi,_,Uu _ _ _,?_⟩;rcases tf (Am o.Steps[i].Add (-99) 99)with e2|e2
  .rw[e2];simp
  rw[e2,Ya rfl];refine⟨_,Uu _ _ _,?_⟩;rcases tf (Am o.Steps[i].From 1 8192)with e1|e1
  .rw[e1];simp
  rw[e1,Ya rfl,show w ((i:Int)+1)=(i:Int)+1 from h4]
  cases i with
  |zero =>
   rw[Ao,ih]
   have:Uv o.Steps 0<o.Steps[0].From:=by simp[Am]at e1;simp[Uv];omega
   simp[this]
  |succ j =>
   have hj:j<o.Steps.length:=by omega
   have w2:w (((j+1:Nat):Int)-1)=j:=by rw[show((j+1:Nat):Int)-1=j by omega];exact ZF E E
   have pj:Uv o.Steps (j+1)=o.Steps[j].From:=by simp[Uv,Yh hj]
   grind
@[simp] def Uw(o:Zy)(hl:Le o.Steps):WS o=some (Bo (XZ o),[]):=by
 apply Wy.1.2.2.2.2;have hc:Zph o=some (.bsl 1 5,[.box (o.c.map .t),.box [.ptr 0 0,.ptr 0 1,.ptr 0 2,.ptr 0 3,.ptr 0 4]]):=Wy.1.2.1.2 _ _ rfl;refine⟨hc,?_⟩;have b:=ZPc o hl 0 (Yc _);simp only[Uv,Yq]at b;have b:M1 o o.Steps o.Steps.length 0=_:=b;have w1:w (0+1)=1:=by decide
 have w2:w (1+1)=2:=by decide
 have w3:w (2+1)=3:=by decide
 have w4:w (3+1)=4:=by decide
 have w5:w (4+1)=5:=by decide
 unfold XZ Ql;apply aH;rw[An,Ya rfl];refine⟨_,Uu _ _ _,?_⟩;rcases tf (Am o.Fixed (-99) 99)with e1|e1
 .rw[e1];simp
 rw[e1,Ya rfl,w1];apply aH;rw[An,Ao,Ya rfl];refine⟨_,Uu _ _ _,?_⟩;rcases tf (Am o.Vj (-99) 99)with e2|e2
 .rw[e2];simp
 rw[e2,Ya rfl,w2];apply aH;rw[An,Ao,Ao,Ya rfl];refine⟨_,Uu _ _ _,?_⟩;rcases tf (Am o.Vk (-99) 99)with e3|e3
 .rw[e3];simp
 rw[e3,Ya rfl,w3];apply aH;rw[An,Ao,Ao,Ao,Ya rfl];refine⟨_,Uu _ _ _,?_⟩;rcases tf (Am o.Vl (-99) 99)with e4|e4
 .rw[e4];simp
 rw[e4,Ya rfl,w4];apply aH
 simp_all [Uu,tf,aH,Bool.and_comm]
def aL(o:Zy)(l r n:Int):Int:=w (w (w (w (o.Fixed+w (o.Vj*l))+w (o.Vk*r))+w (o.Vl*n))+w (w (o.Vv*l)*r))
def NY(l r n:Int)(s:Z4):Int:=if s.From<=w (l+r)then w (n+s.Add)else n
def aM(o:Zy)(l r n:Int):Int:=o.Steps.foldl (NY l r) (aL o l r n)
def WB(o:Zy)(l r n:Int):Int:=if(XZ o && Am l 0 4096 && Am r 0 4096 && Am n 0 4096)=true then aM o l r n else 0
def ZPd(l r:Int)(st:List Z4)(hl:Le st):∀i,i<=st.length->∀n,TO l r n st st.length i=some (I ((st.drop i).foldl (NY l r) n),[]):=by
 refine down _ ?_ ?_
 .simp[Wy.2.2.1.2]
 .intro i hi ih n;apply Wy.2.2.1.2;have h4:=Xn (i:=i) E;rw[Yg hi,cV];simp only[Y9,Cy]at ih;by_cases e:st[i].From<=w (l+r)
  .simp[hi,h4,e,ih,NY]
  .simp[hi,h4,e,ih,NY]
@[simp] theorem ZPe(o:Zy)(hl:Le o.Steps)(l r n:Int):Ik o l r n=some (I (aM o l r n),[]):=by
 apply Wy.2.2.2.1;have b:=ZPd l r o.Steps hl 0 (Yc _) (aL o l r n);simpa[aM,aL]using b
@[simp] theorem ZPf(o:Zy)(hl:Le o.Steps)(l r n:Int):QE o l r n=some (I (WB o l r n),[]):=by
 apply Wj.2.2.2.2;unfold WB
 simp_all
def ZPg(o:Zy)(l r:Int)(hl:Le o.Steps):∀i,i<=o.Steps.length->∀n,Nw o l r n i=some (I ((o.Steps.drop i).foldl (NY l r) n),[]):=by
 refine down _ ?_ ?_
 .simp[W0.2.1.1.2]
 .intro i hi ih n;apply W0.2.1.1.2;have h4:=Xn (i:=i) E;rw[Yg hi,cV];simp only[Y9,Cy]at ih;by_cases e:o.Steps[i].From<=w (l+r)
  .simp[hi,h4,e,ih,NY]
  .simp[hi,h4,e,ih,NY]
@[simp] theorem ZqA(o:Zy)(hl:Le o.Steps)(l r n:Int):GX o l r n=some (I (WB o l r n),[]):=by
 apply W0.2.1.2.1;have b:=ZPg o l r hl 0 (Yc _) (aL o l r n);simp only[Yq,aL]at b;have b:Nw o l r _ 0=_:=b;unfold WB;rcases tf (XZ o)with e1|e1<;>rcases tf (Am l 0 4096)with e2|e2<;>rcases tf (Am r 0 4096)with e3|e3<;>rcases tf (Am n 0 4096)with e4|e4<;>simp[hl,e1,e2,e3,e4,b,aM,aL]
@[simp] theorem J4(c:Int):KL c=some (I (ZT c),[]):=by
 apply Wy.2.2.1.1;cases h:Am c 0 7
 .simp[h,Z5O h]
 .rcases gF h with rfl|rfl|rfl|rfl|rfl|rfl|rfl|rfl<;>simp[Am,ZT,ZF,Ac]
@[simp] def VI(c:Int):Kn c=some (I (ZT c),[]):=by
 apply ZY.2.1.1.2;have e:∀n i r,(if i<c then TK c (if 1<w (n*4)then w (n*4)else 1) (w (i+1))=some r else some (I n,[])=some r)->TK c n i=some r:=λn i r h=>ZY.2.1.1.1 _ _ _ _ h
 cases h:Am c 0 7
 .simp[h,Z5O h]
 .refine⟨_,ZS _ _ _,?_⟩;rw[h,Ya rfl];rcases gF h with rfl|rfl|rfl|rfl|rfl|rfl|rfl|rfl
  all_goals repeat (refine e _ _ _ ?_;first|(rw[Yb Om];rfl)|rw[Ya Om])
def inT(t:V2):Prop:=∃a b c:Int,t=[a,b,c]/\(0<=a/\a<=7)/\(0<=b/\b<=7)/\(0<=c/\c<=7)
def Bw(o:Zy):V2->Int
 |[a,b,c]=>aM o (ZT a) (ZT b) (ZT c)
 |_=>0
def Z2f{c:Int}(h0:0<=c)(h7:c<=7):Am (ZT c) 0 4096=true:=by
 have:c=0\/c=1\/c=2\/c=3\/c=4\/c=5\/c=6\/c=7:=by omega
 rcases this with rfl|rfl|rfl|rfl|rfl|rfl|rfl|rfl<;>decide
def NZ(o:Zy)(hl:Le o.Steps){t:V2}(h:inT t):Kp o t=some (I (Bw o t),[]):=by
 obtain⟨a,b,c,rfl,_⟩:=h;apply Wy.2.2.2.2.1;simp[hl,Bw]
theorem ZqB(o:Zy)(hl:Le o.Steps)(hv:XZ o=true){t:V2}(h:inT t):Nx o t=some (I (Bw o t),[]):=by
 obtain⟨a,b,c,rfl,h1,h2,h3⟩:=h;apply W0.2.1.2.2;have c1:=Z2f h1.1 h1.2;have c2:=Z2f h2.1 h2.2;have c3:=Z2f h3.1 h3.2;simp[hl,Bw,WB,hv,c1,c2,c3]
def ZC6{t:V2}(h:inT t){k:Nat}{e:Int}(hk:t[k]?=some e)(h7:e+1<=7):inT (t.set k (e+1)):=by
 obtain⟨a,b,c,rfl,h1,h2,h3⟩:=h
 match k,hk with
 |0,hk=>simp at hk;subst hk;exact⟨a+1,b,c,rfl,E,h2,h3⟩
 |1,hk=>simp at hk;subst hk;exact⟨a,b+1,c,rfl,h1,E,h3⟩
 |2,hk=>simp at hk;subst hk;exact⟨a,b,c+1,rfl,h1,h2,E⟩
 |k+3,hk=>simp at hk
def ZC7{t:V2}(h:inT t){k:Nat}(hk:k<3):∃e,t[k]?=some e/\0<=e/\e<=7:=by
 obtain⟨a,b,c,rfl,h1,h2,h3⟩:=h
 match k,hk with
 |0,_=>exact⟨a,rfl,h1⟩
 |1,_=>exact⟨b,rfl,h2⟩
 |2,_=>exact⟨c,rfl,h3⟩
def Z2g{t:V2}(h:inT t):t.length=3:=by obtain⟨a,b,c,rfl,_⟩:=h;rfl
def pO(o:Zy)(t:V2)(k:Nat):Prop:=∃e,t[k]?=some e/\e+1<=7/\Bw o (t.set k (e+1))<Bw o t
def VY(o:Zy)(t:V2)(k:Nat):Prop:=∃j,k<=j/\j<3/\pO o t j
def aN(o:Zy):Prop:=∃t,inT t/\VY o t 0
def Z2h(o:Zy):Prop:=∃t,inT t/\Bw o t<1
abbrev Qm(X:Rs)(p:Prop):Prop:=∃(xs ys:V2) (b:Bool),X=some (.tup [.own 0,.own 1,Bo b],[.arr X5 1 true (xs.map ic),.arr X5 1 true (ys.map ic)])/\(b=true↔p)
def Qm.congr{X:Rs}{p q:Prop}(h:Qm X p)(e:p↔q):Qm X q:=by
 simp_all
def pP(o:Zy)(hl:Le o.Steps)(hv:XZ o=true){t:V2}(ht:inT t)(a b e:Int)(p:Prop)(hc:Qm (YF o a b (w (e+1))) p):∀k:Nat,k<=3->
  Qm (IF o t a b e k) (VY o t k\/p):=by
 have h3:=Z2g ht;refine down _ ?_ ?_
 .obtain⟨xs,ys,f,h1,h2⟩:=hc;refine⟨xs,ys,f,W0.2.2.2.2.1 _ _ _ _ _ _ _ (by rw[Ao];exact h1),?_⟩;rw[h2];exact⟨.inr,λh=>h.elim (λ⟨j,a,b,_⟩=>by omega) id⟩
 .intro k hk ih;have h4:=Xn (i:=k) E;obtain⟨x,hx,x0,x7⟩:=ZC7 ht hk;have wx:w (x+1)=x+1:=ZF E E;simp only[Y9,Cy]at ih;have step:VY o t k↔(pO o t k\/VY o t (k+1)):=by
   constructor
   .rintro⟨j,j1,j2,j3⟩;by_cases hj:j=k
    .subst hj;exact .inl j3
    .exact .inr ⟨j,E,j2,j3⟩
   .rintro(h|⟨j,j1,j2,j3⟩)
    .exact⟨k,Yi _,hk,h⟩
    .exact⟨j,E,j2,j3⟩
  have pre:∀r,(if x+1<=7 then(if Bw o (t.set k (x+1))<Bw o t then some (.tup [.own 0,.own 1,Bo true],[.arr X5 1 true (t.map ic),.arr X5 1 true ((t.set k (x+1)).map ic)])=some r
    else IF o t a b e ((k:Int)+1)=some r)else IF o t a b e ((k:Int)+1)=some r)->IF o t a b e k=some r:=by
   intro r hr;apply W0.2.2.2.2.1;rw[An];refine⟨E,E,x,by rw[Yj];exact hx,?_⟩;rw[wx,Yj,show w ((k:Int)+1)=(k:Int)+1 from h4];by_cases h7:x+1<=7
   .rw[Ya h7]at hr|-;exact⟨_,ZqB o hl hv (ZC6 ht hx h7),_,ZqB o hl hv ht,hr⟩
   .grind
  have dk:pO o t k↔(x+1<=7/\Bw o (t.set k (x+1))<Bw o t):=by
   constructor
   .rintro⟨y,y1,y2,y3⟩;rw[hx]at y1;cases y1;exact⟨y2,y3⟩
   .rintro⟨y2,y3⟩;exact⟨x,hx,y2,y3⟩
  grind
def aO{P:Nat->Prop}{i:Nat}{p:Prop}(hi:i<8):((∃z,i<=z/\z<=7/\P z)\/p)↔(P i\/(∃z,i+1<=z/\z<=7/\P z)\/p):=by
 grind
def aP{P:Nat->Prop}{p:Prop}:((∃z,8<=z/\z<=7/\P z)\/p)↔p:=⟨λh=>h.elim (λ⟨z,a,b,_⟩=>by omega) id,.inr⟩
def pQ(o:Zy)(hl:Le o.Steps)(hv:XZ o=true)(a b:Nat)(ha:a<=7)(hb:b<=7)(p:Prop)(hc:Qm (YE o a ((b:Int)+1)) p):∀e:Nat,e<=8->
  Qm (YF o a b e) ((∃z:Nat,e<=z/\z<=7/\VY o [(a:Int),(b:Int),(z:Int)] 0)\/p):=by
 have wb:w ((b:Int)+1)=(b:Int)+1:=ZF E E;refine down _ ?_ ?_
 .refine Qm.congr ?_ aP.symm
  grind [W0.2.2.2.1]
 .intro e he ih;have we:w ((e:Int)+1)=(e:Int)+1:=ZF E E;have hT:inT [(a:Int),(b:Int),(e:Int)]:=⟨a,b,e,rfl,E,E,E⟩;simp only[Y9,Cy]at ih;obtain⟨xs,ys,f,h1,h2⟩:=pP o hl hv hT a b e _ (by rw[we];exact ih) 0 E;exact⟨xs,ys,f,W0.2.2.2.1 _ _ _ _ _ (by rw[An];exact h1),h2.trans (aO (P:=λz:Nat=>VY o [(a:Int),(b:Int),(z:Int)] 0) he).symm⟩
def pR(o:Zy)(hl:Le o.Steps)(hv:XZ o=true)(a:Nat)(ha:a<=7)(p:Prop)(hc:Qm (YD o ((a:Int)+1)) p):∀b:Nat,b<=8->
  Qm (YE o a b) ((∃y:Nat,b<=y/\y<=7/\∃z:Nat,0<=z/\z<=7/\VY o [(a:Int),(y:Int),(z:Int)] 0)\/p):=by
 have wa:w ((a:Int)+1)=(a:Int)+1:=ZF E E;refine down _ ?_ ?_
 .refine Qm.congr ?_ aP.symm
  grind [W0.2.2.1.2]
 .intro b hb ih;simp only[Y9,Cy]at ih;obtain⟨xs,ys,f,h1,h2⟩:=pQ o hl hv a b ha E _ ih 0 E;exact⟨xs,ys,f,W0.2.2.1.2 _ _ _ _ (by rw[An];exact h1),h2.trans (aO (P:=λy:Nat=>∃z:Nat,0<=z/\z<=7/\VY o [(a:Int),(y:Int),(z:Int)] 0) hb).symm⟩
def pS(o:Zy)(hl:Le o.Steps)(hv:XZ o=true):∀a:Nat,a<=8->
  Qm (YD o a) ((∃x:Nat,a<=x/\x<=7/\∃y:Nat,0<=y/\y<=7/\∃z:Nat,0<=z/\z<=7/\VY o [(x:Int),(y:Int),(z:Int)] 0)\/False):=by
 refine down _ ?_ ?_
 .refine Qm.congr ?_ aP.symm;exact⟨[],[],false,W0.2.2.1.1 _ _ _ (by rw[Ao]),Z⟩
 .intro a ha ih;simp only[Y9,Cy]at ih;obtain⟨xs,ys,f,h1,h2⟩:=pR o hl hv a E _ ih 0 E;exact⟨xs,ys,f,W0.2.2.1.1 _ _ _ (by rw[An];exact h1),h2.trans (aO (P:=λx:Nat=>∃y:Nat,0<=y/\y<=7/\∃z:Nat,0<=z/\z<=7/\VY o [(x:Int),(y:Int),(z:Int)] 0) ha).symm⟩
def ZC8(o:Zy)(P:V2->Prop):(∃t,inT t/\P t)↔∃x:Nat,0<=x/\x<=7/\∃y:Nat,0<=y/\y<=7/\∃z:Nat,0<=z/\z<=7/\P [(x:Int),(y:Int),(z:Int)]:=by
 constructor
 .rintro⟨t,⟨a,b,c,rfl,h1,h2,h3⟩,h⟩;refine⟨a.toNat,E,E,b.toNat,E,E,c.toNat,E,E,?_⟩
  grind
 .rintro⟨x,_,x2,y,_,y2,z,_,z2,h⟩;exact⟨_,⟨x,y,z,rfl,E,E,E⟩,h⟩
def ZPh(o:Zy)(hl:Le o.Steps)(hv:XZ o=true):Qm (nK o) (aN o):=by
 obtain⟨xs,ys,f,h1,h2⟩:=pS o hl hv 0 E;refine⟨xs,ys,f,W0.2.2.2.2.2 _ _ ⟨_,pN o hl,?_⟩,?_⟩
 .simp_all
 .rw[h2,aN,ZC8 o (λt=>VY o t 0)];simp
abbrev QH(X:Rs)(p:Prop):Prop:=∃(xs:V2),X=some (.own 0,[.arr X5 1 true (xs.map ic)])/\(xs≠[]↔p)
def QH.congr{X:Rs}{p q:Prop}(h:QH X p)(e:p↔q):QH X q:=by
 simp_all
def pT(o:Zy)(hl:Le o.Steps)(hv:XZ o=true)(a b:Nat)(ha:a<=7)(hb:b<=7)(p:Prop)(hc:QH (YH o a ((b:Int)+1)) p):∀e:Nat,e<=8->
  QH (nL o a b e) ((∃z:Nat,e<=z/\z<=7/\Bw o [(a:Int),(b:Int),(z:Int)]<1)\/p):=by
 have wb:w ((b:Int)+1)=(b:Int)+1:=ZF E E;refine down _ ?_ ?_
 .refine QH.congr ?_ aP.symm
  grind [Kt.1.2.2]
 .intro e he ih;have we:w ((e:Int)+1)=(e:Int)+1:=ZF E E;have hT:inT [(a:Int),(b:Int),(e:Int)]:=⟨a,b,e,rfl,E,E,E⟩;simp only[Y9,Cy]at ih;refine QH.congr ?_ (aO he).symm;by_cases h:Bw o [(a:Int),(b:Int),(e:Int)]<1
  .refine⟨[a,b,e],Kt.1.2.2 _ _ _ _ _ ?_,by simp[h]⟩
   grind [ZqB]
  .obtain⟨xs,h1,h2⟩:=ih;refine⟨xs,Kt.1.2.2 _ _ _ _ _ ?_,by rw[h2];simp[h]⟩
   grind [ZqB]
def pU(o:Zy)(hl:Le o.Steps)(hv:XZ o=true)(a:Nat)(ha:a<=7)(p:Prop)(hc:QH (YG o ((a:Int)+1)) p):∀b:Nat,b<=8->
  QH (YH o a b) ((∃y:Nat,b<=y/\y<=7/\∃z:Nat,0<=z/\z<=7/\Bw o [(a:Int),(y:Int),(z:Int)]<1)\/p):=by
 have wa:w ((a:Int)+1)=(a:Int)+1:=ZF E E;refine down _ ?_ ?_
 .refine QH.congr ?_ aP.symm
  grind [Kt.1.2.1]
 .intro b hb ih;simp only[Y9,Cy]at ih;obtain⟨xs,h1,h2⟩:=pT o hl hv a b ha E _ ih 0 E;exact⟨xs,Kt.1.2.1 _ _ _ _ (by rw[An];exact h1),h2.trans (aO (P:=λy:Nat=>∃z:Nat,0<=z/\z<=7/\Bw o [(a:Int),(y:Int),(z:Int)]<1) hb).symm⟩
def pW(o:Zy)(hl:Le o.Steps)(hv:XZ o=true):∀a:Nat,a<=8->
  QH (YG o a) ((∃x:Nat,a<=x/\x<=7/\∃y:Nat,0<=y/\y<=7/\∃z:Nat,0<=z/\z<=7/\Bw o [(x:Int),(y:Int),(z:Int)]<1)\/False):=by
 refine down _ ?_ ?_
 .refine QH.congr ?_ aP.symm
  grind [Kt.1.1]
 .intro a ha ih;simp only[Y9,Cy]at ih;obtain⟨xs,h1,h2⟩:=pU o hl hv a E _ ih 0 E;exact⟨xs,Kt.1.1 _ _ _ (by rw[An];exact h1),h2.trans (aO (P:=λx:Nat=>∃y:Nat,0<=y/\y<=7/\∃z:Nat,0<=z/\z<=7/\Bw o [(x:Int),(y:Int),(z:Int)]<1) ha).symm⟩
def ZPi(o:Zy)(hl:Le o.Steps)(hv:XZ o=true):QH (Zqd o) (Z2h o):=by
 obtain⟨xs,h1,h2⟩:=pW o hl hv 0 E;refine⟨xs,Kt.2.1.1 _ _ h1,?_⟩;rw[h2,Z2h,ZC8 o (λt=>Bw o t<1)];simp
def J5(a b:Int)(c:Nat):XS:=(List.range' c (8-c)).map λz:Nat=>[a,b,(z:Int)]
def IW(a:Int)(b:Nat):XS:=(List.range' b (8-b)).flatMap λy:Nat=>J5 a y 0
def aQ(a:Nat):XS:=(List.range' a (8-a)).flatMap λx:Nat=>IW x 0
def Z2i{i:Nat}(h:i<8):List.range' i (8-i)=i::List.range' (i+1) (8-(i+1)):=by
 rw[show 8-i=(8-(i+1))+1 by omega,Fs]
def ZPj(a b:Int)(c:Nat):(J5 a b c).length=8-c:=by simp[J5]
def ZPk(a:Int):(IW a 0).length=64:=rfl
def pX(a b:Nat)(hb:b<=7)(r:XR):∀c:Nat,c<=8->∀out:XS,out.length<=1000000->M3 (out++J5 a b c) a ((b:Int)+1)=some r->TN out a b c=some r:=by
 have wb:w ((b:Int)+1)=(b:Int)+1:=ZF E E;have key:∀c:Nat,c<=8->∀out:XS,out.length<=1000000+c->M3 (out++J5 a b c) a ((b:Int)+1)=some r->TN out a b c=some r:=by
  refine down _ ?_ ?_
  .intro out ho h;apply Wy.2.1.2.1;rw[Ao,wb];simpa[J5]using h
  .intro c hc ih out ho h;have wc:w ((c:Int)+1)=(c:Int)+1:=ZF E E;apply Wy.2.1.2.1;rw[An,wc];refine⟨E,?_⟩
   have ih:=ih (out++[[(a:Int),(b:Int),(c:Int)]]) (by simp;omega) (by
    rw[J5,Z2i hc]at h
    simpa[J5]using h)
   simpa using ih
 grind
def pY(a:Nat)(ha:a<=7)(r:XR):∀b:Nat,b<=8->∀out:XS,out.length<=100000+8*b->TM (out++IW a b) ((a:Int)+1)=some r->M3 out a b=some r:=by
 have wa:w ((a:Int)+1)=(a:Int)+1:=ZF E E;refine down _ ?_ ?_
 .intro out ho h;apply Wy.2.1.1.2;rw[Ao,wa];simpa[IW]using h
 .intro b hb ih out ho h;apply Wy.2.1.1.2;rw[An];refine pX a b E r 0 E out E ?_
  have ih:=ih (out++J5 a b 0) (by rw[Yo,ZPj];omega) (by
   rw[IW,Z2i hb]at h
   simpa[IW]using h)
  simpa using ih
def pZ:∀a:Nat,a<=8->∀out:XS,out.length<=64*a->TM out a=some (.own 0,[.arr Z6i 1 true ((out++aQ a).map Ae)]):=by
 refine down _ ?_ ?_
 .intro out ho;apply Wy.2.1.1.1;rw[Ao];simp[aQ]
 .intro a ha ih out ho;apply Wy.2.1.1.1;rw[An];refine pY a E _ 0 E out E ?_;have ih:=ih (out++IW a 0) (by rw[Yo,ZPk];omega);rw[aQ,Z2i ha];simpa[aQ]using ih
def QI:XS:=aQ 0
def aR:UF=some (.own 0,[.arr Z6i 1 true (QI.map Ae)]):=Wy.2.1.2.2 _ (pZ 0 E [] Z)
def Ku(t:V2):t∈QI↔inT t:=by
 simp only[QI,aQ,IW,J5,DV,Yn,List.mem_range'_1,inT];constructor
 .grind
 .rintro⟨a,b,c,rfl,h1,h2,h3⟩;refine⟨a.toNat,E,b.toNat,E,c.toNat,E,?_⟩
  grind
set_option maxRecDepth 100000 in
def aS:QI.length=512:=rfl
@[simp] theorem IX(xs:V2)(h:xs.length<=68719476736):VX xs=some (.own 0,[.arr X5 1 true (xs.map ic)]):=Wy.1.1.2.1 _ _ ⟨h,rfl⟩
abbrev ZqC(X:Rs)(p:Prop):Prop:=(p/\∃xs ys:V2,X=some (.tup [L 1 (xs.map ic),.own 0,Bo true],[.arr X5 1 true (ys.map ic)]))\/(¬p/\X=some (.tup [.t .nil,.t .nil,Bo false],[]))
def p5(o:Zy)(hl:Le o.Steps)(ts:XS){t:V2}(ht:inT t)(n i:Int)(p:Prop)(hc:ZqC (GI o ts n (w (i+1))) p):∀k:Nat,k<=3->
  ZqC (J0 o ts t n i 3 k) (VY o t k\/p):=by
 have h3:=Z2g ht;refine down _ ?_ ?_
 .have e:(VY o t 3\/p)↔p:=⟨λh=>h.elim (λ⟨j,a,b,_⟩=>by omega) id,.inr⟩
  grind [Z1W.1]
 .intro k hk ih;have h4:=Xn (i:=k) E;obtain⟨x,hx,x0,x7⟩:=ZC7 ht hk;have wx:w (x+1)=x+1:=ZF E E;simp only[Y9,Cy]at ih;have step:VY o t k↔(pO o t k\/VY o t (k+1)):=by
   constructor
   .rintro⟨j,j1,j2,j3⟩;by_cases hj:j=k
    .subst hj;exact .inl j3
    .exact .inr ⟨j,E,j2,j3⟩
   .rintro(h|⟨j,j1,j2,j3⟩)
    .exact⟨k,Yi _,hk,h⟩
    .exact⟨j,E,j2,j3⟩
  have dk:pO o t k↔(x+1<=7/\Bw o (t.set k (x+1))<Bw o t):=by
   constructor
   .rintro⟨y,y1,y2,y3⟩;rw[hx]at y1;cases y1;exact⟨y2,y3⟩
   .rintro⟨y2,y3⟩;exact⟨x,hx,y2,y3⟩
  have pre:∀r,(if x+1<=7 then(if Bw o (t.set k (x+1))<Bw o t then some (.tup [L 1 (t.map ic),.own 0,Bo true],[.arr X5 1 true ((t.set k (x+1)).map ic)])=some r
    else J0 o ts t n i 3 ((k:Int)+1)=some r)else J0 o ts t n i 3 ((k:Int)+1)=some r)->J0 o ts t n i 3 k=some r:=by
   intro r hr;apply Z1W.1;rw[An];refine⟨E,x,by rw[Yj];exact hx,?_⟩;rw[show w ((k:Int)+1)=(k:Int)+1 from h4];by_cases h7:x=7
   .simp_all
   .rw[Yb h7];have h8:x+1<=7:=by omega
    rw[Ya h8]at hr;refine⟨t,IX t E,x,by rw[Yj];exact hx,?_⟩;rw[wx,Yj];exact⟨_,NZ o hl (ZC6 ht hx h8),_,NZ o hl ht,hr⟩
  grind
def p6(o:Zy)(hl:Le o.Steps)(ts:XS)(c:∀t∈ts,inT t)(hn:ts.length<=1000):∀i,i<=ts.length->ZqC (GI o ts ts.length i) (∃t∈ts.drop i,VY o t 0):=by
 refine down _ ?_ ?_
 .grind [Wy.2.2.2.2.2]
 .intro i hi ih;have h4:=Xn (i:=i) E;have ht:=c _ (Ye hi);simp only[Y9,Cy]at ih;have b:=p5 o hl ts ht ts.length i _ (by rw[show w ((i:Int)+1)=(i:Int)+1 from h4];exact ih) 0 E;have go:∀r,J0 o ts ts[i] ts.length i 3 0=some r->GI o ts ts.length i=some r:=by
   intro r hr;apply Wy.2.2.2.2.2
   simp_all [Yj,Yh,Z2g]
  grind [List.drop_eq_getElem_cons]
def p7(o:Zy)(hl:Le o.Steps)(hv:XZ o=true):ZqC (WH o) (aN o):=by
 have b:=p6 o hl QI (λt h=>(Ku t).1 h) (by rw[aS];omega) 0 (Yc _);have go:∀r,GI o QI QI.length 0=some r->WH o=some r:=by
  simp_all [Z1W.2,Uw,aR]
 have e:(∃t∈QI.drop 0,VY o t 0)↔aN o:=by
  simp only[Yq,Ku,aN]
 grind
def VZ(o:Zy):Prop:=XZ o=true/\¬aN o/\¬Z2h o
def BC(m:Zt)(k:Int):Zy:=if k=1 then m.Scan else if k=2 then m.Sort_ else if k=3 then m.Hash else if k=4 then m.Merge else m.Nested
abbrev Ci(m:Zt):Prop:=Le m.Scan.Steps/\Le m.Sort_.Steps/\Le m.Hash.Steps/\Le m.Merge.Steps/\Le m.Nested.Steps
def Ci.op{m:Zt}(h:Ci m)(k:Int):Le (BC m k).Steps:=by
 unfold BC
 grind
@[simp] def Z2j(m:Zt)(k:Int):ID m k=some (.agg ((BC m k).c.map .t),[]):=by
 apply W0.1.2.2.1;unfold BC
 simp_all
def VJ(m:Zt):Prop:=VZ m.Scan/\VZ m.Sort_/\VZ m.Hash/\VZ m.Merge/\VZ m.Nested
def ZPl(m:Zt)(hm:Ci m):∀k:Nat,k<=6->1<=k->
  ∃(xs ys:V2) (n:Int),YI m k=some (.tup [I n,.own 0,.own 1],[.arr X5 1 true (xs.map ic),.arr X5 1 true (ys.map ic)])/\(n=0↔∀j:Nat,k<=j->j<=5->VZ (BC m j)):=by
 refine down _ ?_ ?_
 .intro _;exact⟨[],[],0,Kt.2.1.2 _ _ _ (by rw[Ao]),⟨λ_ j h1 h2=>by omega,λ_=>rfl⟩⟩
 .intro k hk ih h1;have Fj:w ((k:Int)+1)=(k:Int)+1:=ZF E E;have hl:=hm.op k;have step:(∀j:Nat,k<=j->j<=5->VZ (BC m j))↔(VZ (BC m k)/\∀j:Nat,k+1<=j->j<=5->VZ (BC m j)):=by
   grind
  have kne:(k:Int)≠0:=by omega
  have pre:∀r,(∃v,IE (BC m k)=some (Bo v,[])/\_)->YI m k=some r:=λr h=>Kt.2.1.2 _ _ _ (by rw[An];exact⟨BC m k,Z2j m k,h⟩)
  rcases tf (XZ (BC m k))with hv|hv
  .refine⟨[],[],k,pre _ ⟨false,by rw[pN _ hl,hv],by rw[Yb Z]⟩,?_⟩;rw[step];exact⟨λh=>absurd h kne,λh=>by have:=h.1.1;rw[hv]at this;cases this⟩
  .obtain⟨xs,ys,f,d1,d2⟩:=ZPh (BC m k) hl hv
   cases f with
   |true =>
    refine⟨xs,ys,k,pre _ ⟨true,by rw[pN _ hl,hv],?_⟩,?_⟩
    .simp_all
    .rw[step]
     exact⟨λh=>absurd h kne,λh=>absurd (d2.1 rfl) h.1.2.1⟩
   |false =>
    obtain⟨cs,c1,c2⟩:=ZPi (BC m k) hl hv;by_cases hc:cs=[]
    .obtain⟨xs',ys',n,i1,i2⟩:=ih E;simp only[Y9,Cy]at i1;refine⟨xs',ys',n,pre _ ⟨true,by rw[pN _ hl,hv],?_⟩,?_⟩
     .simp_all
     .rw[step,i2];refine⟨λh=>⟨⟨hv,λhd=>(by have:=d2.2 hd;cases this),λhch=>(c2.2 hch) hc⟩,h⟩,λh=>h.2⟩
    .refine⟨cs,[],k,pre _ ⟨true,by rw[pN _ hl,hv],?_⟩,?_⟩
     .simp_all
     .rw[step];exact⟨λh=>absurd h kne,λh=>absurd (c2.1 hc) h.1.2.2⟩
theorem ZPm(m:Zt):(∀j:Nat,1<=j->j<=5->VZ (BC m j))↔VJ m:=by
 constructor
 .intro h;exact⟨h 1 E E,h 2 E E,h 3 E E,h 4 E E,h 5 E E⟩
 .rintro⟨h1,h2,h3,h4,h5⟩ j a b
  have:j=1\/j=2\/j=3\/j=4\/j=5:=by omega
  rcases this with rfl|rfl|rfl|rfl|rfl
  .exact h1
  .exact h2
  .exact h3
  .exact h4
  .exact h5
open Classical in
def Z2k(m:Zt)(hm:Ci m):IG m=some (Bo (decide (VJ m)),[]):=by
 obtain⟨xs,ys,n,h1,h2⟩:=ZPl m hm 1 E E
 grind [Kt.2.2.2,Kt.2.2.1,ZPm]
abbrev X9(X:Rs)(p:Prop):Prop:=(p/\X=some (.tup [I 0,.t .nil,.t .nil],[]))\/(¬p/\∃n:Int,n≠0/\((∃xs ys:V2,X=some (.tup [I n,L 1 (xs.map ic),.own 0],[.arr X5 1 true (ys.map ic)]))\/X=some (.tup [I n,.t .nil,.t .nil],[])\/∃xs:V2,X=some (.tup [I n,L 1 (xs.map ic),.t .nil],[])))
def X9.of{X Y:Rs}{p:Prop}(h:X9 X p)(e:∀r,X=some r->Y=some r):X9 Y p:=by
 grind
def X9.congr{X:Rs}{p q:Prop}(h:X9 X p)(e:p↔q):X9 X q:=by
 rw[<-e];exact h
def p9{ts:XS}{j:Nat}(hj:j<ts.length){P:V2->Prop}{p:Prop}:((∀t∈ts.drop j,P t)/\p)↔(P ts[j]/\(∀t∈ts.drop (j+1),P t)/\p):=by
 rw[Yg hj]
 grind
def qC(m:Zt)(hl:Le m.Scan.Steps)(ts:XS)(c:∀t∈ts,inT t)(hn:ts.length<=1000)(kind:Int)(hk:kind≠0)(x1 x2:Int)(p:Prop)(hc:X9 (XO m x1 (w (x2+1))) p):∀j,j<=ts.length->
  X9 (Il m ts kind x1 x2 ts.length j) ((∀t∈ts.drop j,¬Bw m.Scan t<1)/\p):=by
 refine down _ ?_ ?_
 .grind [Wz.1.1.1.1]
 .intro j hj ih;have h4:=Xn (i:=j) E;have ht:=c _ (Ye hj);simp only[Y9,Cy]at ih;have pre:∀r,(if Bw m.Scan ts[j]<1 then some (.tup [I kind,L 1 (ts[j].map ic),.t .nil],[])=some r else Il m ts kind x1 x2 ts.length ((j:Int)+1)=some r)->Il m ts kind x1 x2 ts.length j=some r:=by
   intro r hr;apply Wz.1.1.1.1
   simp_all [Yj,Yh,NZ]
  refine X9.congr ?_ (p9 (P:=λt=>¬Bw m.Scan t<1) hj).symm;by_cases h:Bw m.Scan ts[j]<1
  .grind
  .grind
def qD(m:Zt)(hm:Ci m)(p:Prop)(hc:X9 (XO m 5 1) p):X9 (XO m 5 0) (VZ m.Scan/\p):=by
 have hl:Le m.Scan.Steps:=by obtain⟨h1,h2,h3,h4,h5⟩:=hm;assumption
 have w1:w (1+0)=1:=by decide
 have w2:w (0+1)=1:=by decide
 have pre:∀r,(∃v,WS m.Scan=some (Bo v,[])/\_)->XO m 5 0=some r:=λr h=>aI _ _ _ _ (by rw[An,Ya rfl];exact h)
 rcases tf (XZ m.Scan)with hv|hv
 .refine .inr ⟨λh=>(by have:=h.1.1;rw[hv]at this;cases this),1,Om,.inr (.inl (pre _ ⟨false,by rw[Uw _ hl,hv],?_⟩))⟩
  simp_all
 rcases p7 m.Scan hl hv with⟨hd,xs,ys,d1⟩|⟨hd,d1⟩
 .refine .inr ⟨λh=>h.1.2.1 hd,1,Om,.inl ⟨xs,ys,pre _ ⟨true,by rw[Uw _ hl,hv],?_⟩⟩⟩
  grind
 .have b:=qC m hl QI (λt h=>(Ku t).1 h) (by rw[aS];omega) 1 Om 5 0 p (by rw[w2];exact hc) 0 (Yc _);refine(b.of λr hr=>pre r ⟨true,by rw[Uw _ hl,hv],?_⟩).congr ?_
  .simp_all [aR]
  .simp only[Yq,Ku];constructor
   .rintro⟨h,hp⟩;exact⟨⟨hv,hd,λ⟨t,ht,hc⟩=>h t ht hc⟩,hp⟩
   .rintro⟨h,hp⟩;exact⟨λt ht hc=>h.2.2 ⟨t,ht,hc⟩,hp⟩
def N0(m:Zt)(hl:Le m.Sort_.Steps)(ts:XS)(c:∀t∈ts,inT t)(hn:ts.length<=1000)(kind:Int)(hk:kind≠0)(x1 x2:Int)(p:Prop)(hc:X9 (XO m x1 (w (x2+1))) p):∀j,j<=ts.length->
  X9 (In m ts kind x1 x2 ts.length j) ((∀t∈ts.drop j,¬Bw m.Sort_ t<1)/\p):=by
 refine down _ ?_ ?_
 .grind [Wz.1.1.1.2]
 .intro j hj ih;have h4:=Xn (i:=j) E;have ht:=c _ (Ye hj);simp only[Y9,Cy]at ih;have pre:∀r,(if Bw m.Sort_ ts[j]<1 then some (.tup [I kind,L 1 (ts[j].map ic),.t .nil],[])=some r else In m ts kind x1 x2 ts.length ((j:Int)+1)=some r)->In m ts kind x1 x2 ts.length j=some r:=by
   intro r hr;apply Wz.1.1.1.2
   simp_all [Yj,Yh,NZ]
  refine X9.congr ?_ (p9 (P:=λt=>¬Bw m.Sort_ t<1) hj).symm;by_cases h:Bw m.Sort_ ts[j]<1
  .grind
  .grind
def N1(m:Zt)(hm:Ci m)(p:Prop)(hc:X9 (XO m 5 2) p):X9 (XO m 5 1) (VZ m.Sort_/\p):=by
 have hl:Le m.Sort_.Steps:=by obtain⟨h1,h2,h3,h4,h5⟩:=hm;assumption
 have w1:w (1+1)=2:=by decide
 have w2:w (1+1)=2:=by decide
 have pre:∀r,(∃v,WS m.Sort_=some (Bo v,[])/\_)->XO m 5 1=some r:=λr h=>aI _ _ _ _ (by rw[An,Ao,Ya rfl];exact h)
 rcases tf (XZ m.Sort_)with hv|hv
 .refine .inr ⟨λh=>(by have:=h.1.1;rw[hv]at this;cases this),2,Om,.inr (.inl (pre _ ⟨false,by rw[Uw _ hl,hv],?_⟩))⟩
  simp_all
 rcases p7 m.Sort_ hl hv with⟨hd,xs,ys,d1⟩|⟨hd,d1⟩
 .refine .inr ⟨λh=>h.1.2.1 hd,2,Om,.inl ⟨xs,ys,pre _ ⟨true,by rw[Uw _ hl,hv],?_⟩⟩⟩
  grind
 .have b:=N0 m hl QI (λt h=>(Ku t).1 h) (by rw[aS];omega) 2 Om 5 1 p (by rw[w2];exact hc) 0 (Yc _);refine(b.of λr hr=>pre r ⟨true,by rw[Uw _ hl,hv],?_⟩).congr ?_
  .simp_all [aR]
  .simp only[Yq,Ku];constructor
   .rintro⟨h,hp⟩;exact⟨⟨hv,hd,λ⟨t,ht,hc⟩=>h t ht hc⟩,hp⟩
   .rintro⟨h,hp⟩;exact⟨λt ht hc=>h.2.2 ⟨t,ht,hc⟩,hp⟩
def N2(m:Zt)(hl:Le m.Hash.Steps)(ts:XS)(c:∀t∈ts,inT t)(hn:ts.length<=1000)(kind:Int)(hk:kind≠0)(x1 x2:Int)(p:Prop)(hc:X9 (XO m x1 (w (x2+1))) p):∀j,j<=ts.length->
  X9 (Io m ts kind x1 x2 ts.length j) ((∀t∈ts.drop j,¬Bw m.Hash t<1)/\p):=by
 refine down _ ?_ ?_
 .grind [Wz.1.1.2.1]
 .intro j hj ih;have h4:=Xn (i:=j) E;have ht:=c _ (Ye hj);simp only[Y9,Cy]at ih;have pre:∀r,(if Bw m.Hash ts[j]<1 then some (.tup [I kind,L 1 (ts[j].map ic),.t .nil],[])=some r else Io m ts kind x1 x2 ts.length ((j:Int)+1)=some r)->Io m ts kind x1 x2 ts.length j=some r:=by
   intro r hr;apply Wz.1.1.2.1
   simp_all [Yj,Yh,NZ]
  refine X9.congr ?_ (p9 (P:=λt=>¬Bw m.Hash t<1) hj).symm;by_cases h:Bw m.Hash ts[j]<1
  .grind
  .grind
def N3(m:Zt)(hm:Ci m)(p:Prop)(hc:X9 (XO m 5 3) p):X9 (XO m 5 2) (VZ m.Hash/\p):=by
 have hl:Le m.Hash.Steps:=by obtain⟨h1,h2,h3,h4,h5⟩:=hm;assumption
 have w1:w (1+2)=3:=by decide
 have w2:w (2+1)=3:=by decide
 have pre:∀r,(∃v,WS m.Hash=some (Bo v,[])/\_)->XO m 5 2=some r:=λr h=>aI _ _ _ _ (by rw[An,Ao,Ao,Ya rfl];exact h)
 rcases tf (XZ m.Hash)with hv|hv
 .refine .inr ⟨λh=>(by have:=h.1.1;rw[hv]at this;cases this),3,Om,.inr (.inl (pre _ ⟨false,by rw[Uw _ hl,hv],?_⟩))⟩
  simp_all
 rcases p7 m.Hash hl hv with⟨hd,xs,ys,d1⟩|⟨hd,d1⟩
 .refine .inr ⟨λh=>h.1.2.1 hd,3,Om,.inl ⟨xs,ys,pre _ ⟨true,by rw[Uw _ hl,hv],?_⟩⟩⟩
  grind
 .have b:=N2 m hl QI (λt h=>(Ku t).1 h) (by rw[aS];omega) 3 Om 5 2 p (by rw[w2];exact hc) 0 (Yc _);refine(b.of λr hr=>pre r ⟨true,by rw[Uw _ hl,hv],?_⟩).congr ?_
  .simp_all [aR]
  .simp only[Yq,Ku];constructor
   .rintro⟨h,hp⟩;exact⟨⟨hv,hd,λ⟨t,ht,hc⟩=>h t ht hc⟩,hp⟩
   .rintro⟨h,hp⟩;exact⟨λt ht hc=>h.2.2 ⟨t,ht,hc⟩,hp⟩
def N4(m:Zt)(hl:Le m.Merge.Steps)(ts:XS)(c:∀t∈ts,inT t)(hn:ts.length<=1000)(kind:Int)(hk:kind≠0)(x1 x2:Int)(p:Prop)(hc:X9 (XO m x1 (w (x2+1))) p):∀j,j<=ts.length->
  X9 (Ip m ts kind x1 x2 ts.length j) ((∀t∈ts.drop j,¬Bw m.Merge t<1)/\p):=by
 refine down _ ?_ ?_
 .grind [Wz.1.1.2.2]
 .intro j hj ih;have h4:=Xn (i:=j) E;have ht:=c _ (Ye hj);simp only[Y9,Cy]at ih;have pre:∀r,(if Bw m.Merge ts[j]<1 then some (.tup [I kind,L 1 (ts[j].map ic),.t .nil],[])=some r else Ip m ts kind x1 x2 ts.length ((j:Int)+1)=some r)->Ip m ts kind x1 x2 ts.length j=some r:=by
   intro r hr;apply Wz.1.1.2.2
   simp_all [Yj,Yh,NZ]
  refine X9.congr ?_ (p9 (P:=λt=>¬Bw m.Merge t<1) hj).symm;by_cases h:Bw m.Merge ts[j]<1
  .grind
  .grind
def N5(m:Zt)(hm:Ci m)(p:Prop)(hc:X9 (XO m 5 4) p):X9 (XO m 5 3) (VZ m.Merge/\p):=by
 have hl:Le m.Merge.Steps:=by obtain⟨h1,h2,h3,h4,h5⟩:=hm;assumption
 have w1:w (1+3)=4:=by decide
 have w2:w (3+1)=4:=by decide
 have pre:∀r,(∃v,WS m.Merge=some (Bo v,[])/\_)->XO m 5 3=some r:=λr h=>aI _ _ _ _ (by rw[An,Ao,Ao,Ao,Ya rfl];exact h)
 rcases tf (XZ m.Merge)with hv|hv
 .refine .inr ⟨λh=>(by have:=h.1.1;rw[hv]at this;cases this),4,Om,.inr (.inl (pre _ ⟨false,by rw[Uw _ hl,hv],?_⟩))⟩
  simp_all
 rcases p7 m.Merge hl hv with⟨hd,xs,ys,d1⟩|⟨hd,d1⟩
 .refine .inr ⟨λh=>h.1.2.1 hd,4,Om,.inl ⟨xs,ys,pre _ ⟨true,by rw[Uw _ hl,hv],?_⟩⟩⟩
  grind
 .have b:=N4 m hl QI (λt h=>(Ku t).1 h) (by rw[aS];omega) 4 Om 5 3 p (by rw[w2];exact hc) 0 (Yc _);refine(b.of λr hr=>pre r ⟨true,by rw[Uw _ hl,hv],?_⟩).congr ?_
  .simp_all [aR]
  .simp only[Yq,Ku];constructor
   .rintro⟨h,hp⟩;exact⟨⟨hv,hd,λ⟨t,ht,hc⟩=>h t ht hc⟩,hp⟩
   .rintro⟨h,hp⟩;exact⟨λt ht hc=>h.2.2 ⟨t,ht,hc⟩,hp⟩
def N6(m:Zt)(hl:Le m.Nested.Steps)(ts:XS)(c:∀t∈ts,inT t)(hn:ts.length<=1000)(kind:Int)(hk:kind≠0)(x1 x2:Int)(p:Prop)(hc:X9 (XO m x1 (w (x2+1))) p):∀j,j<=ts.length->
  X9 (Iq m ts kind x1 x2 ts.length j) ((∀t∈ts.drop j,¬Bw m.Nested t<1)/\p):=by
 refine down _ ?_ ?_
 .grind [Wz.1.2.1.1]
 .intro j hj ih;have h4:=Xn (i:=j) E;have ht:=c _ (Ye hj);simp only[Y9,Cy]at ih;have pre:∀r,(if Bw m.Nested ts[j]<1 then some (.tup [I kind,L 1 (ts[j].map ic),.t .nil],[])=some r else Iq m ts kind x1 x2 ts.length ((j:Int)+1)=some r)->Iq m ts kind x1 x2 ts.length j=some r:=by
   intro r hr;apply Wz.1.2.1.1
   simp_all [Yj,Yh,NZ]
  refine X9.congr ?_ (p9 (P:=λt=>¬Bw m.Nested t<1) hj).symm;by_cases h:Bw m.Nested ts[j]<1
  .grind
  .grind
def N7(m:Zt)(hm:Ci m)(p:Prop)(hc:X9 (XO m 5 5) p):X9 (XO m 5 4) (VZ m.Nested/\p):=by
 have hl:Le m.Nested.Steps:=by obtain⟨h1,h2,h3,h4,h5⟩:=hm;assumption
 have w1:w (1+4)=5:=by decide
 have w2:w (4+1)=5:=by decide
 have pre:∀r,(∃v,WS m.Nested=some (Bo v,[])/\_)->XO m 5 4=some r:=λr h=>aI _ _ _ _ (by rw[An,Ao,Ao,Ao,Ao,Ya rfl];exact h)
 rcases tf (XZ m.Nested)with hv|hv
 .refine .inr ⟨λh=>(by have:=h.1.1;rw[hv]at this;cases this),5,Om,.inr (.inl (pre _ ⟨false,by rw[Uw _ hl,hv],?_⟩))⟩
  simp_all
 rcases p7 m.Nested hl hv with⟨hd,xs,ys,d1⟩|⟨hd,d1⟩
 .refine .inr ⟨λh=>h.1.2.1 hd,5,Om,.inl ⟨xs,ys,pre _ ⟨true,by rw[Uw _ hl,hv],?_⟩⟩⟩
  grind
 .have b:=N6 m hl QI (λt h=>(Ku t).1 h) (by rw[aS];omega) 5 Om 5 4 p (by rw[w2];exact hc) 0 (Yc _);refine(b.of λr hr=>pre r ⟨true,by rw[Uw _ hl,hv],?_⟩).congr ?_
  .simp_all [aR]
  .simp only[Yq,Ku];constructor
   .rintro⟨h,hp⟩;exact⟨⟨hv,hd,λ⟨t,ht,hc⟩=>h t ht hc⟩,hp⟩
   .rintro⟨h,hp⟩;exact⟨λt ht hc=>h.2.2 ⟨t,ht,hc⟩,hp⟩
open Classical in
def ZC9(m:Zt)(hm:Ci m):M4 m=some (Bo (decide (VJ m)),[]):=by
 have h5:X9 (XO m 5 5) True:=.inl ⟨trivial,aI _ _ _ _ (by rw[Ao])⟩;have h0:=qD m hm _ (N1 m hm _ (N3 m hm _ (N5 m hm _ (N7 m hm _ h5))));have hop:Ko m=some (.bsl 1 5,[.box (m.c.map .t),.box [.ptr 0 0,.ptr 0 6,.ptr 0 12,.ptr 0 18,.ptr 0 24]]):=Wy.1.2.1.1 _ _ rfl;have hR:X9 (TQ m) (VJ m):=(h0.of λr hr=>Wz.1.2.1.2 _ _ ⟨hop,hr⟩).congr (by simp[VJ])
 grind [Wz.1.2.2.1]
