/-
  Parts of the proofs for this seat: G22 G23 G24.
-/
import Derived.Test.YtobfkfgdneeabaaGreatP21
set_option linter.all false
set_option maxRecDepth 100000
set_option maxHeartbeats 4000000
namespace Go.Proofs.YtobfkfgdneeabaaGreat
open Go.AM
def ZNQ:(iM mW λs x x1 x2 r=>if x2<x1 then qG x x2 (λu1=>qB (TU u1 (s.Vars.length:Int)) (r (mW s x x1 (w (x2+1)))) (qb false r))else qB (ZpB s.Vars) (qb (decide ((s.Rows.length:Int)<=4096)) r) (qb false r))/\
 ((iM QD λa r=>r (mW a a.Rows (a.Rows.length:Int) 0))/\
 (iM KM λx a a1 r=>qG a x (λu1=>qH a1 x (λu2=>r (some (I (w (u1-u2)),[.box [I x]])))))):=by
 refine qu ?_
 and_intros
 all_goals(intros;unfold Im;(try simp only[mW,QD,KM,TU,ZpB,Bm,A7,AY]);(try simp only[AZ]);(try simp only[A0,gS,kk]))
 all_goals(repeat' first|refine Bs λ_=>?_|refine Br λ_ _=>?_|refine Bq λ_=>?_|refine AL ?_ ?_|exact False.elim)
 all_goals(intro h;first|rw[Zk Zzh.eq_1]|refine run ZLB rfl ?_|refine Xx ZLC rfl ?_)
 all_goals (refine Yd ?_ h;clear h;simp +decide[*,kk,tI,Ax,Zzi,ZAy,ZAz])
abbrev Zq5:=uq ZNQ
def ZNR:iM GL λfr data x a b i r=>if i<b then r (Nb fr data x a b i i)else r (some (.tup [],[.arr 38 1 fr (data.map Ae),.box [I x]])):=by
 refine qu ?_;intro fr data x a b i r;unfold Im;intro h;unfold GL;(try simp only[Bm]);rw[Zk ZpD.eq_1]
 try simp only[AZ]at h
 try simp only[A0,gS,kk]at h
 rcases h with⟨q1,h⟩|⟨q1,h⟩
 all_goals (refine Yd ?_ h;clear h;simp +decide[*,-List.map_set,Vo,Vp,kk,tI,Ax,Nb,Bm])
abbrev ZCo:=uq ZNR
def ZNS:iM Nb λfr data x a b i j r=>if a<j then qG data j (λu1=>qL (w (j-1)) λk1=>0<=k1/\∃u2,data[k1.toNat]?=some u2/\∃u3 u4,KM x u1 u2=some (I u4,[.box [I u3]])/\if u4<0 then ∃u5,(data.set j.toNat u2)[k1.toNat]?=some u5/\r (Nb false ((data.set j.toNat u2).set (k1.toNat) u1) u3 a b i k1)else r (GL fr data u3 a b (w (i+1))))else r (GL fr data x a b (w (i+1))):=by
 refine qu ?_;intro fr data x a b i j r;unfold Im;intro h;unfold Nb;(try simp only[Bm]);rw[Zk Zzj.eq_1];simp only[KM,A7,AY,Bm]at h
 try simp only[AZ]at h
 try simp only[A0,gS,kk]at h
 rcases h with⟨q1,q2,e1,⟨g3,q3⟩,q4,e2,⟨g5,q5⟩,v,v1,q6,(⟨q7,e4,⟨g8,q8⟩,h⟩|⟨q7,h⟩)⟩|⟨q1,h⟩
 all_goals (refine Yd ?_ h;clear h;simp +decide[*,-List.map_set,Vo,Vp,kk,tI,Ax,Nb,GL,Zzk,Bm])
abbrev Zq6:=uq ZNS
def ZNT:iM T2 λfr x x1 a a1 r=>r (GL fr x x1 a a1 (w (a+1))):=by
 refine qu ?_;intro fr x x1 a a1 r;unfold Im;intro h;unfold T2;(try simp only[Bm]);refine Xx ZLD rfl ?_;refine Yd ?_ h;clear h;simp +decide[*,-List.map_set,Vo,Vp,kk,tI,Ax,ZA0,GL,Bm]
abbrev ZNU:=uq ZNT
def ZNV:iM Nc λfr data x a b n i r=>if i<n then qL (w (b+i)) λk2=>0<=k2/\∃u1,data[k2.toNat]?=some u1/\0<=(w (a+i))/\∃u2,data[(w (a+i)).toNat]?=some u2/\qL (data.set ((w (a+i)).toNat) u1) λk1=>∃u3,k1[k2.toNat]?=some u3/\r (Nc false (k1.set (k2.toNat) u2) x a b n (w (i+1)))else r (some (.tup [],[.arr 38 1 fr (data.map Ae),.box [I x]])):=by
 refine qu ?_;intro fr data x a b n i r;unfold Im;intro h;unfold Nc;(try simp only[Bm]);rw[Zk Zzl.eq_1]
 try simp only[AZ]at h
 try simp only[A0,gS,kk]at h
 rcases h with⟨q1,q2,e1,⟨g3,q3⟩,q4,e2,⟨g5,q5⟩,e3,⟨g6,q6⟩,h⟩|⟨q1,h⟩
 all_goals (refine Yd ?_ h;clear h;simp +decide[*,-List.map_set,Vo,Vp,kk,tI,Ax,Nc,Bm])
abbrev ZCp:=uq ZNV
def ZNW:iM mX λfr x x1 a a1 a2 r=>r (Nc fr x x1 a a1 a2 0):=by
 refine qu ?_;intro fr x x1 a a1 a2 r;unfold Im;intro h;unfold mX;(try simp only[Bm]);refine Xx ZLE rfl ?_;refine Yd ?_ h;clear h;simp +decide[*,-List.map_set,Vo,Vp,kk,tI,Ax,ZA2,Nc,Bm]
abbrev ZNX:=uq ZNW
def ZNY:iM Iw λfr data x m i j r=>qL (mX fr data x (w (m-i))) λk1=>if i=j then ∃u1,∃(u2:XS),∃u3,k1 m i=some (.tup [],[.arr 38 1 u1 (u2.map Ae),.box [I u3]])/\r (some (.tup [],[.arr 38 1 u1 (u2.map Ae),.box [I u3]]))else if j<i then ∃u1,∃(u2:XS),∃u3,k1 m j=some (.tup [],[.arr 38 1 u1 (u2.map Ae),.box [I u3]])/\r (Iw u1 u2 u3 m (w (i-j)) j)else ∃u1,∃(u2:XS),∃u3,k1 (w ((w (m+j))-i)) i=some (.tup [],[.arr 38 1 u1 (u2.map Ae),.box [I u3]])/\r (Iw u1 u2 u3 m i (w (j-i))):=by
 refine qu ?_;intro fr data x m i j r;unfold Im;intro h;unfold Iw;(try simp only[Bm]);rw[Zk Zzn.eq_1];simp only[mX,A7,AY,Bm]at h
 try simp only[AZ]at h
 try simp only[A0,gS,kk]at h
 rcases h with⟨q1,v,v1,v2,q2,h⟩|⟨q1,(⟨q3,v3,v4,v5,q4,h⟩|⟨q3,v6,v7,v8,q5,h⟩)⟩
 all_goals (refine Yd ?_ h;clear h;simp +decide[*,-List.map_set,Vo,Vp,kk,tI,Ax,Zzo,Iw,Bm])
abbrev Z1X:=uq ZNY
def ZNZ:iM mY λfr x x1 a a1 a2 r=>r (Iw fr x x1 a1 (w (a1-a)) (w (a2-a1))):=by
 refine qu ?_;intro fr x x1 a a1 a2 r;unfold Im;intro h;unfold mY;(try simp only[Bm]);refine Xx ZLF rfl ?_;refine Yd ?_ h;clear h;simp +decide[*,-List.map_set,Vo,Vp,kk,tI,Ax,ZA3,Iw,Bm]
abbrev ZOa:=uq ZNZ
def ZOb:iM Ix λfr data x a i j r=>if i<j then qL (w (As (IntKind.wrap .u64 (w (i+j))) 1)) λk1=>0<=k1/\∃u1,data[k1.toNat]?=some u1/\qG data a (λu2=>∃u3 u4,KM x u1 u2=some (I u4,[.box [I u3]])/\if u4<0 then r (Ix fr data u3 a (w (k1+1)) j)else r (Ix fr data u3 a i k1))else r (Nf fr data x i a):=by
 refine qu ?_;intro fr data x a i j r;unfold Im;intro h;unfold Ix;(try simp only[Bm]);rw[Zk Zzp.eq_1];simp only[KM,A7,AY,Bm]at h
 try simp only[AZ]at h
 try simp only[A0,gS,kk]at h
 rcases h with⟨q1,q2,e1,⟨g3,q3⟩,q4,e2,⟨g5,q5⟩,v,v1,q6,(⟨q7,h⟩|⟨q7,h⟩)⟩|⟨q1,h⟩
 all_goals (refine Yd ?_ h;clear h;simp +decide[*,-List.map_set,Vo,Vp,kk,tI,Ax,Ix,Nf,Zzs,Bm])
abbrev Z1Y:=uq ZOb
def ZOc:iM Iy λfr data x m i j r=>if i<j then qG data m (λu1=>qL (w (As (IntKind.wrap .u64 (w (i+j))) 1)) λk1=>0<=k1/\∃u2,data[k1.toNat]?=some u2/\∃u3 u4,KM x u1 u2=some (I u4,[.box [I u3]])/\if u4<0 then r (Iy fr data u3 m i k1)else r (Iy fr data u3 m (w (k1+1)) j))else r (Ng fr data x i m):=by
 refine qu ?_;intro fr data x m i j r;unfold Im;intro h;unfold Iy;(try simp only[Bm]);rw[Zk Zzt.eq_1];simp only[KM,A7,AY,Bm]at h
 try simp only[AZ]at h
 try simp only[A0,gS,kk]at h
 rcases h with⟨q1,q2,e1,⟨g3,q3⟩,q4,e2,⟨g5,q5⟩,v,v1,q6,(⟨q7,h⟩|⟨q7,h⟩)⟩|⟨q1,h⟩
 all_goals (refine Yd ?_ h;clear h;simp +decide[*,-List.map_set,Vo,Vp,kk,tI,Ax,Iy,Ng,Zzw,Bm])
abbrev Z1Z:=uq ZOc
def ZOd:iM Nd λfr data x a m b mid n start Bd p r=>if start<Bd then qL (w (As (IntKind.wrap .u64 (w (start+Bd))) 1)) λk1=>0<=(w (p-k1))/\∃u1,data[(w (p-k1)).toNat]?=some u1/\0<=k1/\∃u2,data[k1.toNat]?=some u2/\∃u3 u4,KM x u1 u2=some (I u4,[.box [I u3]])/\qL (Nd fr data u3 a m b mid n) λk5=>if u4<0 then r (k5 start k1 p)else r (k5 (w (k1+1)) Bd p)else qL (w (n-start)) λk2=>qL (r (m5 fr data x a m b mid start k2 false)) λk3=>if start<m then if m<k2 then ∃u1,∃(u2:XS),∃u3,mY fr data x start m k2=some (.tup [],[.arr 38 1 u1 (u2.map Ae),.box [I u3]])/\qL (r (GN u1 u2 u3 a b mid start k2 false)) λk4=>if a<start then if start<mid then ∃u4,∃(u5:XS),∃u6,Uq u1 u2 u3 a start mid=some (.tup [],[.arr 38 1 u4 (u5.map Ae),.box [I u6]])/\r (GM u4 u5 u6 b mid k2)else k4 else k4 else k3 else k3:=by
 refine qu ?_;intro fr data x a m b mid n start Bd p r;unfold Im;intro h;unfold Nd;(try simp only[Bm]);rw[Zk Zzx.eq_1];simp only[KM,mY,Uq,A7,AY,Bm]at h
 try simp only[AZ]at h
 try simp only[A0,gS,kk]at h
 rcases h with⟨q1,q2,e1,⟨g3,q3⟩,q4,e2,⟨g5,q5⟩,v,v1,q6,(⟨q7,h⟩|⟨q7,h⟩)⟩|⟨q1,(⟨q8,(⟨q9,v2,v3,v4,q10,(⟨q11,(⟨q12,v5,v6,v7,q13,h⟩|⟨q12,h⟩)⟩|⟨q11,h⟩)⟩|⟨q9,h⟩)⟩|⟨q8,h⟩)⟩
 all_goals (refine Yd ?_ h;clear h;simp +decide[*,-List.map_set,Vo,Vp,kk,tI,Ax,Nd,GM,ZpE,Zzy,GN,m5,Bm])
abbrev pJ:=uq ZOd
def ZOe:iM Nf λfr data x i k r=>if k<(w (i-1))then qL (w (k+1)) λk1=>0<=k1/\∃u1,data[k1.toNat]?=some u1/\qG data k (λu2=>∃u3,(data.set k.toNat u1)[k1.toNat]?=some u3/\r (Nf false ((data.set k.toNat u1).set (k1.toNat) u2) x i k1))else r (some (.tup [],[.arr 38 1 fr (data.map Ae),.box [I x]])):=by
 refine qu ?_;intro fr data x i k r;unfold Im;intro h;unfold Nf;(try simp only[Bm]);rw[Zk Zzq.eq_1]
 try simp only[AZ]at h
 try simp only[A0,gS,kk]at h
 rcases h with⟨q1,q2,e1,⟨g3,q3⟩,q4,e2,⟨g5,q5⟩,e3,⟨g6,q6⟩,h⟩|⟨q1,h⟩
 all_goals (refine Yd ?_ h;clear h;simp +decide[*,-List.map_set,Vo,Vp,kk,tI,Ax,Nf,Zzr,Bm])
abbrev ZCq:=uq ZOe
def ZOf:iM Ng λfr data x i k r=>if i<k then qL (w (k-1)) λk1=>0<=k1/\∃u1,data[k1.toNat]?=some u1/\qG data k (λu2=>∃u3,(data.set k.toNat u1)[k1.toNat]?=some u3/\r (Ng false ((data.set k.toNat u1).set (k1.toNat) u2) x i k1))else r (some (.tup [],[.arr 38 1 fr (data.map Ae),.box [I x]])):=by
 refine qu ?_;intro fr data x i k r;unfold Im;intro h;unfold Ng;(try simp only[Bm]);rw[Zk Zzu.eq_1]
 try simp only[AZ]at h
 try simp only[A0,gS,kk]at h
 rcases h with⟨q1,q2,e1,⟨g3,q3⟩,q4,e2,⟨g5,q5⟩,e3,⟨g6,q6⟩,h⟩|⟨q1,h⟩
 all_goals (refine Yd ?_ h;clear h;simp +decide[*,-List.map_set,Vo,Vp,kk,tI,Ax,Ng,Zzv,Bm])
abbrev ZCr:=uq ZOf
def ZOg:iM GM λfr data x b mid x1 r=>qL (r (some (.tup [],[.arr 38 1 fr (data.map Ae),.box [I x]]))) λk1=>if mid<x1 then if x1<b then ∃u1,∃(u2:XS),∃u3,Uq fr data x mid x1 b=some (.tup [],[.arr 38 1 u1 (u2.map Ae),.box [I u3]])/\r (some (.tup [],[.arr 38 1 u1 (u2.map Ae),.box [I u3]]))else k1 else k1:=by
 refine qu ?_;intro fr data x b mid x1 r;unfold Im;intro h;unfold GM;(try simp only[Bm]);rw[HW mZ.eq_1];simp only[Uq,A7,AY,Bm]at h
 try simp only[AZ]at h
 try simp only[A0,gS,kk]at h
 rcases h with⟨q1,(⟨q2,v,v1,v2,q3,h⟩|⟨q2,h⟩)⟩|⟨q1,h⟩
 all_goals (refine Yd ?_ h;clear h;simp +decide[*,-List.map_set,Vo,Vp,kk,tI,Ax,Bm])
abbrev ZCs:=uq ZOg
def ZOh:iM GN λfr data x a b mid start x1 x2 r=>qL (r (some (.tup [],[.arr 38 1 fr (data.map Ae),.box [I x]]))) λk1=>if mid<x1 then if x1<b then ∃u1,∃(u2:XS),∃u3,Uq fr data x mid x1 b=some (.tup [],[.arr 38 1 u1 (u2.map Ae),.box [I u3]])/\r (some (.tup [],[.arr 38 1 u1 (u2.map Ae),.box [I u3]]))else k1 else k1:=by
 refine qu ?_;intro fr data x a b mid start x1 x2 r;unfold Im;intro h;unfold GN;(try simp only[Bm]);rw[HW mZ.eq_1];simp only[Uq,A7,AY,Bm]at h
 try simp only[AZ]at h
 try simp only[A0,gS,kk]at h
 rcases h with⟨q1,(⟨q2,v,v1,v2,q3,h⟩|⟨q2,h⟩)⟩|⟨q1,h⟩
 all_goals (refine Yd ?_ h;clear h;simp +decide[*,-List.map_set,Vo,Vp,kk,tI,Ax,Bm])
abbrev ZCt:=uq ZOh
def ZOi:iM m5 λfr data x a m b mid start x1 x2 r=>qL (r (GN fr data x a b mid start x1 false)) λk1=>if a<start then if start<mid then ∃u1,∃(u2:XS),∃u3,Uq fr data x a start mid=some (.tup [],[.arr 38 1 u1 (u2.map Ae),.box [I u3]])/\r (GM u1 u2 u3 b mid x1)else k1 else k1:=by
 refine qu ?_;intro fr data x a m b mid start x1 x2 r;unfold Im;intro h;unfold m5;(try simp only[Bm]);rw[HW ZpE.eq_1];simp only[Uq,A7,AY,Bm]at h
 try simp only[AZ]at h
 try simp only[A0,gS,kk]at h
 rcases h with⟨q1,(⟨q2,v,v1,v2,q3,h⟩|⟨q2,h⟩)⟩|⟨q1,h⟩
 all_goals (refine Yd ?_ h;clear h;simp +decide[*,-List.map_set,Vo,Vp,kk,tI,Ax,GM,GN,Bm])
abbrev ZCu:=uq ZOi
def ZOj:iM Uq λfr x x1 a a1 a2 r=>if(w (a1-a))=1 then r (Ix fr x x1 a a1 a2)else if(w (a2-a1))=1 then r (Iy fr x x1 a1 a a1)else qL (w (As (IntKind.wrap .u64 (w (a+a2))) 1)) λk1=>qL (w (k1+a1)) λk2=>qL (Nd fr x x1 a a1 a2 k1 k2) λk3=>if k1<a1 then r (k3 (w (k2-a2)) k1 (w (k2-1)))else r (k3 a a1 (w (k2-1))):=by
 refine qu ?_;intro fr x x1 a a1 a2 r;unfold Im;intro h;unfold Uq;(try simp only[Bm]);refine Xx ZLG rfl ?_
 try simp only[AZ]at h
 try simp only[A0,gS,kk]at h
 rcases h with⟨q1,h⟩|⟨q1,(⟨q2,h⟩|⟨q2,(⟨q3,h⟩|⟨q3,h⟩)⟩)⟩
 all_goals (refine Yd ?_ h;clear h;simp +decide[*,-List.map_set,Vo,Vp,kk,tI,Ax,ZA5,Ix,Iy,ZpG,Nd,ZA4,ZpF,Bm])
abbrev Zq7:=uq ZOj
def ZOk:iM Ni λfr data x n AC a b r=>if b<=n then ∃u1,∃(u2:XS),∃u3,T2 fr data x a b=some (.tup [],[.arr 38 1 u1 (u2.map Ae),.box [I u3]])/\r (Ni u1 u2 u3 n AC b (w (b+AC)))else ∃u1,∃(u2:XS),∃u3,T2 fr data x a n=some (.tup [],[.arr 38 1 u1 (u2.map Ae),.box [I u3]])/\r (GO u1 u2 u3 n AC):=by
 refine qu ?_;intro fr data x n AC a b r;unfold Im;intro h;unfold Ni;(try simp only[Bm]);rw[Zk Zzz.eq_1];simp only[T2,A7,AY,Bm]at h
 try simp only[AZ]at h
 try simp only[A0,gS,kk]at h
 rcases h with⟨q1,v,v1,v2,q2,h⟩|⟨q1,v3,v4,v5,q3,h⟩
 all_goals (refine Yd ?_ h;clear h;simp +decide[*,-List.map_set,Vo,Vp,kk,tI,Ax,Ni,GO,Zz2,Bm])
abbrev ZCv:=uq ZOk
def ZOl:iM GO λfr data x n AC r=>if AC<n then r (Nj fr data x n AC 0 (w (2*AC)))else r (some (.tup [],[.arr 38 1 fr (data.map Ae),.box [I x]])):=by
 refine qu ?_;intro fr data x n AC r;unfold Im;intro h;unfold GO;(try simp only[Bm]);rw[Zk ZpH.eq_1]
 try simp only[AZ]at h
 try simp only[A0,gS,kk]at h
 rcases h with⟨q1,h⟩|⟨q1,h⟩
 all_goals (refine Yd ?_ h;clear h;simp +decide[*,-List.map_set,Vo,Vp,kk,tI,Ax,Nj,Bm])
abbrev ZCw:=uq ZOl
def ZOm:iM Nj λfr data x n AC a b r=>qL (w (a+AC)) λk1=>if b<=n then ∃u1,∃(u2:XS),∃u3,Uq fr data x a k1 b=some (.tup [],[.arr 38 1 u1 (u2.map Ae),.box [I u3]])/\r (Nj u1 u2 u3 n AC b (w (b+(w (2*AC)))))else if k1<n then ∃u1,∃(u2:XS),∃u3,Uq fr data x a k1 n=some (.tup [],[.arr 38 1 u1 (u2.map Ae),.box [I u3]])/\r (GO u1 u2 u3 n (w (AC*2)))else r (GO fr data x n (w (AC*2))):=by
 refine qu ?_;intro fr data x n AC a b r;unfold Im;intro h;unfold Nj;(try simp only[Bm]);rw[Zk Zz0.eq_1];simp only[Uq,A7,AY,Bm]at h
 try simp only[AZ]at h
 try simp only[A0,gS,kk]at h
 rcases h with⟨q1,v,v1,v2,q2,h⟩|⟨q1,(⟨q3,v3,v4,v5,q4,h⟩|⟨q3,h⟩)⟩
 all_goals (refine Yd ?_ h;clear h;simp +decide[*,-List.map_set,Vo,Vp,kk,tI,Ax,Nj,GO,ZA6,Zz1,Bm])
abbrev Z2a:=uq ZOm
def ZOn{x:XS}{x1 a:Int}{r:XR}(h:(Ni true x x1 a 20 0 20=some r)):ZpI x x1 a=some r:=by
 unfold ZpI
 try simp only[Bm]
 refine Xx ZLH rfl ?_;refine Yd ?_ h;clear h;simp +decide[*,-List.map_set,Vo,Vp,kk,tI,Ax,ZA7,Ni,Bm]
def ZOo:((((iM ZpJ λx x1 r=>∃u1,∃(u2:XS),∃u3,ZpI x x1 (x.length:Int)=some (.tup [],[.arr 38 1 u1 (u2.map Ae),.box [I u3]])/\r (some (.tup [],[.arr 38 1 u1 (u2.map Ae),.box [I u3]])))/\
 (iM T3 λa a1 r=>qI (UG a.Vars a1) (λu1=>if u1<0 then BQ r else qB (QD a) (AX (VX a.Vars) (λu3=>Vb (Is a.Rows) (λu4=>∃u5,∃(u6:XS),∃u7,ZpJ u4 u1=some (.tup [],[.arr 38 1 u5 (u6.map Ae),.box [I u7]])/\r (some (.tup [.agg [.own 0,.own 1],Bo true],[.arr 3 1 true (u3.map ic),.arr 38 1 u5 (u6.map Ae)]))))) (BQ r))))/\
 ((iM T4 λa a1 r=>AX (VX a.Vars) (λu1=>u1.length+a1.Vars.length<=68719476736/\fY (M9 (u1++a1.Vars)) (λu2=>∃(u3:V2),ZpK u2=some (.own 1,[.dead,.arr 3 1 true (u3.map ic)])/\r (some (.ptr 0 0,[.box [L 1 (a.Vars.map ic),L 1 (a.Rows.map Ae),L 1 (a1.Vars.map ic),L 1 (a1.Rows.map Ae),.own 1,.t .nil],.arr 3 1 true (u3.map ic)])))))/\
 (iM Nk λa b x row x1 y x2 x3 r=>if x3<x2 then qG x x3 (λu1=>qI (UG a.Vars u1) (λu2=>qI (UG b.Vars u1) (λu3=>if u2<0 then qG y u3 (λu4=>qN row (r (Nk a b x (row++[u4]) x1 y x2 (w (x3+1)))))else if 0<=u3 then qG x1 u2 (λu4=>qH y u3 (λu5=>if u4=u5 then qN row (r (Nk a b x (row++[u4]) x1 y x2 (w (x3+1))))else r (some (.tup [],[.box [L 1 (a.Vars.map ic),L 1 (a.Rows.map Ae),L 1 (b.Vars.map ic),L 1 (b.Rows.map Ae),.own 1,.t .nil],.arr 3 1 true (x.map ic)]))))else qG x1 u2 (λu4=>qN row (r (Nk a b x (row++[u4]) x1 y x2 (w (x3+1))))))))else Znt a.Vars a.Rows b.Vars b.Rows x ([row]) r)))/\
 (((iM Iz λa b x a1 a2 r=>r (Nk a b x ([]:V2) a1 a2 (x.length:Int) 0))/\
 (iM m6 λa b x r=>r (some (.tup [.agg [.own 1,.t .nil],Bo true],[.box [L 1 (a.Vars.map ic),L 1 (a.Rows.map Ae),L 1 (b.Vars.map ic),L 1 (b.Rows.map Ae),.own 1,.t .nil],.arr 3 1 true (x.map ic)]))))/\
 ((iM Nl λa b x x1 row x2 y x3 x4 r=>if x4<x3 then qG x x4 (λu1=>qI (UG a.Vars u1) (λu2=>qI (UG b.Vars u1) (λu3=>if u2<0 then qG y u3 (λu4=>qN row (r (Nl a b x x1 (row++[u4]) x2 y x3 (w (x4+1)))))else if 0<=u3 then qG x2 u2 (λu4=>qH y u3 (λu5=>if u4=u5 then qN row (r (Nl a b x x1 (row++[u4]) x2 y x3 (w (x4+1))))else Znt a.Vars a.Rows b.Vars b.Rows x x1 r))else qG x2 u2 (λu4=>qN row (r (Nl a b x x1 (row++[u4]) x2 y x3 (w (x4+1))))))))else qN x1 (r (some (.tup [],[.box [L 1 (a.Vars.map ic),L 1 (a.Rows.map Ae),L 1 (b.Vars.map ic),L 1 (b.Rows.map Ae),.own 1,.own 3],.arr 3 1 true (x.map ic),.dead,.arr 38 1 true ((x1++[row]).map Ae)]))))/\
 ((iM IA λa b x x1 a1 a2 r=>r (Nl a b x x1 ([]:V2) a1 a2 (x.length:Int) 0))/\
 (iM KN λa b x x1 r=>if 4096<(x1.length:Int)then r (some (.tup [.agg [.t .nil,.t .nil],Bo false],[.box [L 1 (a.Vars.map ic),L 1 (a.Rows.map Ae),L 1 (b.Vars.map ic),L 1 (b.Rows.map Ae),.own 1,.own 2],.arr 3 1 true (x.map ic),.arr 38 1 true (x1.map Ae)]))else r (some (.tup [.agg [.own 1,.own 2],Bo true],[.box [L 1 (a.Vars.map ic),L 1 (a.Rows.map Ae),L 1 (b.Vars.map ic),L 1 (b.Rows.map Ae),.own 1,.own 2],.arr 3 1 true (x.map ic),.arr 38 1 true (x1.map Ae)])))))))/\
 ((((iM m7 λa a1 b x x1 x2 x3 r=>if x3<x2 then qG x1 x3 (λu1=>r (m8 a a1 b x u1 x1 x2 x3 a.Rows (a.Rows.length:Int) 0))else m6 a1 b x=some (.tup [.agg [.own 1,.t .nil],Bo true],[.box [L 1 (a1.Vars.map ic),L 1 (a1.Rows.map Ae),L 1 (b.Vars.map ic),L 1 (b.Rows.map Ae),.own 1,.t .nil],.arr 3 1 true (x.map ic)])/\Qd x r)/\
 (iM m8 λa a1 b x y x1 x2 x3 x4 x5 x6 r=>if x6<x5 then qG x4 x6 (λu1=>(∃(u2:Ze) (u3:Ze) (u4:V2),Iz a1 b x u1 y=some (.tup [],[.box [L 1 (u2.Vars.map ic),L 1 (u2.Rows.map Ae),L 1 (u3.Vars.map ic),L 1 (u3.Rows.map Ae),.own 1,.t .nil],.arr 3 1 true (u4.map ic)])/\r (m8 a u2 u3 u4 y x1 x2 x3 x4 x5 (w (x6+1))))\/(∃(u2:Ze) (u3:Ze) (u4:V2) (u5:XS),Iz a1 b x u1 y=some (.tup [],[.box [L 1 (u2.Vars.map ic),L 1 (u2.Rows.map Ae),L 1 (u3.Vars.map ic),L 1 (u3.Rows.map Ae),.own 1,.own 2],.arr 3 1 true (u4.map ic),.arr 38 1 true (u5.map Ae)])/\r (Nn a u2 u3 u4 u5 y x1 x2 x3 x4 x5 (w (x6+1)))))else r (m7 a a1 b x x1 x2 (w (x3+1)))))/\
 ((iM Nn λa a1 b x x1 y x2 x3 x4 x5 x6 x7 r=>if x7<x6 then qG x5 x7 (λu1=>(∃(u2:Ze) (u3:Ze) (u4:V2) (u5:XS),IA a1 b x x1 u1 y=some (.tup [],[.box [L 1 (u2.Vars.map ic),L 1 (u2.Rows.map Ae),L 1 (u3.Vars.map ic),L 1 (u3.Rows.map Ae),.own 1,.own 2],.arr 3 1 true (u4.map ic),.arr 38 1 true (u5.map Ae)])/\r (Nn a u2 u3 u4 u5 y x2 x3 x4 x5 x6 (w (x7+1))))\/(∃(u2:Ze) (u3:Ze) (u4:V2) (u5:XS),IA a1 b x x1 u1 y=some (.tup [],[.box [L 1 (u2.Vars.map ic),L 1 (u2.Rows.map Ae),L 1 (u3.Vars.map ic),L 1 (u3.Rows.map Ae),.own 1,.own 3],.arr 3 1 true (u4.map ic),.dead,.arr 38 1 true (u5.map Ae)])/\r (Nn a u2 u3 u4 u5 y x2 x3 x4 x5 x6 (w (x7+1)))))else if 4096<(x1.length:Int)then((KN a1 b x x1=some (.tup [.agg [.t .nil,.t .nil],Bo false],[.box [L 1 (a1.Vars.map ic),L 1 (a1.Rows.map Ae),L 1 (b.Vars.map ic),L 1 (b.Rows.map Ae),.own 1,.own 2],.arr 3 1 true (x.map ic),.arr 38 1 true (x1.map Ae)])/\BQ r)\/(KN a1 b x x1=some (.tup [.agg [.own 1,.own 2],Bo true],[.box [L 1 (a1.Vars.map ic),L 1 (a1.Rows.map Ae),L 1 (b.Vars.map ic),L 1 (b.Rows.map Ae),.own 1,.own 2],.arr 3 1 true (x.map ic),.arr 38 1 true (x1.map Ae)])/\VR x x1 r))else r (m9 a a1 b x x1 x2 x3 (w (x4+1))))/\
 (iM m9 λa a1 b x x1 x2 x3 x4 r=>if x4<x3 then qG x2 x4 (λu1=>r (Nn a a1 b x x1 u1 x2 x3 x4 a.Rows (a.Rows.length:Int) 0))else(KN a1 b x x1=some (.tup [.agg [.t .nil,.t .nil],Bo false],[.box [L 1 (a1.Vars.map ic),L 1 (a1.Rows.map Ae),L 1 (b.Vars.map ic),L 1 (b.Rows.map Ae),.own 1,.own 2],.arr 3 1 true (x.map ic),.arr 38 1 true (x1.map Ae)])/\BQ r)\/(KN a1 b x x1=some (.tup [.agg [.own 1,.own 2],Bo true],[.box [L 1 (a1.Vars.map ic),L 1 (a1.Rows.map Ae),L 1 (b.Vars.map ic),L 1 (b.Rows.map Ae),.own 1,.own 2],.arr 3 1 true (x.map ic),.arr 38 1 true (x1.map Ae)])/\VR x x1 r))))/\
 (((iM Nm λa a1 r=>qB (QD a) (qB (QD a1) (∃(u3:Ze) (u4:Ze) (u5:V2),T4 a a1=some (.ptr 0 0,[.box [L 1 (u3.Vars.map ic),L 1 (u3.Rows.map Ae),L 1 (u4.Vars.map ic),L 1 (u4.Rows.map Ae),.own 1,.t .nil],.arr 3 1 true (u5.map ic)])/\r (m7 a u3 u4 u5 a1.Rows (a1.Rows.length:Int) 0)) (BQ r)) (BQ r))/\
 (iM ZzA λa a1 a2 r=>qG a a2 (λu1=>qH a1 a2 (λu2=>qi (w (u1-u2)) r))))/\
 ((iM nA λx cmp i r=>if 0<i then qG x i (λu1=>0<=(w (i-1))/\∃u2,x[(w (i-1)).toNat]?=some u2/\qI (ZzA u1 u2 cmp) (λu3=>if u3<0 then qb false r else r (nA x cmp (w (i-1)))))else qb true r)/\
 ((iM ZzE λa a1 r=>r (nA a a1 (w ((a.length:Int)-1))))/\
 (iM T6 λa a1 r=>qI (UG a.Vars a1) (λu1=>if u1<0 then qb false r else qB (QD a) (qV (ZzE a.Rows u1) (λu3=>qb u3 r)) (qb false r))))))):=by
 refine qu ?_
 and_intros
 all_goals(intros;unfold Im;(try simp only[ZpJ,T3,T4,Nk,Iz,m6,Nl,IA,KN,m7,m8,Nn,m9,Nm,ZzA,nA,ZzE,T6,ZpI,UG,QD,VX,Is,Ze.c_def,M9,ZpK,Zz8,Bm,Zz7,Zz9,A7,AY]);(try simp only[AZ]);(try simp only[A0,gS,kk]))
 all_goals(repeat' first|refine Bs λ_=>?_|refine Br λ_ _=>?_|refine Bq λ_=>?_|refine AL ?_ ?_|exact False.elim)
 all_goals(intro h;first|refine Xx ZLI rfl ?_|refine run ZLJ rfl ?_|refine run ZLK rfl ?_|rw[Zk ZpM.eq_1]|refine Xx ZLL rfl ?_|refine Xx ZLM rfl ?_|rw[Zk ZpO.eq_1]|rw[Zk Zz3.eq_1]|refine run ZLN rfl ?_|refine run ZLO rfl ?_|rw[Zk ZzC.eq_1]|refine run ZLP rfl ?_|refine run ZLQ rfl ?_)
 all_goals (refine Yd ?_ h;clear h;simp +decide[*,kk,tI,Ax,ZA8,ZA9,ZAA,ZAB,ZpN,ZAC,ZAD,Zz6,Zz5,Zz4,ZAE,ZAF,ZzD,ZAG,ZAH])
abbrev Wi:=uq ZOo
def ZOp:(((iM nB λb a b1 x x1 x2 x3 r=>if x3<x2 then qG x1 x3 (λu1=>r (nC b a b1 x u1 x1 x2 x3 b.Rows (b.Rows.length:Int) 0))else m6 a b1 x=some (.tup [.agg [.own 1,.t .nil],Bo true],[.box [L 1 (a.Vars.map ic),L 1 (a.Rows.map Ae),L 1 (b1.Vars.map ic),L 1 (b1.Rows.map Ae),.own 1,.t .nil],.arr 3 1 true (x.map ic)])/\Qd x r)/\
 ((iM nC λb a b1 x x1 x2 x3 x4 x5 x6 x7 r=>if x7<x6 then qG x5 x7 (λu1=>(∃(u2:Ze) (u3:Ze) (u4:V2),Iz a b1 x x1 u1=some (.tup [],[.box [L 1 (u2.Vars.map ic),L 1 (u2.Rows.map Ae),L 1 (u3.Vars.map ic),L 1 (u3.Rows.map Ae),.own 1,.t .nil],.arr 3 1 true (u4.map ic)])/\r (nC b u2 u3 u4 x1 x2 x3 x4 x5 x6 (w (x7+1))))\/(∃(u2:Ze) (u3:Ze) (u4:V2) (u5:XS),Iz a b1 x x1 u1=some (.tup [],[.box [L 1 (u2.Vars.map ic),L 1 (u2.Rows.map Ae),L 1 (u3.Vars.map ic),L 1 (u3.Rows.map Ae),.own 1,.own 2],.arr 3 1 true (u4.map ic),.arr 38 1 true (u5.map Ae)])/\r (Np b u2 u3 u4 u5 x1 x2 x3 x4 x5 x6 (w (x7+1)))))else r (nB b a b1 x x2 x3 (w (x4+1))))/\
 (iM Np λb a b1 x x1 x2 x3 x4 x5 x6 x7 x8 r=>if x8<x7 then qG x6 x8 (λu1=>(∃(u2:Ze) (u3:Ze) (u4:V2) (u5:XS),IA a b1 x x1 x2 u1=some (.tup [],[.box [L 1 (u2.Vars.map ic),L 1 (u2.Rows.map Ae),L 1 (u3.Vars.map ic),L 1 (u3.Rows.map Ae),.own 1,.own 2],.arr 3 1 true (u4.map ic),.arr 38 1 true (u5.map Ae)])/\r (Np b u2 u3 u4 u5 x2 x3 x4 x5 x6 x7 (w (x8+1))))\/(∃(u2:Ze) (u3:Ze) (u4:V2) (u5:XS),IA a b1 x x1 x2 u1=some (.tup [],[.box [L 1 (u2.Vars.map ic),L 1 (u2.Rows.map Ae),L 1 (u3.Vars.map ic),L 1 (u3.Rows.map Ae),.own 1,.own 3],.arr 3 1 true (u4.map ic),.dead,.arr 38 1 true (u5.map Ae)])/\r (Np b u2 u3 u4 u5 x2 x3 x4 x5 x6 x7 (w (x8+1)))))else if 4096<(x1.length:Int)then((KN a b1 x x1=some (.tup [.agg [.t .nil,.t .nil],Bo false],[.box [L 1 (a.Vars.map ic),L 1 (a.Rows.map Ae),L 1 (b1.Vars.map ic),L 1 (b1.Rows.map Ae),.own 1,.own 2],.arr 3 1 true (x.map ic),.arr 38 1 true (x1.map Ae)])/\BQ r)\/(KN a b1 x x1=some (.tup [.agg [.own 1,.own 2],Bo true],[.box [L 1 (a.Vars.map ic),L 1 (a.Rows.map Ae),L 1 (b1.Vars.map ic),L 1 (b1.Rows.map Ae),.own 1,.own 2],.arr 3 1 true (x.map ic),.arr 38 1 true (x1.map Ae)])/\VR x x1 r))else r (nD b a b1 x x1 x3 x4 (w (x5+1))))))/\
 ((iM nD λb a b1 x x1 x2 x3 x4 r=>if x4<x3 then qG x2 x4 (λu1=>r (Np b a b1 x x1 u1 x2 x3 x4 b.Rows (b.Rows.length:Int) 0))else(KN a b1 x x1=some (.tup [.agg [.t .nil,.t .nil],Bo false],[.box [L 1 (a.Vars.map ic),L 1 (a.Rows.map Ae),L 1 (b1.Vars.map ic),L 1 (b1.Rows.map Ae),.own 1,.own 2],.arr 3 1 true (x.map ic),.arr 38 1 true (x1.map Ae)])/\BQ r)\/(KN a b1 x x1=some (.tup [.agg [.own 1,.own 2],Bo true],[.box [L 1 (a.Vars.map ic),L 1 (a.Rows.map Ae),L 1 (b1.Vars.map ic),L 1 (b1.Rows.map Ae),.own 1,.own 2],.arr 3 1 true (x.map ic),.arr 38 1 true (x1.map Ae)])/\VR x x1 r))/\
 ((iM GR λa a1 r=>qB (QD a) (qB (QD a1) (∃(u3:Ze) (u4:Ze) (u5:V2),T4 a a1=some (.ptr 0 0,[.box [L 1 (u3.Vars.map ic),L 1 (u3.Rows.map Ae),L 1 (u4.Vars.map ic),L 1 (u4.Rows.map Ae),.own 1,.t .nil],.arr 3 1 true (u5.map ic)])/\r (nB a1 u3 u4 u5 a.Rows (a.Rows.length:Int) 0)) (BQ r)) (BQ r))/\
 (iM ZpQ λa a1 a2 r=>qB (T6 a a2) (qB (T6 a1 a2) ((GR a a1=some (.tup [.agg [.t .nil,.t .nil],Bo false],[])/\BQ r)\/(VT (GR a a1) (λu3=>Qd u3 r))\/(Vm (GR a a1) (λu3 u4=>VR u3 u4 r))) (BQ r)) (BQ r)))))/\
 (((iM Nr λdb q info fr out x x1 x2 r=>if x2<x1 then qG x x2 (λu1=>qL (Nr db q info fr) λk1=>qL (w (x2+1)) λk2=>if u1.Kind=1 then(qL (mS db q u1.Zd) λk4=>(k4=some (.tup [.agg [.t .nil,.t .nil],Bo false],[])/\KD r)\/(VT k4 (λu2=>qN out (r (k1 (out++[(⟨u2,[]⟩:Ze)]) x x1 k2))))\/(Vm k4 (λu2 u3=>qN out (r (k1 (out++[(⟨u2,u3⟩:Ze)]) x x1 k2)))))else if u1.Kind=2 then qH info x2 (λu2=>qG out u2.Left (λu3=>(T3 u3 u1.Order=some (.tup [.agg [.t .nil,.t .nil],Bo false],[])/\KD r)\/(∃(u4:V2),∃u5,∃(u6:XS),T3 u3 u1.Order=some (.tup [.agg [.own 0,.own 1],Bo true],[.arr 3 1 true (u4.map ic),.arr 38 1 u5 (u6.map Ae)])/\qN out (r (Nr db q info (fr && u5) (out++[(⟨u4,u6⟩:Ze)]) x x1 k2)))))else if u1.Kind=3 then qH info x2 (λu2=>qG out u2.Left (λu3=>qG out u2.Right (λu4=>(Nm u3 u4=some (.tup [.agg [.t .nil,.t .nil],Bo false],[])/\KD r)\/(VT (Nm u3 u4) (λu5=>qN out (r (k1 (out++[(⟨u5,[]⟩:Ze)]) x x1 k2))))\/(Vm (Nm u3 u4) (λu5 u6=>qN out (r (k1 (out++[(⟨u5,u6⟩:Ze)]) x x1 k2)))))))else if u1.Kind=4 then qH info x2 (λu2=>qG out u2.Left (λu3=>qG out u2.Right (λu4=>qL (ZpQ u3 u4 u1.Order) λk3=>(k3=some (.tup [.agg [.t .nil,.t .nil],Bo false],[])/\KD r)\/(VT k3 (λu5=>qN out (r (k1 (out++[(⟨u5,[]⟩:Ze)]) x x1 k2))))\/(Vm k3 (λu5 u6=>qN out (r (k1 (out++[(⟨u5,u6⟩:Ze)]) x x1 k2)))))))else qH info x2 (λu2=>qG out u2.Left (λu3=>qG out u2.Right (λu4=>(GR u3 u4=some (.tup [.agg [.t .nil,.t .nil],Bo false],[])/\KD r)\/(VT (GR u3 u4) (λu5=>qN out (r (k1 (out++[(⟨u5,[]⟩:Ze)]) x x1 k2))))\/(Vm (GR u3 u4) (λu5 u6=>qN out (r (k1 (out++[(⟨u5,u6⟩:Ze)]) x x1 k2))))))))else r (some (.tup [.own 0,.own 1,Bo true],[.arr 81 4 true (info.map Zf.c),.arr 134 2 fr (out.map Ze.c)])))/\
 ((iM Nq λa a1 a2 r=>(UH a1 a2=some (.tup [.t .nil,Bo false],[])/\KD r)\/(Me (UH a1 a2) (λu1=>qB (GK a a1) (r (Nr a a1 u1 true ([]:List Ze) a2.Steps (a2.Steps.length:Int) 0)) (KD r))))/\
 (iM nE λn c r=>qI (KL c) (λu1=>if n<=u1 then qi c r else r (nE n (w (c+1)))))))/\
 (((iM IB λa r=>qB (Xd a 0 4096) (r (nE a 0)) (qi (-1) r))/\
 (iM Ns λa r=>qI (IB a) (λu1=>qI (KL u1) (λu2=>qi u2 r))))/\
 ((iM GU λa a1 a2 r=>qG a1 a2 (λu1=>qI (Ns (u1.Rows.length:Int)) (λu2=>qH a a2 (λu3=>if 0<=u3.Left then qH a1 u3.Left (λu4=>qI (Ns (u4.Rows.length:Int)) (λu5=>if 0<=u3.Right then qH a1 u3.Right (λu6=>qI (Ns (u6.Rows.length:Int)) (λu7=>r (some (.tup [I u5,I u7,I u2],[]))))else r (some (.tup [I u5,I 0,I u2],[]))))else if 0<=u3.Right then qH a1 u3.Right (λu4=>qI (Ns (u4.Rows.length:Int)) (λu5=>r (some (.tup [I u2,I u5,I u2],[]))))else r (some (.tup [I u2,I 0,I u2],[]))))))/\
 (iM QE λa a1 a2 a3 r=>qB (WS a) (qB (Xd a1 0 4096) (qB (Xd a2 0 4096) (qB (Xd a3 0 4096) (qI (Ik a a1 a2 a3) (λu5=>qi u5 r)) (qi 0 r)) (qi 0 r)) (qi 0 r)) (qi 0 r))))):=by
 refine qu ?_
 and_intros
 all_goals(intros;unfold Im;(try simp only[nB,nC,Np,nD,GR,ZpQ,Nr,Nq,nE,IB,Ns,GU,QE,m6,Ze.c_def,Iz,IA,KN,QD,T4,T6,mS,T3,Nm,Zj.c_def,Zc.c_def,UH,GK,Zr.c_def,KL,Xd,WS,Ik,Zy.c_def,ZzK,Bm,ZzJ,ZzL,A7,AY]);(try simp only[AZ]);(try simp only[A0,gS,kk]))
 all_goals(repeat' first|refine Bs λ_=>?_|refine Br λ_ _=>?_|refine Bq λ_=>?_|refine AL ?_ ?_|exact False.elim)
 all_goals(intro h;first|rw[Zk ZpP.eq_1]|rw[Zk ZzF.eq_1]|refine run ZLR rfl ?_|refine run ZLS rfl ?_|rw[Zk ZzM.eq_1]|refine run ZLT rfl ?_|rw[Zk ZzO.eq_1]|refine run ZLU rfl ?_|refine run ZLV rfl ?_|refine run ZLW rfl ?_|refine run ZLX rfl ?_)
 all_goals (refine Yd ?_ h;clear h;simp +decide[*,kk,tI,Ax,ZzI,ZzH,ZzG,ZAI,ZAJ,ZAK,ZzN,ZAL,ZAN,ZAO,ZAR,ZAP,ZAQ,ZAS])
abbrev Wj:=uq ZOp
def ZOq:iM Nt λa a1 a2 a3 a4 r=>∃u1 u2 u3,GU a2 a3 a4=some (.tup [I u1,I u2,I u3],[])/\Ko a=some (.bsl 1 5,[.box (a.c.map .t),.box [.ptr 0 0,.ptr 0 6,.ptr 0 12,.ptr 0 18,.ptr 0 24]])/\qG a1.Steps a4 (λu4=>qL (w (u4.Kind-1)) λk1=>if k1=0 then qI (QE a.Scan u1 u2 u3) (λu5=>qi u5 r)else if k1=1 then qI (QE a.Sort_ u1 u2 u3) (λu5=>qi u5 r)else if k1=2 then qI (QE a.Hash u1 u2 u3) (λu5=>qi u5 r)else if k1=3 then qI (QE a.Merge u1 u2 u3) (λu5=>qi u5 r)else if k1=4 then qI (QE a.Nested u1 u2 u3) (λu5=>qi u5 r)else False):=by
 refine qu ?_;intro a a1 a2 a3 a4 r;unfold Im;intro h;unfold Nt;(try simp only[Bm]);refine run ZLY rfl ?_;obtain⟨v,v1,v2,q1,h⟩:=h;unfold GU at q1
 try simp[Bm]at q1
 obtain⟨q2,h⟩:=h;unfold Ko at q2
 try simp[Bm]at q2
 obtain⟨q3,h⟩:=h;obtain⟨e3,q4,h⟩:=h;have gq4:=Wk q4;have kq4:=Ws q4;by_cases q5:(w (e3.Kind-1))=0
 .rw[Ya q5]at h;obtain⟨v3,q6,h⟩:=h;unfold QE at q6
  try simp[Bm]at q6
  refine Yd ?_ h;clear h;simp +decide[*,T8,tI,Ax,Bm]
 .rw[Yb q5]at h;replace q5:=eq_false q5;by_cases q7:(w (e3.Kind-1))=1
  .rw[Ya q7]at h;obtain⟨v4,q8,h⟩:=h;unfold QE at q8
   try simp[Bm]at q8
   refine Yd ?_ h;clear h;simp +decide[*,T8,tI,Ax,Bm]
  .rw[Yb q7]at h;replace q7:=eq_false q7;by_cases q9:(w (e3.Kind-1))=2
   .rw[Ya q9]at h;obtain⟨v5,q10,h⟩:=h;unfold QE at q10
    try simp[Bm]at q10
    refine Yd ?_ h;clear h;simp +decide[*,T8,tI,Ax,Bm]
   .rw[Yb q9]at h;replace q9:=eq_false q9;by_cases q11:(w (e3.Kind-1))=3
    .rw[Ya q11]at h;obtain⟨v6,q12,h⟩:=h;unfold QE at q12
     try simp[Bm]at q12
     refine Yd ?_ h;clear h;simp +decide[*,T8,tI,Ax,Bm]
    .rw[Yb q11]at h;replace q11:=eq_false q11;by_cases q13:(w (e3.Kind-1))=4
     .rw[Ya q13]at h;obtain⟨v7,BK,h⟩:=h;unfold QE at BK
      try simp[Bm]at BK
      refine Yd ?_ h;clear h;simp +decide[*,T8,tI,Ax,Bm]
     .rw[Yb q13]at h;replace q13:=eq_false q13;cases h
abbrev ZOr:=uq ZOq
