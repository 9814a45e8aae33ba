/-
  Parts of the proofs for this seat: SE SF RX RT SQ SG SH FW K.
-/
import Derived.Test.YtgnfoghkbpkgjaaGreatP6
import Derived.Test.YtgnfoghkbpkgjaaGreatP7
import Derived.Test.YtgnfoghkbpkgjaaGreatP11
import Derived.Test.YtgnfoghkbpkgjaaGreatP14
set_option linter.unusedSimpArgs false
set_option linter.unusedVariables false
set_option maxRecDepth 100000
set_option maxHeartbeats 4000000
namespace Go.Proofs.YtgnfoghkbpkgjaaGreat
open Go.AM
theorem J2.of{q:Zd}(hq:Zw q.Zn q.Atoms=true){u z:Zb}{a b:Za}(A:GS q u a)(B:GS q z b)(hu:0≤u.Mask∧u.Mask<16)(hz:0≤z.Mask∧z.Mask<16)(h0:andI u.Mask z.Mask=0):J2 a b:=by
 refine⟨A.vs hq,B.vs hq,?_⟩;have h1:=Ybs A.len B.len;rw[←Nat.pow_add,←pc_or hu hz h0]at h1;exact Ym h1 (Zs7 _)
theorem Zfs{out:List Za}{s:Int}(h:s.toNat<out.length):out[s.toNat]?=some (out.getD s.toNat ⟨[],[]⟩):=by rw[Ybo,Yh h];rfl
section
variable{d:Zk}(hd:LeD d){q:Zd}(hq:LeQ q)(h:qFor d q=true){info:List Zb}(hM:∀y∈info,0≤y.Mask∧y.Mask<16)
include hd hq h hM
omit hd hq in
theorem Zbdf{out:List Za}(G:GSs q info out){i:Nat}(hi:out.length=i){x:Zg}{y:Zb}(F:Zfr q.Atoms x (info.take i) y)(k1:x.Kind≠1)(k2:x.Kind≠2) :
  0≤y.Left∧out[y.Left.toNat]?=some (out.getD y.Left.toNat ⟨[],[]⟩)∧0≤y.Right∧out[y.Right.toNat]?=some (out.getD y.Right.toNat ⟨[],[]⟩)∧J2 (out.getD y.Left.toNat ⟨[],[]⟩) (out.getD y.Right.toNat ⟨[],[]⟩)∧(x.Kind=3∨x.Kind=4∨x.Kind=5) ∧
  (x.Kind=4→∃v,x.Order=v∧has (out.getD y.Left.toNat ⟨[],[]⟩).Vars v=true∧has (out.getD y.Right.toNat ⟨[],[]⟩).Vars v=true ∧
   ((out.getD y.Left.toNat ⟨[],[]⟩).Rows.Pairwise fun p q=>kx (cix (out.getD y.Left.toNat ⟨[],[]⟩).Vars v).toNat p≤kx (cix (out.getD y.Left.toNat ⟨[],[]⟩).Vars v).toNat q) ∧
   ((out.getD y.Right.toNat ⟨[],[]⟩).Rows.Pairwise fun p q=>kx (cix (out.getD y.Right.toNat ⟨[],[]⟩).Vars v).toNat p≤kx (cix (out.getD y.Right.toNat ⟨[],[]⟩).Vars v).toNat q)):=by
 have hv:Zw q.Zn q.Atoms=true:=by unfold qFor at h;simp only[Ye]at h;exact h.1
 have hm:∀{s:Nat} {u:Zb},(info.take i)[s]?=some u→0≤u.Mask∧u.Mask<16:=fun hs=>hM _ (Y2 (Yw hs))
 obtain⟨s,u,t,z,o,f1,f2,f3,f4,f5,rfl,f6⟩:=F.join k1 k2;obtain⟨a1,a2,A⟩:=Zmo G hi f1 f2;obtain⟨b1,b2,B⟩:=Zmo G hi f3 f4;refine⟨f1,a2,f3,b2,J2.of hv A B (hm f2) (hm f4) f5,by omega,fun k4=>?_⟩;rcases f6 with⟨k,_⟩|⟨k,_⟩|⟨k,g1,g2,g3,g4,_⟩
 ·omega
 ·omega
 ·have h0:0≤x.Order:=by unfold vin at g1;simp only[Ye]at g1;have:=g1.1;simp[inR]at this;omega
  have A2:=A.ord (by rw[g3];exact h0);have B2:=B.ord (by rw[g4];exact h0);rw[g3]at A2;rw[g4]at B2;exact⟨_,rfl,A2.1,B2.1,A2.2,B2.2⟩
omit hd hq hM in
theorem Zbdg{out:List Za}(G:GSs q info out){i:Nat}(hi:out.length=i){x:Zg}{y:Zb}(F:Zfr q.Atoms x (info.take i) y)(k2:x.Kind=2) :
  0≤y.Left∧out[y.Left.toNat]?=some (out.getD y.Left.toNat ⟨[],[]⟩)∧VS (out.getD y.Left.toNat ⟨[],[]⟩)∧has (out.getD y.Left.toNat ⟨[],[]⟩).Vars x.Order=true:=by
 have hv:Zw q.Zn q.Atoms=true:=by unfold qFor at h;simp only[Ye]at h;exact h.1
 obtain⟨s,u,f1,f2,f3,rfl⟩:=F.sort k2;obtain⟨a1,a2,A⟩:=Zmo G hi f1 f2;exact⟨f1,a2,A.vs hv,(Zbb7 hv A f3 s).2⟩
omit hd hq h hM in
theorem Zgh(s:Za):(s=⟨s.Vars,[]⟩∧Z7 s=(.tup [.agg [.own 0,.t .nil],Bo true],[.arr 3 1 true (s.Vars.map ic)]))∨Z7 s=(.tup [.agg [.own 0,.own 1],Bo true],[.arr 3 1 true (s.Vars.map ic),.arr 30 1 true (s.Rows.map isc)]):=by
 by_cases e:s.Rows=[]
 ·left;refine⟨by cases s;simp only at e;rw[e],?_⟩;unfold Z7;rw[if_pos e]
 ·right;unfold Z7;rw[if_neg e]
theorem l_exec{steps:List Zg}(hl:info.length=steps.length)(h14:steps.length≤14)(hF:∀(j:Nat) (y:Zb) (x:Zg),info[j]?=some y→steps[j]?=some x→Zfr q.Atoms x (info.take j) y):∀i,i≤steps.length→∀(out:List Za) (fr:Bool),out.length=i→GSs q info out →
  ∃fr',Zde d q info fr out steps steps.length i=some (.tup [.own 0,.own 1,Bo true],[.arr 209 4 true (info.map Zb.c),.arr 199 2 fr' ((Zcr d q (steps.drop i) (info.drop i) out).map Za.c)]):=by
 refine down _ ?_ ?_
 ·intro out fr hi G;refine⟨fr,Zsw ?_⟩;rw[if_neg (by omega),Yu];rfl
 ·intro i hi ih out fr ho G;have hi2:i<info.length:=by omega
  have hx:steps[i]?=some steps[i]:=Yh hi;have hy:info[i]?=some info[i]:=Yh hi2;have F:=hF i _ _ hy hx;have hg:=st_gs h G hM ho F;have G2:=Z0l G ho hy hg;have step:Zcr d q (steps.drop i) (info.drop i) out=Zcr d q (steps.drop (i+1)) (info.drop (i+1)) (out++[stS d q steps[i] info[i] out]):=by
   rw[Yf hi,Yf hi2,Zcr]
  have nx:∀fr,∃fr',Zde d q info fr (out++[stS d q steps[i] info[i] out]) steps steps.length ((i+1:Nat):Int)=some (.tup [.own 0,.own 1,Bo true],[.arr 209 4 true (info.map Zb.c),.arr 199 2 fr' ((Zcr d q (steps.drop i) (info.drop i) out).map Za.c)]):=by
   intro fr;rw[step];exact ih _ fr (by simp[ho]) G2
  generalize Zcr d q (steps.drop i) (info.drop i) out=fin at nx⊢;generalize hxx:steps[i]=x at *
  generalize hyy:info[i]=y at *
  have hol:out.length+1≤68719476736:=by omega
  unfold stS at nx;by_cases k1:x.Kind=1
  ·rw[if_pos k1]at nx;obtain⟨f1,-⟩:=F.scan k1;have hs:=Zbrr hd hq h f1;obtain⟨fr',hn⟩:=nx fr;refine⟨fr',Zsw ?_⟩;rw[if_pos (by omega),wS hi (by omega)];refine⟨by omega,x,by rw[Yg];exact hx,?_⟩;rw[if_pos k1];rcases Zgh (Zet d q x.Atom)with⟨e1,e2⟩|e2
   ·rw[e2]at hs;rw[e1]at hn;exact .inr (.inl ⟨_,hs,hol,hn⟩)
   ·rw[e2]at hs;exact .inr (.inr ⟨_,_,hs,hol,hn⟩)
  ·rw[if_neg k1]at nx;by_cases k2:x.Kind=2
   ·rw[if_pos k2]at nx;obtain⟨l1,l2,l3,l4⟩:=Zbdg h G ho F k2;obtain⟨fs,hs⟩:=Zbrj l3 l4;obtain⟨fr',hn⟩:=nx (fr && fs);refine⟨fr',Zsw ?_⟩;rw[if_pos (by omega),wS hi (by omega)];refine⟨by omega,x,by rw[Yg];exact hx,?_⟩;rw[if_neg k1,if_pos k2];exact⟨y,by rw[Yg];exact hy,l1,_,l2,.inr ⟨_,_,_,hs,hol,hn⟩⟩
   ·rw[if_neg k2]at nx;obtain⟨l1,l2,r1,r2,J,kk,m4⟩:=Zbdf h hM G ho F k1 k2;obtain⟨fr',hn⟩:=nx fr;refine⟨fr',Zsw ?_⟩;rw[if_pos (by omega),wS hi (by omega)];refine⟨by omega,x,by rw[Yg];exact hx,?_⟩;rw[if_neg k1,if_neg k2];by_cases k3:x.Kind=3
    ·rw[if_pos k3]at hn⊢;refine⟨y,by rw[Yg];exact hy,l1,_,l2,r1,_,r2,?_⟩;have hs:=Zbry J;rcases Zgh (hashS (out.getD y.Left.toNat ⟨[],[]⟩) (out.getD y.Right.toNat ⟨[],[]⟩))with⟨e1,e2⟩|e2
     ·rw[e2]at hs;rw[e1]at hn;exact .inr (.inl ⟨_,hs,hol,hn⟩)
     ·rw[e2]at hs;exact .inr (.inr ⟨_,_,hs,hol,hn⟩)
    ·rw[if_neg k3]at hn⊢;by_cases k4:x.Kind=4
     ·rw[if_pos k4];refine⟨y,by rw[Yg];exact hy,l1,_,l2,r1,_,r2,?_⟩;obtain⟨v,v1,v2,v3,v4,v5⟩:=m4 k4;have hs:=Zbrz J v2 v3 v4 v5;rw[←v1]at hs;rcases Zgh (Zcq (out.getD y.Left.toNat ⟨[],[]⟩) (out.getD y.Right.toNat ⟨[],[]⟩))with⟨e1,e2⟩|e2
      ·rw[e2]at hs;rw[e1]at hn;exact .inr (.inl ⟨_,hs,hol,hn⟩)
      ·rw[e2]at hs;exact .inr (.inr ⟨_,_,hs,hol,hn⟩)
     ·rw[if_neg k4];refine⟨y,by rw[Yg];exact hy,l1,_,l2,r1,_,r2,?_⟩;have hs:=Zbc8 J;rcases Zgh (Zcq (out.getD y.Left.toNat ⟨[],[]⟩) (out.getD y.Right.toNat ⟨[],[]⟩))with⟨e1,e2⟩|e2
      ·rw[e2]at hs;rw[e1]at hn;exact .inr (.inl ⟨_,hs,hol,hn⟩)
      ·rw[e2]at hs;exact .inr (.inr ⟨_,_,hs,hol,hn⟩)
theorem l_strm{p:Plan}(hl:info.length=p.Steps.length)(h14:p.Steps.length≤14)(hF:∀(j:Nat) (y:Zb) (x:Zg),info[j]?=some y→p.Steps[j]?=some x→Zfr q.Atoms x (info.take j) y):∀i,i≤p.Steps.length→∀(out:List Za),out.length=i→GSs q info out →
  Zcc d q p info out i=some (.tup [.own 0,.own 1,Bo true],[.arr 199 2 true ((Zcr d q (p.Steps.drop i) (info.drop i) out).map Za.c),.arr 209 4 true (info.map Zb.c)]):=by
 refine down _ ?_ ?_
 ·intro out hi G;refine Zbao ?_;rw[if_neg (by omega),Yu];rfl
 ·intro i hi ih out ho G;have hi2:i<info.length:=by omega
  have hx:p.Steps[i]?=some p.Steps[i]:=Yh hi;have hy:info[i]?=some info[i]:=Yh hi2;have F:=hF i _ _ hy hx;have hg:=st_gs h G hM ho F;have G2:=Z0l G ho hy hg;have step:Zcr d q (p.Steps.drop i) (info.drop i) out=Zcr d q (p.Steps.drop (i+1)) (info.drop (i+1)) (out++[stS d q p.Steps[i] info[i] out]):=by
   rw[Yf hi,Yf hi2,Zcr]
  have hn:Zcc d q p info (out++[stS d q p.Steps[i] info[i] out]) ((i+1:Nat):Int)=some (.tup [.own 0,.own 1,Bo true],[.arr 199 2 true ((Zcr d q (p.Steps.drop i) (info.drop i) out).map Za.c),.arr 209 4 true (info.map Zb.c)]):=by
   rw[step];exact ih _ (by simp[ho]) G2
  generalize Zcr d q (p.Steps.drop i) (info.drop i) out=fin at hn⊢;generalize hxx:p.Steps[i]=x at *
  generalize hyy:info[i]=y at *
  have hol:out.length+1≤68719476736:=by omega
  unfold stS at hn;refine Zbao ?_;rw[if_pos (by omega),wS hi (by omega)];refine⟨by omega,x,by rw[Yg];exact hx,?_⟩;by_cases k1:x.Kind=1
  ·rw[if_pos k1]at hn⊢;obtain⟨f1,-⟩:=F.scan k1;have hs:=Zbrw hd hq h f1;rcases Zgh (Zet d q x.Atom)with⟨e1,e2⟩|e2
   ·rw[e2]at hs;rw[e1]at hn;exact .inr (.inl ⟨_,hs,hol,hn⟩)
   ·rw[e2]at hs;exact .inr (.inr ⟨_,_,hs,hol,hn⟩)
  ·rw[if_neg k1]at hn⊢;by_cases k2:x.Kind=2
   ·rw[if_pos k2]at hn⊢;obtain⟨l1,l2,l3,l4⟩:=Zbdg h G ho F k2;have hs:=Zbrn l3 l4;refine⟨y,by rw[Yg];exact hy,l1,_,l2,?_⟩;rcases Zgh (sortS (out.getD y.Left.toNat ⟨[],[]⟩) x.Order)with⟨e1,e2⟩|e2
    ·rw[e2]at hs;rw[e1]at hn;exact .inr (.inl ⟨_,hs,hol,hn⟩)
    ·rw[e2]at hs;exact .inr (.inr ⟨_,_,hs,hol,hn⟩)
   ·rw[if_neg k2]at hn⊢;obtain⟨l1,l2,r1,r2,J,kk,m4⟩:=Zbdf h hM G ho F k1 k2;by_cases k3:x.Kind=3
    ·rw[if_pos k3]at hn⊢;refine⟨y,by rw[Yg];exact hy,l1,_,l2,r1,_,r2,?_⟩;have hs:=Zbr0 J;rcases Zgh (hashS (out.getD y.Left.toNat ⟨[],[]⟩) (out.getD y.Right.toNat ⟨[],[]⟩))with⟨e1,e2⟩|e2
     ·rw[e2]at hs;rw[e1]at hn;exact .inl ⟨_,hs,hol,hn⟩
     ·rw[e2]at hs;exact .inr (.inr ⟨_,_,hs,hol,hn⟩)
    ·rw[if_neg k3]at hn⊢;by_cases k5:x.Kind=5
     ·rw[if_pos k5];refine⟨y,by rw[Yg];exact hy,l1,_,l2,r1,_,r2,?_⟩;have hs:=Zbr1 J;rcases Zgh (Zcq (out.getD y.Left.toNat ⟨[],[]⟩) (out.getD y.Right.toNat ⟨[],[]⟩))with⟨e1,e2⟩|e2
      ·rw[e2]at hs;rw[e1]at hn;exact .inl ⟨_,hs,hol,hn⟩
      ·rw[e2]at hs;exact .inr (.inr ⟨_,_,hs,hol,hn⟩)
     ·rw[if_neg k5];refine⟨y,by rw[Yg];exact hy,l1,_,l2,r1,_,r2,?_⟩;have k4:x.Kind=4:=by clear m4;omega
      obtain⟨v,v1,v2,v3,v4,v5⟩:=m4 k4;have hs:=Zbr2 J v2 v3 v4 v5;rw[←v1]at hs;rcases Zgh (Zcq (out.getD y.Left.toNat ⟨[],[]⟩) (out.getD y.Right.toNat ⟨[],[]⟩))with⟨e1,e2⟩|e2
      ·rw[e2]at hs;rw[e1]at hn;exact .inr (.inl ⟨_,hs,hol,hn⟩)
      ·rw[e2]at hs;exact .inr (.inr ⟨_,_,hs,hol,hn⟩)
end
def strm(d:Zk)(q:Zd)(steps:List Zg)(info:List Zb):List Za:=Zcr d q steps info []
theorem Z0x(q:Zd)(info:List Zb):GSs q info []:=fun j s h=>by simp at h
theorem Zbr3{d:Zk}{q:Zd}(h:qFor d q=true){info:List Zb}(hM:∀y∈info,0≤y.Mask∧y.Mask<16){steps:List Zg}(hl:info.length=steps.length)(hF:∀(j:Nat) (y:Zb) (x:Zg),info[j]?=some y→steps[j]?=some x→Zfr q.Atoms x (info.take j) y) :
  ∀i,i≤steps.length→∀(out:List Za),out.length=i→GSs q info out→GSs q info (Zcr d q (steps.drop i) (info.drop i) out)∧(Zcr d q (steps.drop i) (info.drop i) out).length=steps.length:=by
 refine down _ ?_ ?_
 ·intro out ho G;rw[Yu];exact⟨G,ho⟩
 ·intro i hi ih out ho G;have hi2:i<info.length:=by omega
  have hx:steps[i]?=some steps[i]:=Yh hi;have hy:info[i]?=some info[i]:=Yh hi2;have hg:=st_gs h G hM ho (hF i _ _ hy hx);rw[Yf hi,Yf hi2,Zcr];exact ih _ (by simp[ho]) (Z0l G ho hy hg)
structure PI (q:Zd) (p:Plan) (info:List Zb):Prop where
 eq:Zcf q.Zn q.Atoms p.Steps=some info
theorem PI.val{q:Zd}{p:Plan}{info:List Zb}(P:PI q p info):Zw q.Zn q.Atoms=true∧info.length=p.Steps.length∧1≤p.Steps.length∧p.Steps.length≤14:=by
 have h:=Z31 P.eq;have h2:=P.eq;unfold Zcf at h2;split at h2
 ·rename_i hc;have:=hc.2;simp[inR]at this;exact⟨h.1,h.2.1,by omega,by omega⟩
 ·cases h2
theorem PI.mask{q:Zd}{p:Plan}{info:List Zb}(P:PI q p info):∀y∈info,0≤y.Mask∧y.Mask<16:=by
 intro y hy;have h1:=(Zbhg P.eq).1 y hy;have h2:=Zfh P.val.1;unfold Zie at h1;have:(2:Int) ^ q.Atoms.length≤2 ^ 4:=by
  rcases(show q.Atoms.length=1∨q.Atoms.length=2∨q.Atoms.length=3∨q.Atoms.length=4 by omega)with e|e|e|e<;>rw[e]<;>decide
 omega
theorem Zbdh{d:Zk}{q:Zd}(h:qFor d q=true){p:Plan}{info:List Zb}(P:PI q p info):GSs q info (strm d q p.Steps info)∧(strm d q p.Steps info).length=p.Steps.length:=by
 have:=Zbr3 h P.mask P.val.2.1 (Zs9 P.eq) 0 (Ya _) [] rfl (Z0x q info);simpa[strm]using this
theorem Zbr4{d:Zk}(hd:LeD d){q:Zd}(hq:LeQ q)(h:qFor d q=true){p:Plan}{info:List Zb}(P:PI q p info):∃fr,Zi2 d q p=some (.tup [.own 0,.own 1,Bo true],[.arr 209 4 true (info.map Zb.c),.arr 199 2 fr ((strm d q p.Steps info).map Za.c)]):=by
 obtain⟨fr,hf⟩:=l_exec hd hq h P.mask P.val.2.1 P.val.2.2.2 (Zs9 P.eq) 0 (Ya _) [] true rfl (Z0x q info);have hp:=Zba7 q p hq;rw[P.eq]at hp;refine⟨fr,Zzp (.inr ⟨_,hp,_,Zz8 d hd q hq,?_⟩)⟩;rw[h,if_pos rfl];exact hf
theorem Zbdi{d:Zk}(hd:LeD d){q:Zd}(hq:LeQ q){p:Plan}(h:Zcf q.Zn q.Atoms p.Steps=none∨qFor d q=false):Zi2 d q p=some (.tup [.t .nil,.t .nil,Bo false],[]):=by
 have hp:=Zba7 q p hq
 cases e:Zcf q.Zn q.Atoms p.Steps with
 |none =>
  rw[e]at hp
  exact Zzp (.inl ⟨hp,rfl⟩)
 |some info =>
  rw[e]at hp;have h2:qFor d q=false:=h.resolve_left (by rw[e];simp);refine Zzp (.inr ⟨_,hp,_,Zz8 d hd q hq,?_⟩);rw[h2,if_neg (by decide)]
theorem Zbr5{d:Zk}(hd:LeD d){q:Zd}(hq:LeQ q)(h:qFor d q=true){p:Plan}{info:List Zb}(P:PI q p info):Zly d q p=some (.tup [.own 0,.own 1,Bo true],[.arr 199 2 true ((strm d q p.Steps info).map Za.c),.arr 209 4 true (info.map Zb.c)]):=by
 have hf:=l_strm hd hq h P.mask (p:=p) P.val.2.1 P.val.2.2.2 (Zs9 P.eq) 0 (Ya _) [] rfl (Z0x q info);have hp:=Zba6 q p hq;rw[P.eq]at hp;refine Zzx ⟨_,_,hp,?_⟩;rw[if_pos rfl];refine⟨_,Zz9 d hd q hq,?_⟩;rw[h,if_pos rfl];exact hf
theorem Zbdj{d:Zk}(hd:LeD d){q:Zd}(hq:LeQ q){p:Plan}(h:Zcf q.Zn q.Atoms p.Steps=none∨qFor d q=false):∃info:List Zb,Zly d q p=some (.tup [.own 0,.own 1,Bo false],[.arr 199 2 true (([]:List Za).map Za.c),.arr 209 4 true (info.map Zb.c)]):=by
 have hp:=Zba6 q p hq
 cases e:Zcf q.Zn q.Atoms p.Steps with
 |none =>
  rw[e]at hp;refine⟨[],Zzx ⟨[],false,hp,?_⟩⟩
  rw[if_neg (by decide)]
 |some info =>
  rw[e]at hp;have h2:qFor d q=false:=h.resolve_left (by rw[e];simp);refine⟨info,Zzx ⟨_,_,hp,?_⟩⟩;rw[if_pos rfl];refine⟨_,Zz9 d hd q hq,?_⟩;rw[h2,if_neg (by decide)]
def ansR(rows:List (List Int)):List (List Int):=cptR (srtR rows)
abbrev AscR(l:List (List Int)):Prop:=l.Pairwise fun a b=>cmpR a b<0
theorem Zbdk:∀{a b:List (List Int)},AscR a→AscR b→(∀x,x∈a↔x∈b)→a=b
 |[],[],_,_,_=>rfl
 |[],y::b,_,_,h=>by have:=(h y).2 (by simp);cases this
 |x::a,[],_,_,h=>by have:=(h x).1 (by simp);cases this
 |x::a,y::b,ha,hb,h=>by
  have ha':=Ybf.1 ha;have hb':=Ybf.1 hb;have e:x=y:=by
   have h1:=(h x).1 (by simp);have h2:=(h y).2 (by simp);rcases Yq.1 h1 with e|e
   ·exact e
   ·rcases Yq.1 h2 with e2|e2
    ·exact e2.symm
    ·have h3:=hb'.1 x e;have h4:=ha'.1 y e2;have:=Zdm x y;omega
  subst e;rw[Zbdk ha'.2 hb'.2 fun z=>?_];constructor
  ·intro hz;have:=(h z).1 (by simp[hz]);rcases Yq.1 this with e|e
   ·subst e;have:=ha'.1 _ hz;rw[Z0m]at this;omega
   ·exact e
  ·intro hz;have:=(h z).2 (by simp[hz]);rcases Yq.1 this with e|e
   ·subst e;have:=hb'.1 _ hz;rw[Z0m]at this;omega
   ·exact e
theorem Zbdl:∀{l:List (List Int)},(l.Pairwise fun a b=>leR a b=true)→AscR (cptR l)
 |[],_=>by simp[cptR]
 |[a],_=>by simp[cptR]
 |a::b::l,h=>by
  have h1:=Ybf.1 h;have ih:=Zbdl h1.2;unfold cptR;split
  ·exact ih
  ·rename_i e;refine Ybf.2 ⟨fun x hx=>?_,ih⟩;rw[Z0n]at hx;have hab:cmpR a b<0:=by
    have h3:=h1.1 b (by simp);unfold leR at h3;simp only[decide_eq_true_eq]at h3;rcases Ydu h3 with h4|h4
    ·exact h4
    ·exact absurd (Zj0 _ _ h4) e
   rcases Yq.1 hx with rfl|hx
   ·exact hab
   ·have h2:=(Ybf.1 h1.2).1 x hx;unfold leR at h2;simp only[decide_eq_true_eq]at h2;have h5:=Zmp a b x (by omega) h2;rcases Ydu h5 with h4|h4
    ·exact h4
    ·have:=Zj0 _ _ h4;subst this;have:=Zdm a b;omega
theorem ansR_asc(rows:List (List Int)):AscR (ansR rows):=Zbdl (Zbcd rows)
theorem ansR_mem(rows:List (List Int))(x:List Int):x∈ansR rows↔x∈rows:=by unfold ansR;rw[Z0n,(Ztb rows).mem_iff]
theorem Zbr6{rows:List (List Int)}(h1:rows.length≤4096)(h2:∀r∈rows,r.length≤4):Zr0 rows=some (.own 0,[.arr 30 1 true ((ansR rows).map isc)]):=by
 have hl:=(Ztb rows).length_eq;refine Zbn1 ⟨_,Zz7 rows h2 (by omega),srtR rows,?_,ansR rows,?_,rfl⟩
 ·unfold Zxi;exact c_sort h1 h2
 ·unfold Zxj;exact c_cpt (by omega) fun r hr=>h2 r ((Ztb rows).mem_iff.1 hr)
theorem Zbdm{s:Za}(h:VS s):Ze3 s=some (.tup [.agg [.own 0,.own 1],Bo true],[.arr 3 1 true (s.Vars.map ic),.arr 30 1 true ((ansR s.Rows).map isc)]):=by
 refine Zbn2 ⟨_,Zj1 h,?_⟩;rw[if_pos rfl];exact⟨_,Zmj _ (by have:=h.four;omega),_,Zbr6 h.len fun r hr=>(h.row4 hr).2,rfl⟩
def putR:List (List Int)→List Int→Bool→List (List Int)
 |[],row,put=>if put=true then[]else[row]
 |e::es,row,put=>if cmpR e row=0 then e::putR es row true else if 0<cmpR e row then(if put=true then e::putR es row true else row::e::putR es row true)else e::putR es row put
theorem Ztn:∀(es:List (List Int)) (row:List Int),putR es row true=es
 |[],_=>rfl
 |e::es,row=>by
  unfold putR;rw[Ztn es row];simp
theorem Zto:∀(es:List (List Int)) (row x:List Int),x∈putR es row false↔x∈es∨x=row
 |[],row,x=>by simp[putR]
 |e::es,row,x=>by
  have ih:=Zto es row x;unfold putR;rw[Ztn];by_cases h1:cmpR e row=0
  ·rw[if_pos h1];have:=Zj0 _ _ h1;subst this;simp;exact fun h=>.inl h
  ·rw[if_neg h1];by_cases h2:0<cmpR e row
   ·rw[if_pos h2,if_neg (by decide)];simp only[Yq];constructor
    ·rintro(h|h|h)
     ·exact .inr h
     ·exact .inl (.inl h)
     ·exact .inl (.inr h)
    ·rintro((h|h)|h)
     ·exact .inr (.inl h)
     ·exact .inr (.inr h)
     ·exact .inl h
   ·rw[if_neg h2,Yq,ih,Yq,or_assoc]
theorem Zbdn:∀{es:List (List Int)} (row:List Int),AscR es→AscR (putR es row false)
 |[],row,_=>by simp[putR]
 |e::es,row,h=>by
  have h':=Ybf.1 h;unfold putR;rw[Ztn];by_cases h1:cmpR e row=0
  ·rw[if_pos h1];exact h
  ·rw[if_neg h1];by_cases h2:0<cmpR e row
   ·rw[if_pos h2,if_neg (by decide)];have h3:cmpR row e<0:=by have:=Zdm e row;omega
    refine Ybf.2 ⟨fun x hx=>?_,h⟩;rcases Yq.1 hx with rfl|hx
    ·exact h3
    ·have h4:=h'.1 x hx;have h5:=Zmp row e x (by omega) (by omega);rcases Ydu h5 with h6|h6
     ·exact h6
     ·have:=Zj0 _ _ h6;subst this;have:=Zdm e row;omega
   ·rw[if_neg h2];refine Ybf.2 ⟨fun x hx=>?_,Zbdn row h'.2⟩;rw[Zto]at hx;rcases hx with hx|rfl
    ·exact h'.1 x hx
    ·omega
theorem Zbdo:∀(es:List (List Int)) (row:List Int) (put:Bool),(putR es row put).length≤es.length+1
 |[],row,put=>by unfold putR;split<;>simp
 |e::es,row,put=>by
  unfold putR;rw[Ztn];have:=Zbdo es row put;split
  ·simp
  ·split
   ·split<;>simp
   ·simp only[Ybb];omega
theorem l_put{rows:List (List Int)}{row:List Int}(hl:rows.length≤5000)(h4:∀r∈rows,r.length≤4)(hr:row.length≤4):∀i,i≤rows.length→∀(out:List (List Int)) (put:Bool),out.length+2*(rows.length-i)≤20000→Zgc out rows row put i=some (.own 0,[.arr 30 1 true ((out++putR (rows.drop i) row put).map isc)]):=by
 refine down _ ?_ ?_
 ·intro out put ho;refine Zba0 ?_;rw[if_neg (by omega),Yu];rcases tf put with e|e
  ·subst e;rw[if_neg (by decide)];exact⟨by omega,by omega,rfl⟩
  ·subst e;rw[if_pos rfl];simp[putR]
 ·intro i hi ih out put ho;have he:=h4 _ (Yc hi);refine Zba0 ?_;rw[if_pos (by omega),wS hi (by omega),Yf hi];refine⟨by omega,_,gE hi,_,Zbbg _ _ (by omega) (by omega),?_⟩;unfold putR;by_cases h1:cmpR rows[i] row=0
  ·rw[if_pos h1,if_pos h1,if_neg (by omega)];refine⟨by omega,by omega,?_⟩;rw[ih _ _ (by simp;omega)];simp
  ·rw[if_neg h1,if_neg h1];by_cases h2:0<cmpR rows[i] row
   ·rw[if_pos h2,if_pos h2];rcases tf put with e|e
    ·subst e;rw[if_neg (by decide),if_neg (by decide)];refine⟨by omega,by omega,by omega,by omega,?_⟩;rw[ih _ _ (by simp;omega)];simp
    ·subst e;rw[if_pos rfl,if_pos rfl];refine⟨by omega,by omega,?_⟩;rw[ih _ _ (by simp;omega)];simp
   ·rw[if_neg h2,if_neg h2];refine⟨by omega,by omega,?_⟩;rw[ih _ _ (by simp;omega)];simp
theorem x_put1{rows:List (List Int)}{row:List Int}(hl:rows.length≤5000)(h4:∀r∈rows,r.length≤4)(hr:row.length≤4):Zpb rows row=some (.own 0,[.arr 30 1 true ((putR rows row false).map isc)]) :=
 Zbpm (by simpa using l_put hl h4 hr 0 (Ya _) [] false (by simp;omega))
theorem x_put0{row:List Int}(hr:row.length≤4):Zpa row=some (.own 0,[.arr 30 1 true (([row]).map isc)]):=by
 refine Zbpl (Zbpk ?_);rw[if_neg (by decide),if_neg (by decide)];exact⟨by omega,by simp,rfl⟩
def Zj3(acc rows:List (List Int)):List (List Int):=rows.foldl (fun l r=>putR l r false) acc
theorem Zbdp:∀(rows acc:List (List Int)) (x:List Int),x∈Zj3 acc rows↔x∈acc∨x∈rows
 |[],acc,x=>by simp[Zj3]
 |r::rows,acc,x=>by
  show x∈Zj3 (putR acc r false) rows↔_;rw[Zbdp rows,Zto,Yq,or_assoc]
theorem Zbdq:∀{rows acc:List (List Int)},AscR acc→AscR (Zj3 acc rows)
 |[],acc,h=>h
 |r::rows,acc,h=>Zbdq (rows:=rows) (Zbdn r h)
theorem Zbr7(rows:List (List Int)):Zj3 [] rows=ansR rows :=
 Zbdk (Zbdq .nil) (ansR_asc rows) fun x=>by rw[Zbdp,ansR_mem];simp
theorem Zbr8{s:Za}(h:VS s):∀i,i≤s.Rows.length→∀acc:List (List Int),acc.length≤i→(∀r∈acc,r.length≤4)→Zpc s s.Vars acc i=some (.tup [.agg [.own 0,.own 1],Bo true],[.arr 3 1 true (s.Vars.map ic),.arr 30 1 true ((Zj3 acc (s.Rows.drop i)).map isc)]):=by
 have hl:=h.len;refine down _ ?_ ?_
 ·intro acc ha h4;refine Zba1 ?_;rw[if_neg (by omega),Yu];rfl
 ·intro i hi ih acc ha h4;have hr:=h.row4 (Yc hi);refine Zba1 ?_;rw[if_pos (by omega),wS hi (by omega),Yf hi];have hp:=Zbdo acc s.Rows[i] false
  exact⟨by omega,_,gE hi,_,x_put1 (by omega) h4 hr.2,ih _ (by omega) (fun r hm=>by
   rcases(Zto _ _ _).1 hm with hm|rfl
   ·exact h4 r hm
   ·exact hr.2)⟩
def ansF(s:Za):AV×List Blk:=if s.Rows=[]then(.tup [.agg [.own 0,.t .nil],Bo true],[.arr 3 1 true (s.Vars.map ic)])else(.tup [.agg [.own 0,.own 1],Bo true],[.arr 3 1 true (s.Vars.map ic),.arr 30 1 true ((ansR s.Rows).map isc)])
theorem Zbdr{s:Za}(h:VS s):Ze5 s=some (ansF s):=by
 have h4:=h.four;refine Zbpo ⟨_,Zj2 h,?_⟩;rw[if_pos rfl];refine⟨by omega,Zbpn ?_⟩;unfold ansF;by_cases e:s.Rows=[]
 ·rw[if_neg (by rw[e];simp),if_pos e]
 ·have h0:0<s.Rows.length:=Ydr.2 e;have hr:=h.row4 (Yc h0);rw[if_pos (by omega),if_neg e];refine⟨by omega,_,gE h0,_,x_put0 hr.2,?_⟩;have:=Zbr8 h 1 (by omega) [s.Rows[0]] (by simp) (by simp[hr.2]);have e2:Zj3 [s.Rows[0]] (s.Rows.drop 1)=ansR s.Rows:=by
   rw[←Zbr7]
   conv=>rhs;rw[←Yl (l:=s.Rows),Yf h0]
   rfl
  rw[e2]at this;rw[show w (0+1)=((1:Nat):Int) by decide];exact this
theorem Zbr9(n:Int)(h0:0≤n)(h1:n≤4096):Zn9 n 0=some (I (Zd2 n),[]):=by
 unfold Zd2;rw[if_neg (by omega:¬n<0)];refine Zhv ⟨_,Zfo 0,?_⟩;rw[show Zbf 0=0 from by decide];by_cases c0:n≤0
 ·rw[if_pos c0,if_pos c0]
 rw[if_neg c0,if_neg c0,show w (0+1)=1 from by decide];refine Zhv ⟨_,Zfo 1,?_⟩;rw[show Zbf 1=1 from by decide];by_cases c1:n≤1
 ·rw[if_pos c1,if_pos c1]
 rw[if_neg c1,if_neg c1,show w (1+1)=2 from by decide];refine Zhv ⟨_,Zfo 2,?_⟩;rw[show Zbf 2=4 from by decide];by_cases c2:n≤4
 ·rw[if_pos c2,if_pos c2]
 rw[if_neg c2,if_neg c2,show w (2+1)=3 from by decide];refine Zhv ⟨_,Zfo 3,?_⟩;rw[show Zbf 3=16 from by decide];by_cases c3:n≤16
 ·rw[if_pos c3,if_pos c3]
 rw[if_neg c3,if_neg c3,show w (3+1)=4 from by decide];refine Zhv ⟨_,Zfo 4,?_⟩;rw[show Zbf 4=64 from by decide];by_cases c4:n≤64
 ·rw[if_pos c4,if_pos c4]
 rw[if_neg c4,if_neg c4,show w (4+1)=5 from by decide];refine Zhv ⟨_,Zfo 5,?_⟩;rw[show Zbf 5=256 from by decide];by_cases c5:n≤256
 ·rw[if_pos c5,if_pos c5]
 rw[if_neg c5,if_neg c5,show w (5+1)=6 from by decide];refine Zhv ⟨_,Zfo 6,?_⟩;rw[show Zbf 6=1024 from by decide];by_cases c6:n≤1024
 ·rw[if_pos c6,if_pos c6]
 rw[if_neg c6,if_neg c6,show w (6+1)=7 from by decide];refine Zhv ⟨_,Zfo 7,?_⟩;rw[show Zbf 7=4096 from by decide];rw[if_pos h1,if_pos h1]
theorem Zh3{c a b:Prop}[Decidable c](h:c)(ha:a):if c then a else b:=by rw[if_pos h];exact ha
theorem Zbsa(n:Int)(h0:0≤n)(h1:n≤4096):Zo9 n 0=some (I (Zd2 n),[]):=by
 unfold Zd2;rw[if_neg (by omega:¬n<0)];refine Zhx (Zh3 (by decide) ⟨_,Zfp 0,?_⟩);rw[show Zbf 0=0 from by decide];by_cases c0:n≤0
 ·rw[if_pos c0,if_pos c0]
 rw[if_neg c0,if_neg c0,show w (0+1)=1 from by decide];refine Zhx (Zh3 (by decide) ⟨_,Zfp 1,?_⟩);rw[show Zbf 1=1 from by decide];by_cases c1:n≤1
 ·rw[if_pos c1,if_pos c1]
 rw[if_neg c1,if_neg c1,show w (1+1)=2 from by decide];refine Zhx (Zh3 (by decide) ⟨_,Zfp 2,?_⟩);rw[show Zbf 2=4 from by decide];by_cases c2:n≤4
 ·rw[if_pos c2,if_pos c2]
 rw[if_neg c2,if_neg c2,show w (2+1)=3 from by decide];refine Zhx (Zh3 (by decide) ⟨_,Zfp 3,?_⟩);rw[show Zbf 3=16 from by decide];by_cases c3:n≤16
 ·rw[if_pos c3,if_pos c3]
 rw[if_neg c3,if_neg c3,show w (3+1)=4 from by decide];refine Zhx (Zh3 (by decide) ⟨_,Zfp 4,?_⟩);rw[show Zbf 4=64 from by decide];by_cases c4:n≤64
 ·rw[if_pos c4,if_pos c4]
 rw[if_neg c4,if_neg c4,show w (4+1)=5 from by decide];refine Zhx (Zh3 (by decide) ⟨_,Zfp 5,?_⟩);rw[show Zbf 5=256 from by decide];by_cases c5:n≤256
 ·rw[if_pos c5,if_pos c5]
 rw[if_neg c5,if_neg c5,show w (5+1)=6 from by decide];refine Zhx (Zh3 (by decide) ⟨_,Zfp 6,?_⟩);rw[show Zbf 6=1024 from by decide];by_cases c6:n≤1024
 ·rw[if_pos c6,if_pos c6]
 rw[if_neg c6,if_neg c6,show w (6+1)=7 from by decide];refine Zhx (Zh3 (by decide) ⟨_,Zfp 7,?_⟩);rw[show Zbf 7=4096 from by decide];rw[if_pos h1,if_pos h1]
theorem Zbsb{n:Int}(h:inR n 0 4096=false):Zd2 n=-1:=by
 simp[inR]at h;unfold Zd2
 repeat' split
 all_goals omega
theorem Z0y(n:Int):Zhi n=some (I (Zd2 n),[]):=by
 refine Zbnw ⟨_,Zc6 _ _ _,?_⟩;rcases tf (inR n 0 4096)with e|e
 ·rw[e,Zbsb e];simp
 ·rw[if_pos e];simp[inR]at e;exact Zbr9 n e.1 e.2
theorem Z0z(n:Int):Zi5 n=some (I (Zne n),[]):=Zbnx ⟨_,Z0y n,_,Zfo _,rfl⟩
theorem Z00(n:Int)(h1:n≤4096):Zhs n=some (I (Zd2 n),[]):=by
 refine Zbpg ?_;by_cases c:n<0
 ·rw[if_pos c];unfold Zd2;rw[if_pos c]
 ·rw[if_neg c];exact Zbsa n (by omega) h1
theorem Z01(n:Int)(h1:n≤4096):Zcj n=some (I (Zne n),[]):=Zbph ⟨_,Z00 n h1,_,Zfp _,rfl⟩
theorem Z02(m:Zj):Zd4 m=some (.bsl 1 5,[.box (m.c.map .t),.box [.ptr 0 0,.ptr 0 6,.ptr 0 12,.ptr 0 18,.ptr 0 24]]):=Z87 rfl
def fst(info:List Zb):Nat→Int→Int
 |0,i=>i
 |f+1,i=>match info[i.toNat]? with
  |some y=>if 0≤y.Left then fst info f y.Left else i
  |none=>i
def first(info:List Zb)(i:Int):Int:=fst info (i.toNat+1) i
def ruS(l:List Za)(i:Int):Int:=Zne ((l.getD i.toNat ⟨[],[]⟩).Rows.length:Int)
def lfC(l:List Za)(y:Zb)(i:Nat):Int:=if 0≤y.Left then ruS l y.Left else ruS l i
def rtC(l:List Za)(y:Zb):Int:=if 0≤y.Right then ruS l y.Right else 0
def stC(m:Zj)(l:List Za)(x:Zg)(y:Zb)(i:Nat):Int:=Zdu (mOp m x.Kind) (lfC l y i) (rtC l y) (ruS l i)
def alwF(o:Zh)(l r b:Int)(k:Nat):Int:=match(List.range' k (8-k)).find? (fun j:Nat=>decide (b<Zdu o l r (Zbf j)))with
 |some j=>(j:Int)
 |none=>8
def obs1(m:Zj)(l:List Za)(x:Zg)(y:Zb)(b:Int):Zl:=⟨y.Mask,alwF (mOp m x.Kind) (ruS l y.Left) (ruS l y.Right) b 0,false⟩
def obs2(l:List Za)(y:Zb)(i:Nat):Zl:=⟨y.Mask,Zd2 ((l.getD i ⟨[],[]⟩).Rows.length:Int),true⟩
def runF(m:Zj)(l:List Za)(bud:Int):List Zg→List Zb→Nat→Int→Int→List Zl→Bool×Int×Int×List Zl
 |x::xs,y::ys,i,c,st,seen =>
  if w (bud-c)<stC m l x y i then(false,bud,st,if 3≤x.Kind then seen++[obs1 m l x y (w (bud-c))]else seen)
  else runF m l bud xs ys (i+1) (w (c+stC m l x y i)) (w (st+1)) (if 3≤x.Kind then seen++[obs2 l y i]else seen)
 |_,_,_,c,st,seen=>(true,c,st,seen)
def runR(nl:Bool)(s:Za):Bool×Int×Int×List Zl→AV×List Blk
 |(false,c,st,seen)=>if seen=[]then(.tup [.agg [Bo false,I c,I st,.t .nil,.t .nil,.t .nil],Bo true],[])else(.tup [.agg [Bo false,I c,I st,.own 0,.t .nil,.t .nil],Bo true],[.arr 211 3 true (seen.map Zl.c)])
 |(true,c,st,seen)=>if nl=true∧s.Rows=[]then
   (if seen=[]then(.tup [.agg [Bo true,I c,I st,.t .nil,.own 0,.t .nil],Bo true],[.arr 3 1 true (s.Vars.map ic)])else(.tup [.agg [Bo true,I c,I st,.own 0,.own 1,.t .nil],Bo true],[.arr 211 3 true (seen.map Zl.c),.arr 3 1 true (s.Vars.map ic)]))
  else(if seen=[]then(.tup [.agg [Bo true,I c,I st,.t .nil,.own 0,.own 1],Bo true],[.arr 3 1 true (s.Vars.map ic),.arr 30 1 true ((ansR s.Rows).map isc)])else(.tup [.agg [Bo true,I c,I st,.own 0,.own 1,.own 2],Bo true],[.arr 211 3 true (seen.map Zl.c),.arr 3 1 true (s.Vars.map ic),.arr 30 1 true ((ansR s.Rows).map isc)]))
theorem Zmq{m:Zj}(hm:LeM m)(k:Int):Le (mOp m k).Steps:=by
 obtain⟨h1,h2,h3,h4,h5⟩:=hm;unfold mOp;split
 ·exact h1
 ·split
  ·exact h2
  ·split
   ·exact h3
   ·split
    ·exact h4
    ·exact h5
theorem adm_op{m:Zj}(h:Zeq m)(k:Int):Zbn (mOp m k)=true:=by
 obtain⟨h1,h2,h3,h4,h5⟩:=h;unfold mOp;split
 ·exact h1.1
 ·split
  ·exact h2.1
  ·split
   ·exact h3.1
   ·split
    ·exact h4.1
    ·exact h5.1
theorem ru_in{n:Nat}(h:n≤4096):inR (Zne (n:Int)) 0 4096=true:=by
 unfold Zne Zd2;rw[if_neg (by omega)]
 repeat' split
 all_goals first|decide|omega
theorem cls_in{k:Nat}(h:k≤7):inR (Zbf (k:Int)) 0 4096=true:=by
 have:∀k:Fin 8,inR (Zbf (k.1:Int)) 0 4096=true:=by decide
 exact this ⟨k,by omega⟩
theorem opc_eq{o:Zh}(h:Zbn o=true){l r n:Int}(hl:inR l 0 4096=true)(hr:inR r 0 4096=true)(hn:inR n 0 4096=true):Zme o l r n=Zdu o l r n:=by
 unfold Zdu;rw[if_pos (by rw[h,hl,hr,hn];rfl)]
theorem Zbds{o:Zh}{l r b:Int}{k:Nat}(h:k<8):alwF o l r b k=if b<Zdu o l r (Zbf k)then(k:Int)else alwF o l r b (k+1):=by
 unfold alwF;rw[show 8-k=(8-(k+1))+1 by omega,Ycy,List.find?_cons];by_cases e:b<Zdu o l r (Zbf k)
 ·rw[if_pos e];simp[e]
 ·rw[if_neg e];simp[e]
theorem Zbsc{o:Zh}(hs:Le o.Steps)(hv:Zbn o=true){l r b:Int}(hl:inR l 0 4096=true)(hr:inR r 0 4096=true):∀k:Nat,k≤8→Zoa o l r b k=some (I (alwF o l r b k),[]):=by
 refine down 8 ?_ ?_
 ·refine Z9j ?_;rw[if_neg (by decide)];rfl
 ·intro k hk ih;refine Z9j ?_;rw[if_pos (by omega),wS hk (by omega),Zbds hk];refine⟨_,Zfo _,_,Zbp5 o hs _ _ _,?_⟩;rw[opc_eq hv hl hr (cls_in (by omega))];by_cases e:b<Zdu o l r (Zbf k)
  ·rw[if_neg (by omega),if_pos e]
  ·rw[if_pos (by omega),if_neg e];exact ih
theorem Zbdt{o:Zh}(hs:Le o.Steps)(hv:Zbn o=true){l r b:Int}(hl:inR l 0 4096=true)(hr:inR r 0 4096=true):Zbt o l r b=some (I (alwF o l r b 0),[]) :=
 Zbn0 (Zbsc hs hv hl hr 0 (by omega))
theorem Zbsd{m:Zj}(hm:LeM m)(kd:Int){l r b:Int}:∀k:Nat,k≤8→Zl8 m kd l r b k=some (I (alwF (mOp m kd) l r b k),[]):=by
 refine down 8 ?_ ?_
 ·refine Zbaz ?_;rw[if_neg (by decide)];rfl
 ·intro k hk ih;refine Zbaz ?_;rw[if_pos (by omega),wS hk (by omega),Zbds hk];refine⟨_,Zz6 m kd,_,Zfp _,_,Zs0 _ (Zmq hm kd) _ _ _,?_⟩;by_cases e:b<Zdu (mOp m kd) l r (Zbf k)
  ·rw[if_neg (by omega),if_pos e]
  ·rw[if_pos (by omega),if_neg e];exact ih
theorem Zbdu{m:Zj}(hm:LeM m)(ha:Zeq m){kd:Int}(hk:inR kd 1 5=true){l r b:Int}(hl:inR l 0 4096=true)(hr:inR r 0 4096=true):Zjw m kd l r b=some (I (alwF (mOp m kd) l r b 0),[]):=by
 refine Zbpj ⟨_,Zbbc m hm,?_⟩;rw[if_pos (by simpa using ha)];refine⟨_,Zdj _ _ _,?_⟩;rw[hk,if_pos rfl];refine⟨_,Zdj _ _ _,?_⟩;rw[hl,if_pos rfl];refine⟨_,Zdj _ _ _,?_⟩;rw[hr,if_pos rfl];exact Zbsd hm kd 0 (by omega)
structure RunI (q:Zd) (p:Plan) (info:List Zb) (l:List Za):Prop where
 P:PI q p info
 G:GSs q info l
 len:l.length=p.Steps.length
section
variable{q:Zd}{p:Plan}{info:List Zb}{l:List Za}(R:RunI q p info l)
include R
theorem RunI.n4096(i:Int):(l.getD i.toNat ⟨[],[]⟩).Rows.length≤4096:=by
 by_cases h:i.toNat<l.length
 ·obtain⟨y,_,g⟩:=R.G _ _ (Zfs h);have:=g.len;have:=Zs7 y.Mask;omega
 ·rw[Ybo,Ybu (by omega)];simp
theorem RunI.ru(i:Int):inR (ruS l i) 0 4096=true:=ru_in (R.n4096 i)
theorem RunI.at_{i:Nat}(hi:i<p.Steps.length):∃x y,p.Steps[i]?=some x∧info[i]?=some y∧p.Steps[i]=x∧(1≤x.Kind∧x.Kind≤5)∧(0≤y.Right↔3≤x.Kind)∧(0≤y.Right→0≤y.Left)∧(0≤y.Left→y.Left.toNat<i)∧(0≤y.Right→y.Right.toNat<i):=by
 have hl:=R.P.val.2.1;have hx:p.Steps[i]?=some p.Steps[i]:=Yh hi;have hy:info[i]?=some info[i]:=Yh (by omega);have F:=Zs9 R.P.eq i _ _ hy hx;refine⟨_,_,hx,hy,rfl,?_⟩;generalize p.Steps[i]=x at *
 generalize info[i]=y at *
 have hlt:∀{s:Int} {u:Zb},(info.take i)[s.toNat]?=some u→s.toNat<i:=by
  intro s u h;rw[Y9]at h;split at h
  ·assumption
  ·cases h
 by_cases k1:x.Kind=1
 ·obtain⟨-,rfl⟩:=F.scan k1;refine⟨by omega,?_,?_,?_,?_⟩<;>simp<;>omega
 ·by_cases k2:x.Kind=2
  ·obtain⟨s,u,f1,f2,-,rfl⟩:=F.sort k2;have:=hlt f2;refine⟨by omega,?_,?_,?_,?_⟩<;>simp<;>omega
  ·obtain⟨s,u,t,z,o,f1,f2,f3,f4,-,rfl,f6⟩:=F.join k1 k2;have h1:=hlt f2;have h2:=hlt f4;have k3:3≤x.Kind∧x.Kind≤5:=by rcases f6 with⟨k,_⟩|⟨k,_⟩|⟨k,_⟩<;>omega
   refine⟨by omega,?_,?_,?_,?_⟩<;>simp<;>omega
theorem RunI.rt{y:Zb}:inR (rtC l y) 0 4096=true:=by
 unfold rtC;split
 ·exact R.ru _
 ·decide
theorem Z03{i:Nat}{x:Zg}{y:Zb}(hi:i<p.Steps.length)(hy:info[i]?=some y)(hL:0≤y.Left→y.Left.toNat<i)(hR:0≤y.Right→y.Right.toNat<i)(hRL:0≤y.Right→0≤y.Left):Zf7 info l i=some (.tup [I (lfC l y i),I (rtC l y),I (ruS l i)],[]):=by
 have hl:=R.len;have h0:l[(i:Int).toNat]?=some (l.getD (i:Int).toNat ⟨[],[]⟩):=Zfs (by omega);refine Zbny ⟨by omega,_,h0,_,Z0z _,y,by rw[Yg];exact hy,?_⟩;unfold lfC rtC;by_cases h1:0≤y.Left
 ·rw[if_pos h1,if_pos h1];refine⟨_,Zfs (by have:=hL h1;omega),_,Z0z _,?_⟩;by_cases h2:0≤y.Right
  ·rw[if_pos h2,if_pos h2];exact⟨_,Zfs (by have:=hR h2;omega),_,Z0z _,rfl⟩
  ·rw[if_neg h2,if_neg h2];rfl
 ·have h2:¬0≤y.Right:=fun h=>h1 (hRL h)
  rw[if_neg h1,if_neg h1,if_neg h2,if_neg h2];rfl
theorem Zbdv{m:Zj}(hm:LeM m){i:Nat}{x:Zg}{y:Zb}(hi:i<p.Steps.length)(hx:p.Steps[i]?=some x)(hy:info[i]?=some y)(hk:1≤x.Kind∧x.Kind≤5)(hL:0≤y.Left→y.Left.toNat<i)(hR:0≤y.Right→y.Right.toNat<i)(hRL:0≤y.Right→0≤y.Left):Zi6 m p info l i=some (I (stC m l x y i),[]):=by
 refine Zbn3 ⟨_,_,_,Z03 R (x:=x) hi hy hL hR hRL,Z02 m,by omega,x,by rw[Yg];exact hx,?_⟩;unfold stC mOp;rw[wA (by omega) (by omega)];obtain⟨a1,a2,a3,a4,a5⟩:=hm;by_cases h1:x.Kind=1
 ·rw[if_pos (by omega),if_pos h1];exact⟨_,Zpm _ a1 _ _ _,rfl⟩
 ·rw[if_neg (by omega),if_neg h1];by_cases h2:x.Kind=2
  ·rw[if_pos (by omega),if_pos h2];exact⟨_,Zpm _ a2 _ _ _,rfl⟩
  ·rw[if_neg (by omega),if_neg h2];by_cases h3:x.Kind=3
   ·rw[if_pos (by omega),if_pos h3];exact⟨_,Zpm _ a3 _ _ _,rfl⟩
   ·rw[if_neg (by omega),if_neg h3];by_cases h4:x.Kind=4
    ·rw[if_pos (by omega),if_pos h4];exact⟨_,Zpm _ a4 _ _ _,rfl⟩
    ·rw[if_neg (by omega),if_neg h4,if_pos (by omega)];exact⟨_,Zpm _ a5 _ _ _,rfl⟩
theorem Ztp{m:Zj}{bud:Int}{i:Nat}{x:Zg}{y:Zb}(hi:i<p.Steps.length)(hx:p.Steps[i]?=some x)(hy:info[i]?=some y)(c st:Int)(seen:List Zl) :
  runF m l bud (p.Steps.drop i) (info.drop i) i c st seen=if w (bud-c)<stC m l x y i then(false,bud,st,if 3≤x.Kind then seen++[obs1 m l x y (w (bud-c))]else seen)else runF m l bud (p.Steps.drop (i+1)) (info.drop (i+1)) (i+1) (w (c+stC m l x y i)) (w (st+1)) (if 3≤x.Kind then seen++[obs2 l y i]else seen):=by
 have hl:=R.P.val.2.1;have hx':p.Steps[i]=x:=by rw[Yh hi]at hx;exact Yb5 hx
 have hy':info[i]'(by omega)=y:=by rw[Yh (by omega)]at hy;exact Yb5 hy
 rw[Yf hi,Yf (show i<info.length by omega),hx',hy',runF]
omit R in
theorem Ztq{m:Zj}{bud:Int}(c st:Int)(seen:List Zl):runF m l bud (p.Steps.drop p.Steps.length) (info.drop p.Steps.length) p.Steps.length c st seen=(true,c,st,seen):=by rw[Yu];rfl
theorem RunI.last:l[((p.Steps.length-1:Nat):Int).toNat]?=some (l.getD (p.Steps.length-1) ⟨[],[]⟩)∧VS (l.getD (p.Steps.length-1) ⟨[],[]⟩):=by
 have h:=R.P.val;have hl:=R.len;have h1:l[((p.Steps.length-1:Nat):Int).toNat]?=some (l.getD ((p.Steps.length-1:Nat):Int).toNat ⟨[],[]⟩):=Zfs (by omega);rw[Yg]at h1⊢;obtain⟨y,_,g⟩:=R.G _ _ h1;exact⟨h1,g.vs h.1⟩
end
section
variable{q:Zd}{p:Plan}{info:List Zb}{l:List Za}(R:RunI q p info l){m:Zj}(hm:LeM m)(ha:Zeq m)(fr:Bool)(bud:Int)
include R hm ha
theorem Zbse:∀i,i≤p.Steps.length→∀(c st:Int) (seen:List Zl),seen≠[]→seen.length≤i→Zf8 m p false 0 0 info fr l false c st seen bud p.Steps p.Steps.length i=some (runR false (l.getD (p.Steps.length-1) ⟨[],[]⟩) (runF m l bud (p.Steps.drop i) (info.drop i) i c st seen)):=by
 have hv:=R.P.val;have hl:=R.len;refine down _ ?_ ?_
 ·intro c st seen h0 hs;obtain⟨e1,e2⟩:=R.last;refine Z9l ?_;rw[if_neg (by omega),Ztq,hl,show w ((p.Steps.length:Int)-1)=((p.Steps.length-1:Nat):Int) by rw[wA (by omega) (by omega)];omega];refine⟨by omega,_,e1,.inl ⟨_,_,Zbdm e2,?_⟩⟩;simp[runR,h0]
 ·intro i hi ih c st seen h0 hs;obtain⟨x,y,hx,hy,hxi,k15,kr,krl,hL,hR⟩:=R.at_ hi;refine Z9l ?_;rw[if_pos (by omega),Ztp R hi hx hy,wS hi (by omega)];refine⟨by omega,x,by rw[Yg];exact hx,_,_,_,Z03 R (x:=x) hi hy hL hR krl,_,Zbdv R hm hi hx hy k15 hL hR krl,?_⟩;by_cases hc:w (bud-c)<stC m l x y i
  ·rw[if_pos hc,if_pos hc];by_cases h3:3≤x.Kind
   ·rw[if_pos h3,if_pos h3];have h5:0≤y.Right:=kr.2 h3;have e1:lfC l y i=ruS l y.Left:=by unfold lfC;rw[if_pos (krl h5)]
    have e2:rtC l y=ruS l y.Right:=by unfold rtC;rw[if_pos h5]
    rw[e1,e2];have hA:∀o,mOp m x.Kind=o→Zbt o (ruS l y.Left) (ruS l y.Right) (w (bud-c))=some (I (obs1 m l x y (w (bud-c))).Class,[]):=by
     intro o ho;have:=Zbdt (Zmq hm x.Kind) (adm_op ha x.Kind) (b:=w (bud-c)) (R.ru y.Left) (R.ru y.Right);rw[ho]at this;rw[this];simp only[obs1,ho]
    have res:runR false (l.getD (p.Steps.length-1) ⟨[],[]⟩) (false,bud,st,seen++[obs1 m l x y (w (bud-c))])=(.tup [.agg [Bo false,I bud,I st,.own 0,.t .nil,.t .nil],Bo true],[.arr 211 3 true ((seen++[(⟨y.Mask,(obs1 m l x y (w (bud-c))).Class,false⟩:Zl)]).map Zl.c)]):=by
     simp[runR,obs1]
    rw[res];refine⟨Z02 m,?_⟩;rw[wA (by omega) (by omega),if_neg (by omega),if_neg (by omega)];have hy2:info[(i:Int).toNat]?=some y:=by rw[Yg];exact hy
    by_cases g3:x.Kind=3
    ·rw[if_pos (by omega)];exact⟨_,hA m.Hash (by simp[mOp,g3]),y,hy2,by omega,rfl⟩
    ·rw[if_neg (by omega)];by_cases g4:x.Kind=4
     ·rw[if_pos (by omega)];exact⟨_,hA m.Merge (by simp[mOp,g4]),y,hy2,by omega,rfl⟩
     ·rw[if_neg (by omega),if_pos (by omega)];exact⟨_,hA m.Nested (by simp[mOp,show x.Kind=5 by omega]),y,hy2,by omega,rfl⟩
   ·rw[if_neg h3,if_neg h3];simp[runR,h0]
  ·rw[if_neg hc,if_neg hc];by_cases h3:3≤x.Kind
   ·rw[if_pos h3,if_pos h3];refine⟨y,by rw[Yg];exact hy,_,Zfs (by omega),_,Z0y _,by omega,?_⟩;rw[Yg];exact ih _ _ (seen++[obs2 l y i]) (by simp) (by simp;omega)
   ·rw[if_neg h3,if_neg h3];exact ih _ _ seen h0 (by omega)
theorem Zbsf:∀i,i≤p.Steps.length→∀(c st:Int),Zi9 m p false 0 0 info fr l false c st bud p.Steps p.Steps.length i=some (runR false (l.getD (p.Steps.length-1) ⟨[],[]⟩) (runF m l bud (p.Steps.drop i) (info.drop i) i c st [])):=by
 have hv:=R.P.val;have hl:=R.len;refine down _ ?_ ?_
 ·intro c st;obtain⟨e1,e2⟩:=R.last;refine Z9k ?_;rw[if_neg (by omega),Ztq,hl,show w ((p.Steps.length:Int)-1)=((p.Steps.length-1:Nat):Int) by rw[wA (by omega) (by omega)];omega];refine⟨by omega,_,e1,.inl ⟨_,_,Zbdm e2,?_⟩⟩;simp[runR]
 ·intro i hi ih c st;obtain⟨x,y,hx,hy,hxi,k15,kr,krl,hL,hR⟩:=R.at_ hi;refine Z9k ?_;rw[if_pos (by omega),Ztp R hi hx hy,wS hi (by omega)];refine⟨by omega,x,by rw[Yg];exact hx,_,_,_,Z03 R (x:=x) hi hy hL hR krl,_,Zbdv R hm hi hx hy k15 hL hR krl,?_⟩;by_cases hc:w (bud-c)<stC m l x y i
  ·rw[if_pos hc,if_pos hc];by_cases h3:3≤x.Kind
   ·rw[if_pos h3,if_pos h3];have h5:0≤y.Right:=kr.2 h3;have e1:lfC l y i=ruS l y.Left:=by unfold lfC;rw[if_pos (krl h5)]
    have e2:rtC l y=ruS l y.Right:=by unfold rtC;rw[if_pos h5]
    rw[e1,e2];have hA:∀o,mOp m x.Kind=o→Zbt o (ruS l y.Left) (ruS l y.Right) (w (bud-c))=some (I (obs1 m l x y (w (bud-c))).Class,[]):=by
     intro o ho;have:=Zbdt (Zmq hm x.Kind) (adm_op ha x.Kind) (b:=w (bud-c)) (R.ru y.Left) (R.ru y.Right);rw[ho]at this;rw[this];simp only[obs1,ho]
    have res:runR false (l.getD (p.Steps.length-1) ⟨[],[]⟩) (false,bud,st,[]++[obs1 m l x y (w (bud-c))])=(.tup [.agg [Bo false,I bud,I st,.own 0,.t .nil,.t .nil],Bo true],[.arr 211 3 true (([(⟨y.Mask,(obs1 m l x y (w (bud-c))).Class,false⟩:Zl)]).map Zl.c)]):=by
     simp[runR,obs1]
    rw[res];refine⟨Z02 m,?_⟩;rw[wA (by omega) (by omega),if_neg (by omega),if_neg (by omega)];have hy2:info[(i:Int).toNat]?=some y:=by rw[Yg];exact hy
    by_cases g3:x.Kind=3
    ·rw[if_pos (by omega)];exact⟨_,hA m.Hash (by simp[mOp,g3]),y,hy2,rfl⟩
    ·rw[if_neg (by omega)];by_cases g4:x.Kind=4
     ·rw[if_pos (by omega)];exact⟨_,hA m.Merge (by simp[mOp,g4]),y,hy2,rfl⟩
     ·rw[if_neg (by omega),if_pos (by omega)];exact⟨_,hA m.Nested (by simp[mOp,show x.Kind=5 by omega]),y,hy2,rfl⟩
   ·rw[if_neg h3,if_neg h3];simp[runR]
  ·rw[if_neg hc,if_neg hc];by_cases h3:3≤x.Kind
   ·rw[if_pos h3,if_pos h3];refine⟨y,by rw[Yg];exact hy,_,Zfs (by omega),_,Z0y _,?_⟩;rw[Yg];exact Zbse R hm ha fr bud (i+1) hi _ _ [obs2 l y i] (by simp) (by simp)
   ·rw[if_neg h3,if_neg h3];exact ih _ _
omit R hm ha in
theorem Zft{i:Nat}{k:Int}(hi:i<l.length)(h0:0≤k)(hk:k.toNat≤i):((l.take i).map (fun s:Za=>(s.Rows.length:Int))++[((l.getD i ⟨[],[]⟩).Rows.length:Int)])[k.toNat]?=some ((l.getD k.toNat ⟨[],[]⟩).Rows.length:Int):=by
 have e:(l.take i).map (fun s:Za=>(s.Rows.length:Int))++[((l.getD i ⟨[],[]⟩).Rows.length:Int)]=(l.take (i+1)).map fun s:Za=>(s.Rows.length:Int):=by
  rw[Ybn hi,Ybk,Ybo,Yh hi];rfl
 rw[e,Ycf,Y9,if_pos (by omega),Zfs (by omega)];rfl
omit ha in
theorem x_l28{i:Nat}{x:Zg}{y:Zb}(hi:i<p.Steps.length)(hx:p.Steps[i]?=some x)(hy:info[i]?=some y)(hL:0≤y.Left→y.Left.toNat<i)(hR:0≤y.Right→y.Right.toNat<i)(hRL:0≤y.Right→0≤y.Left):Zjv m p info ((l.take i).map (fun s:Za=>(s.Rows.length:Int))++[((l.getD i ⟨[],[]⟩).Rows.length:Int)]) i=some (I (stC m l x y i),[]):=by
 have hl:=R.len;have ru:∀k:Int,Zcj ((l.getD k.toNat ⟨[],[]⟩).Rows.length:Int)=some (I (ruS l k),[]):=fun k=>Z01 _ (by have:=R.n4096 k;omega)
 have h0:=Zft (l:=l) (i:=i) (k:=(i:Int)) (by omega) (by omega) (by omega);refine Zbpi ⟨by omega,x,by rw[Yg];exact hx,_,Zz6 m x.Kind,y,by rw[Yg];exact hy,?_⟩;unfold stC lfC rtC;by_cases h1:0≤y.Left
 ·rw[if_neg (by omega),if_pos h1];have hk:=hL h1;by_cases h2:0≤y.Right
  ·have hk2:=hR h2;rw[if_neg (by omega),if_pos h2];exact⟨h1,_,Zft (l:=l) (by omega) h1 (by omega),_,ru y.Left,h2,_,Zft (l:=l) (by omega) h2 (by omega),_,ru y.Right,_,h0,_,ru i,_,Zs0 _ (Zmq hm x.Kind) _ _ _,rfl⟩
  ·rw[if_pos (by omega),if_neg h2];exact⟨h1,_,Zft (l:=l) (by omega) h1 (by omega),_,ru y.Left,_,h0,_,ru i,_,Zs0 _ (Zmq hm x.Kind) _ _ _,rfl⟩
 ·have h2:¬0≤y.Right:=fun h=>h1 (hRL h)
  rw[if_pos (by omega),if_neg h1,if_neg h2];exact⟨_,h0,_,ru i,_,Zs0 _ (Zmq hm x.Kind) _ _ _,rfl⟩
omit R hm ha in
theorem Ztr{i:Nat}(hi:i<l.length):(l.take i).map (fun s:Za=>(s.Rows.length:Int))++[((l.getD i ⟨[],[]⟩).Rows.length:Int)]=(l.take (i+1)).map fun s:Za=>(s.Rows.length:Int):=by
 rw[Ybn hi,Ybk,Ybo,Yh hi];rfl
theorem Zbsg:∀i,i≤p.Steps.length→∀(c st:Int) (seen:List Zl),seen≠[]→seen.length≤i→Zht m p false 0 0 l info ((l.take i).map fun s:Za=>(s.Rows.length:Int)) false c st seen bud i=some (runR true (l.getD (p.Steps.length-1) ⟨[],[]⟩) (runF m l bud (p.Steps.drop i) (info.drop i) i c st seen)):=by
 have hv:=R.P.val;have hl:=R.len;refine down _ ?_ ?_
 ·intro c st seen h0 hs;obtain⟨e1,e2⟩:=R.last;have hA:=Zbdr e2;refine Zba4 ?_;rw[if_neg (by omega),Ztq,hl,show w ((p.Steps.length:Int)-1)=((p.Steps.length-1:Nat):Int) by rw[wA (by omega) (by omega)];omega];refine⟨by omega,_,e1,?_⟩;unfold ansF at hA;by_cases e:(l.getD (p.Steps.length-1) ⟨[],[]⟩).Rows=[]
  ·rw[if_pos e]at hA;refine .inr (.inl ⟨_,hA,?_⟩);simp[runR,e,h0,-List.getD_eq_getElem?_getD]
  ·rw[if_neg e]at hA;refine .inr (.inr ⟨_,_,hA,?_⟩);simp[runR,e,h0,-List.getD_eq_getElem?_getD]
 ·intro i hi ih c st seen h0 hs;obtain⟨x,y,hx,hy,hxi,k15,kr,krl,hL,hR⟩:=R.at_ hi;have hnl:((l.take i).map fun s:Za=>(s.Rows.length:Int)).length≤14:=by simp;omega
  have ru:∀k:Int,Zcj ((l.getD k.toNat ⟨[],[]⟩).Rows.length:Int)=some (I (ruS l k),[]):=fun k=>Z01 _ (by have:=R.n4096 k;omega)
  refine Zba4 ?_;rw[if_pos (by omega),Ztp R hi hx hy,wS hi (by omega)];refine⟨by omega,_,Zfs (by omega),by omega,?_⟩;rw[Yg];refine⟨_,x_l28 R hm hi hx hy hL hR krl,?_⟩;by_cases hc:w (bud-c)<stC m l x y i
  ·rw[if_pos hc,if_pos hc];refine⟨y,hy,?_⟩;by_cases h3:3≤x.Kind
   ·have h5:0≤y.Right:=kr.2 h3;have h6:=krl h5;rw[if_pos h5,if_pos h3];refine⟨x,hx,h6,_,Zft (l:=l) (by omega) h6 (by have:=hL h6;omega),_,ru y.Left,_,Zft (l:=l) (by omega) h5 (by have:=hR h5;omega),_,ru y.Right,_,Zbdu hm ha (by simp[inR];omega) (R.ru _) (R.ru _),by omega,?_⟩;simp[runR,obs1]
   ·rw[if_neg (fun h=>h3 (kr.1 h)),if_neg h3];simp[runR,h0]
  ·rw[if_neg hc,if_neg hc];refine⟨y,hy,?_⟩;rw[Ztr (by omega)];by_cases h3:3≤x.Kind
   ·rw[if_pos (kr.2 h3),if_pos h3];have hg:=Zft (l:=l) (i:=i) (k:=(i:Int)) (by omega) (by omega) (by omega);rw[Yg,Ztr (by omega)]at hg;refine⟨_,hg,_,Z00 _ (by have:=R.n4096 i;rw[Yg]at this;omega),by omega,?_⟩;exact ih _ _ (seen++[obs2 l y i]) (by simp) (by simp;omega)
   ·rw[if_neg (fun h=>h3 (kr.1 h)),if_neg h3];exact ih _ _ seen h0 (by omega)
theorem Zbsh:∀i,i≤p.Steps.length→∀(c st:Int),Zjx m p false 0 0 l info ((l.take i).map fun s:Za=>(s.Rows.length:Int)) false c st bud i=some (runR true (l.getD (p.Steps.length-1) ⟨[],[]⟩) (runF m l bud (p.Steps.drop i) (info.drop i) i c st [])):=by
 have hv:=R.P.val;have hl:=R.len;refine down _ ?_ ?_
 ·intro c st;obtain⟨e1,e2⟩:=R.last;have hA:=Zbdr e2;refine Zba3 ?_;rw[if_neg (by omega),Ztq,hl,show w ((p.Steps.length:Int)-1)=((p.Steps.length-1:Nat):Int) by rw[wA (by omega) (by omega)];omega];refine⟨by omega,_,e1,?_⟩;unfold ansF at hA;by_cases e:(l.getD (p.Steps.length-1) ⟨[],[]⟩).Rows=[]
  ·rw[if_pos e]at hA;refine .inr (.inl ⟨_,hA,?_⟩);simp[runR,e,-List.getD_eq_getElem?_getD]
  ·rw[if_neg e]at hA;refine .inr (.inr ⟨_,_,hA,?_⟩);simp[runR,e,-List.getD_eq_getElem?_getD]
 ·intro i hi ih c st;obtain⟨x,y,hx,hy,hxi,k15,kr,krl,hL,hR⟩:=R.at_ hi;have hnl:((l.take i).map fun s:Za=>(s.Rows.length:Int)).length≤14:=by simp;omega
  have ru:∀k:Int,Zcj ((l.getD k.toNat ⟨[],[]⟩).Rows.length:Int)=some (I (ruS l k),[]):=fun k=>Z01 _ (by have:=R.n4096 k;omega)
  refine Zba3 ?_;rw[if_pos (by omega),Ztp R hi hx hy,wS hi (by omega)];refine⟨by omega,_,Zfs (by omega),by omega,?_⟩;rw[Yg];refine⟨_,x_l28 R hm hi hx hy hL hR krl,?_⟩;by_cases hc:w (bud-c)<stC m l x y i
  ·rw[if_pos hc,if_pos hc];refine⟨y,hy,?_⟩;by_cases h3:3≤x.Kind
   ·have h5:0≤y.Right:=kr.2 h3;have h6:=krl h5;rw[if_pos h5,if_pos h3];refine⟨x,hx,h6,_,Zft (l:=l) (by omega) h6 (by have:=hL h6;omega),_,ru y.Left,_,Zft (l:=l) (by omega) h5 (by have:=hR h5;omega),_,ru y.Right,_,Zbdu hm ha (by simp[inR];omega) (R.ru _) (R.ru _),?_⟩;simp[runR,obs1]
   ·rw[if_neg (fun h=>h3 (kr.1 h)),if_neg h3];simp[runR]
  ·rw[if_neg hc,if_neg hc];refine⟨y,hy,?_⟩;rw[Ztr (by omega)];by_cases h3:3≤x.Kind
   ·rw[if_pos (kr.2 h3),if_pos h3];have hg:=Zft (l:=l) (i:=i) (k:=(i:Int)) (by omega) (by omega) (by omega);rw[Yg,Ztr (by omega)]at hg;refine⟨_,hg,_,Z00 _ (by have:=R.n4096 i;rw[Yg]at this;omega),?_⟩;exact Zbsg R hm ha bud (i+1) hi _ _ [obs2 l y i] (by simp) (by simp)
   ·rw[if_neg (fun h=>h3 (kr.1 h)),if_neg h3];exact ih _ _
end
open Classical in
noncomputable def rwbF(m:Zj)(d:Zk)(q:Zd)(p:Plan)(bud:Int):Option (Za×(Bool×Int×Int×List Zl)) :=
 match Zcf q.Zn q.Atoms p.Steps with
 |none=>none
 |some info=>if qFor d q=true∧Zeq m∧inR bud 0 1000000000000=true then some ((strm d q p.Steps info).getD (p.Steps.length-1) ⟨[],[]⟩,runF m (strm d q p.Steps info) bud p.Steps info 0 0 0 [])else none
def noRun:AV×List Blk:=(.tup [.agg [Bo false,I 0,I 0,.t .nil,.t .nil,.t .nil],Bo false],[])
def rwbR(nl:Bool):Option (Za×(Bool×Int×Int×List Zl))→AV×List Blk
 |none=>noRun
 |some (s,r)=>runR nl s r
theorem Zbsi{m:Zj}(hm:LeM m){d:Zk}(hd:LeD d){q:Zd}(hq:LeQ q)(p:Plan)(bud:Int):Zi8 m d q p bud=some (rwbR false (rwbF m d q p bud)):=by
 unfold rwbF
 cases e:Zcf q.Zn q.Atoms p.Steps with
 |none=>exact Zzr (.inl ⟨Zbdi hd hq (.inl e),rfl⟩)
 |some info =>
  dsimp only;have P:PI q p info:=⟨e⟩;by_cases h:qFor d q=true
  ·obtain⟨fr,hx⟩:=Zbr4 hd hq h P;have hg:=Zbdh h P;have R:RunI q p info (strm d q p.Steps info):=⟨P,hg.1,hg.2⟩;refine Zzr (.inr ⟨_,_,_,hx,_,Zbqa m hm,?_⟩);by_cases ha:Zeq m
   ·rw[if_pos (by simpa using ha)];refine⟨_,Zc6 _ _ _,?_⟩;rcases tf (inR bud 0 1000000000000)with hb|hb
    ·rw[hb,if_neg (by decide),if_neg (by simp)];rfl
    ·rw[hb,if_pos rfl,if_pos ⟨h,ha,rfl⟩];have:=Zbsf R hm ha fr bud 0 (Ya _) 0 0;simpa[rwbR]using this
   ·rw[if_neg (by simpa using ha),if_neg (fun hh=>ha hh.2.1)];rfl
  ·rw[if_neg (fun hh=>h hh.1)];exact Zzr (.inl ⟨Zbdi hd hq (.inr (by simpa using h)),rfl⟩)
theorem Zbsj{m:Zj}(hm:LeM m){d:Zk}(hd:LeD d){q:Zd}(hq:LeQ q)(p:Plan)(bud:Int):Zgd m d q p bud=some (rwbR true (rwbF m d q p bud)):=by
 unfold rwbF
 cases e:Zcf q.Zn q.Atoms p.Steps with
 |none =>
  obtain⟨info,hx⟩:=Zbdj hd hq (p:=p) (.inl e);refine Zzz ⟨_,_,_,hx,?_⟩
  rw[if_neg (by decide)];rfl
 |some info =>
  dsimp only;have P:PI q p info:=⟨e⟩;by_cases h:qFor d q=true
  ·have hx:=Zbr5 hd hq h P;have hg:=Zbdh h P;have R:RunI q p info (strm d q p.Steps info):=⟨P,hg.1,hg.2⟩;refine Zzz ⟨_,_,_,hx,?_⟩;rw[if_pos rfl];refine⟨_,Zbbc m hm,?_⟩;by_cases ha:Zeq m
   ·rw[if_pos (by simpa using ha)];refine⟨_,Zdj _ _ _,?_⟩;rcases tf (inR bud 0 1000000000000)with hb|hb
    ·rw[hb,if_neg (by decide),if_neg (by simp)];rfl
    ·rw[hb,if_pos rfl,if_pos ⟨h,ha,rfl⟩];have:=Zbsh R hm ha bud 0 (Ya _) 0 0;simpa[rwbR]using this
   ·rw[if_neg (by simpa using ha),if_neg (fun hh=>ha hh.2.1)];rfl
  ·obtain⟨info',hx⟩:=Zbdj hd hq (p:=p) (.inr (by simpa using h));rw[if_neg (fun hh=>h hh.1)];refine Zzz ⟨_,_,_,hx,?_⟩;rw[if_neg (by decide)];rfl
def dco:Option (Za×(Bool×Int×Int×List Zl))→Bool×Int×Bool
 |none=>(false,0,false)
 |some (s,f,c,st,o)=>(f,c,true)
theorem rw4_impl(x:Option (Za×(Bool×Int×Int×List Zl))) :
  (∃st,rwbR false x=(.tup [.agg [Bo (dco x).1,I (dco x).2.1,I st,.t .nil,.t .nil,.t .nil],Bo (dco x).2.2],[])) ∨
  (∃(st:Int) (o:List Zl),rwbR false x=(.tup [.agg [Bo (dco x).1,I (dco x).2.1,I st,.own 0,.t .nil,.t .nil],Bo true],[.arr 211 3 true (o.map Zl.c)])∧(dco x).2.2=true) ∨
  (∃(st:Int) (v:List Int) (r:List (List Int)),rwbR false x=(.tup [.agg [Bo (dco x).1,I (dco x).2.1,I st,.t .nil,.own 0,.own 1],Bo true],[.arr 3 1 true (v.map ic),.arr 30 1 true (r.map isc)])∧(dco x).2.2=true) ∨
  (∃(st:Int) (o:List Zl) (v:List Int) (r:List (List Int)),rwbR false x=(.tup [.agg [Bo (dco x).1,I (dco x).2.1,I st,.own 0,.own 1,.own 2],Bo true],[.arr 211 3 true (o.map Zl.c),.arr 3 1 true (v.map ic),.arr 30 1 true (r.map isc)])∧(dco x).2.2=true):=by
 match x with
 |none=>exact .inl ⟨_,rfl⟩
 |some (s,false,c,st,o) =>
  by_cases e:o=[]
  ·exact .inl ⟨st,by simp[rwbR,runR,dco,e]⟩
  ·exact .inr (.inl ⟨st,o,by simp[rwbR,runR,dco,e],rfl⟩)
 |some (s,true,c,st,o) =>
  by_cases e:o=[]
  ·exact .inr (.inr (.inl ⟨st,s.Vars,ansR s.Rows,by simp[rwbR,runR,dco,e],rfl⟩))
  ·exact .inr (.inr (.inr ⟨st,o,s.Vars,ansR s.Rows,by simp[rwbR,runR,dco,e],rfl⟩))
theorem rw4_spec(x:Option (Za×(Bool×Int×Int×List Zl))) :
  (∃st,rwbR true x=(.tup [.agg [Bo (dco x).1,I (dco x).2.1,I st,.t .nil,.t .nil,.t .nil],Bo (dco x).2.2],[])) ∨
  (∃(st:Int) (o:List Zl),rwbR true x=(.tup [.agg [Bo (dco x).1,I (dco x).2.1,I st,.own 0,.t .nil,.t .nil],Bo true],[.arr 211 3 true (o.map Zl.c)])∧(dco x).2.2=true) ∨
  (∃(st:Int) (v:List Int),rwbR true x=(.tup [.agg [Bo (dco x).1,I (dco x).2.1,I st,.t .nil,.own 0,.t .nil],Bo true],[.arr 3 1 true (v.map ic)])∧(dco x).2.2=true) ∨
  (∃(st:Int) (v:List Int) (r:List (List Int)),rwbR true x=(.tup [.agg [Bo (dco x).1,I (dco x).2.1,I st,.t .nil,.own 0,.own 1],Bo true],[.arr 3 1 true (v.map ic),.arr 30 1 true (r.map isc)])∧(dco x).2.2=true) ∨
  (∃(st:Int) (o:List Zl) (v:List Int),rwbR true x=(.tup [.agg [Bo (dco x).1,I (dco x).2.1,I st,.own 0,.own 1,.t .nil],Bo true],[.arr 211 3 true (o.map Zl.c),.arr 3 1 true (v.map ic)])∧(dco x).2.2=true) ∨
  (∃(st:Int) (o:List Zl) (v:List Int) (r:List (List Int)),rwbR true x=(.tup [.agg [Bo (dco x).1,I (dco x).2.1,I st,.own 0,.own 1,.own 2],Bo true],[.arr 211 3 true (o.map Zl.c),.arr 3 1 true (v.map ic),.arr 30 1 true (r.map isc)])∧(dco x).2.2=true):=by
 match x with
 |none=>exact .inl ⟨_,rfl⟩
 |some (s,false,c,st,o) =>
  by_cases e:o=[]
  ·exact .inl ⟨st,by simp[rwbR,runR,dco,e]⟩
  ·exact .inr (.inl ⟨st,o,by simp[rwbR,runR,dco,e],rfl⟩)
 |some (s,true,c,st,o) =>
  by_cases k:s.Rows=[]
  ·by_cases e:o=[]
   ·exact .inr (.inr (.inl ⟨st,s.Vars,by simp[rwbR,runR,dco,e,k],rfl⟩))
   ·exact .inr (.inr (.inr (.inr (.inl ⟨st,o,s.Vars,by simp[rwbR,runR,dco,e,k],rfl⟩))))
  ·by_cases e:o=[]
   ·exact .inr (.inr (.inr (.inl ⟨st,s.Vars,ansR s.Rows,by simp[rwbR,runR,dco,e,k],rfl⟩)))
   ·exact .inr (.inr (.inr (.inr (.inr ⟨st,o,s.Vars,ansR s.Rows,by simp[rwbR,runR,dco,e,k],rfl⟩))))
theorem three{f g:Bool}{c:Int}{D:Bool}{K:Int}{A B:Prop}(h:if(f,c,g)=(D,K,true)then A else B):if g=true then(if c=K then(if f=D then A else B)else B)else B:=by
 by_cases h1:g=true<;>by_cases h2:c=K<;>by_cases h3:f=D<;>simp_all
theorem two{f g:Bool}{c:Int}{D:Bool}{K:Int}{A B:Prop}(hg:g=true)(h:if(f,c,g)=(D,K,true)then A else B):if c=K then(if f=D then A else B)else B:=by
 subst hg;by_cases h2:c=K<;>by_cases h3:f=D<;>simp_all
noncomputable def fwF(m:Zj)(d:Zk)(q:Zd)(b:Zbb):List Zu→Nat→Int
 |[],_=>-1
 |x::xs,i=>if inR x.Plan 0 (b.Plans.length-1)=true then
   (match b.Plans[x.Plan.toNat]? with
    |some p=>if dco (rwbF m d q p x.Budget)=(x.Done,x.Cost,true)then fwF m d q b xs (i+1)else(i:Int)
    |none=>(i:Int))
  else(i:Int)
section
variable{m:Zj}(hm:LeM m){d:Zk}(hd:LeD d){q:Zd}(hq:LeQ q)(b:Zbb)(hb:b.Plans.length≤4294967296)
include hm hd hq hb
theorem Zbsk(l:List Zu)(hl:l.length≤4294967296):∀i,i≤l.length→Zf9 m d q b l l.length i=some (I (fwF m d q b (l.drop i) i),[]):=by
 refine down _ ?_ ?_
 ·refine Z9m ?_;rw[if_neg (by omega),Yu];rfl
 ·intro i hi ih;obtain⟨x,hx⟩:∃x,l[i]?=some x:=⟨_,Yh hi⟩;have hx':l[i]=x:=by rw[Yh hi]at hx;exact Yb5 hx
  refine Z9m ?_;rw[if_pos (by omega),wS hi (by omega),Yf hi,hx',fwF];refine⟨by omega,x,by rw[Yg];exact hx,_,Zc6 _ _ _,?_⟩;rw[show w ((b.Plans.length:Int)-1)=(b.Plans.length:Int)-1 from Zt (by omega) (by omega)];rcases tf (inR x.Plan 0 ((b.Plans.length:Int)-1))with f|f
  ·rw[f,if_neg (by decide),if_neg (by decide)]
  rw[f,if_pos rfl,if_pos rfl];have f':=f;simp only[inR,Bool.and_eq_true,decide_eq_true_eq]at f';obtain⟨p,hp⟩:∃p,b.Plans[x.Plan.toNat]?=some p:=⟨_,List.getElem?_eq_getElem (by omega)⟩;rw[hp];refine⟨f'.1,p,rfl,?_⟩;dsimp only;have hR:=Zbsi hm hd hq p x.Budget;have fin:if dco (rwbF m d q p x.Budget)=(x.Done,x.Cost,true)then Zf9 m d q b l l.length ((i+1:Nat):Int)=some (I (if dco (rwbF m d q p x.Budget)=(x.Done,x.Cost,true)then fwF m d q b (l.drop (i+1)) (i+1)else(i:Int)),[])else(some (I (i:Int),[]):Option (AV×List Blk))=some (I (if dco (rwbF m d q p x.Budget)=(x.Done,x.Cost,true)then fwF m d q b (l.drop (i+1)) (i+1)else(i:Int)),[]):=by
   by_cases c:dco (rwbF m d q p x.Budget)=(x.Done,x.Cost,true)
   ·rw[if_pos c,if_pos c];exact ih
   ·rw[if_neg c,if_neg c]
  rcases rw4_impl (rwbF m d q p x.Budget)with⟨st,e⟩|⟨st,o,e,eg⟩|⟨st,v,r,e,eg⟩|⟨st,o,v,r,e,eg⟩
  ·rw[e]at hR;exact .inl ⟨_,_,_,_,hR,three fin⟩
  ·rw[e]at hR;exact .inr (.inl ⟨_,_,_,_,hR,two eg fin⟩)
  ·rw[e]at hR;exact .inr (.inr (.inl ⟨_,_,_,_,_,hR,two eg fin⟩))
  ·rw[e]at hR;exact .inr (.inr (.inr ⟨_,_,_,_,_,_,hR,two eg fin⟩))
theorem Zbsl(l:List Zu)(hl:l.length≤4294967296):∀i,i≤l.length→Ze6 m d q b l i=some (I (fwF m d q b (l.drop i) i),[]):=by
 refine down _ ?_ ?_
 ·refine Zba2 ?_;rw[if_neg (by omega),Yu];rfl
 ·intro i hi ih;obtain⟨x,hx⟩:∃x,l[i]?=some x:=⟨_,Yh hi⟩;have hx':l[i]=x:=by rw[Yh hi]at hx;exact Yb5 hx
  refine Zba2 ?_;rw[if_pos (by omega),wS hi (by omega),Yf hi,hx',fwF];refine⟨by omega,x,by rw[Yg];exact hx,_,Zdj _ _ _,?_⟩;rw[show w ((b.Plans.length:Int)-1)=(b.Plans.length:Int)-1 from Zt (by omega) (by omega)];rcases tf (inR x.Plan 0 ((b.Plans.length:Int)-1))with f|f
  ·rw[f,if_neg (by decide),if_neg (by decide)]
  rw[f,if_pos rfl,if_pos rfl];have f':=f;simp only[inR,Bool.and_eq_true,decide_eq_true_eq]at f';obtain⟨p,hp⟩:∃p,b.Plans[x.Plan.toNat]?=some p:=⟨_,List.getElem?_eq_getElem (by omega)⟩;rw[hp];refine⟨f'.1,p,rfl,?_⟩;dsimp only;have hR:=Zbsj hm hd hq p x.Budget;have fin:if dco (rwbF m d q p x.Budget)=(x.Done,x.Cost,true)then Ze6 m d q b l ((i+1:Nat):Int)=some (I (if dco (rwbF m d q p x.Budget)=(x.Done,x.Cost,true)then fwF m d q b (l.drop (i+1)) (i+1)else(i:Int)),[])else(some (I (i:Int),[]):Option (AV×List Blk))=some (I (if dco (rwbF m d q p x.Budget)=(x.Done,x.Cost,true)then fwF m d q b (l.drop (i+1)) (i+1)else(i:Int)),[]):=by
   by_cases c:dco (rwbF m d q p x.Budget)=(x.Done,x.Cost,true)
   ·rw[if_pos c,if_pos c];exact ih
   ·rw[if_neg c,if_neg c]
  rcases rw4_spec (rwbF m d q p x.Budget)with⟨st,e⟩|⟨st,o,e,eg⟩|⟨st,v,e,eg⟩|⟨st,v,r,e,eg⟩|⟨st,o,v,e,eg⟩|⟨st,o,v,r,e,eg⟩
  ·rw[e]at hR;exact .inl ⟨_,_,_,_,hR,three fin⟩
  ·rw[e]at hR;exact .inr (.inl ⟨_,_,_,_,hR,two eg fin⟩)
  ·rw[e]at hR;exact .inr (.inr (.inl ⟨_,_,_,_,hR,two eg fin⟩))
  ·rw[e]at hR;exact .inr (.inr (.inr (.inl ⟨_,_,_,_,_,hR,two eg fin⟩)))
  ·rw[e]at hR;exact .inr (.inr (.inr (.inr (.inl ⟨_,_,_,_,_,hR,two eg fin⟩))))
  ·rw[e]at hR;exact .inr (.inr (.inr (.inr (.inr ⟨_,_,_,_,_,_,hR,two eg fin⟩))))
theorem Zbsm(l:List Zu)(hl:l.length≤4294967296):Zr1 m d q b l=some (I (fwF m d q b l 0),[]) :=
 Zbn4 (Zbsk hm hd hq b hb l hl 0 (Ya _))
theorem Zbsn(l:List Zu)(hl:l.length≤4294967296):Zss m d q b l=some (I (fwF m d q b l 0),[]) :=
 Zbpp (Zbsl hm hd hq b hb l hl 0 (Ya _))
end
def Zj4:MFun:=⟨5,99,[.tmp 10],.r [.bx 5 0,.bx 6 1,.bx 7 2,.bx 8 3,.o 10 (.mov (.q false))] [4,5,6,7,8] (.r [.mk' 11 1048576] [4,5,6,7,8,11] (.r [.ln 19 30 5,.m 20 11,.cl 21 11 [19,20],.m 11 21] [4,5,6,7,8,11] (.wc [.m 22 11,.bk 23 .lss 22 0] [4,5,6,7,8,11,23] 23 (.r [.o 10 (.mov (.q true))] [10] .ret) (.r [.ln 24 1 6,.m 25 11,.cl 26 28 [24,25],.m 11 26] [4,5,6,7,8,11] (.wc [.m 27 11,.bk 28 .lss 27 0] [4,5,6,7,8,11,28] 28 (.r [.o 10 (.mov (.q true))] [10] .ret) (.r [.ln 29 2 7,.m 30 11,.cl 31 12 [29,30],.m 11 31] [4,5,6,7,8,11] (.wc [.m 32 11,.bk 33 .lss 32 0] [4,5,6,7,8,11,33] 33 (.r [.o 10 (.mov (.q true))] [10] .ret) (.r [.ln 34 8 8,.m 35 11,.cl 36 13 [34,35],.m 11 36] [4,5,6,7,8,11] (.wc [.m 37 11,.bk 38 .lss 37 0] [4,5,6,7,8,11,38] 38 (.r [.o 10 (.mov (.q true))] [10] .ret) (.r [.m 39 4,.m 40 11,.cl 41 39 [39,40],.m 11 41] [4,5,6,7,8,11] (.wc [.m 42 11,.bk 43 .lss 42 0] [4,5,6,7,8,43] 43 (.r [.o 10 (.mov (.q true))] [10] .ret) (.seq (.drw [.ln 44 30 5,.xl 45 15 [44],.ln 46 1 6,.xl 47 30 [46],.ln 48 2 7,.xl 49 16 [48],.ln 50 8 8,.xl 51 17 [50],.m 52 4,.xl 53 41 [52],.cl 54 40 [45,47,49,51,53],.m 12 54] [[],[0],[],[2,1],[],[4,3],[],[6,5],[],[8,7],[1,3,5,7,9,9],[10,10,0,1,2,3,4,5,6,7,8,9,10]] [4,5,6,7,8,12]) (.r [.ln 55 30 5,.xl 56 15 [55],.o 13 (.alloc [.t .z,.t .z,.t .z,.t .z,.t .z,.t .nil,.t .z,.t .z,.t .z,.t .z,.t .z,.t .nil,.t .z,.t .z,.t .z,.t .z,.t .z,.t .nil,.t .z,.t .z,.t .z,.t .z,.t .z,.t .nil,.t .z,.t .z,.t .z,.t .z,.t .z,.t .nil]),.st 30 13 56] [4,5,6,7,8,12,13] (.r [.ln 57 1 6,.xl 58 30 [57],.o 14 (.alloc [.t .nil]),.st 1 14 58] [4,5,6,7,8,12,13,14] (.r [.ln 59 2 7,.xl 60 16 [59],.o 15 (.alloc [.t .z,.t .nil]),.st 2 15 60] [4,5,6,7,8,12,13,14,15] (.r [.ln 61 8 8,.xl 62 17 [61],.o 16 (.alloc [.t .z,.t .z,.t .z,.t .nil,.t .nil,.t .nil,.t .nil,.t .nil]),.st 8 16 62] [4,5,6,7,8,12,13,14,15,16] (.r [.m 63 4,.xl 64 41 [63],.m 17 64] [4,5,6,7,8,12,13,14,15,16,17] (.r [.ln 65 30 13,.ln 66 1 14,.ln 67 2 15,.ln 68 8 16,.m 69 17,.cl 70 42 [65,66,67,68,69],.m 18 70] [4,5,6,7,8,12,13,14,15,16,17,18] (.wc [.m 71 18,.m 72 12,.b 73 .neq 71 72] [4,5,6,7,8,13,14,15,16,17,73] 73 (.r [.o 10 (.mov (.q false))] [10] .ret) (.seq (.seq (.drw [.ln 74 30 13,.ln 75 30 5,.xl 76 15 [75],.cl 77 20 [74,76],.o 78 (.un .not (.s 77))] [[],[],[1],[0,2,2],[3]] [4,6,7,8,14,15,16,17,78]) (.cond (.s 78) (.r [.o 10 (.mov (.q false))] [10] .ret) .skip)) (.seq (.seq (.drw [.ln 79 1 14,.ln 80 1 6,.xl 81 30 [80],.cl 82 32 [79,81],.o 83 (.un .not (.s 82))] [[],[],[1],[0,2,2],[3]] [4,7,8,15,16,17,83]) (.cond (.s 83) (.r [.o 10 (.mov (.q false))] [10] .ret) .skip)) (.seq (.seq (.drw [.ln 84 2 15,.ln 85 2 7,.xl 86 16 [85],.cl 87 21 [84,86],.o 88 (.un .not (.s 87))] [[],[],[1],[0,2,2],[3]] [4,8,16,17,88]) (.cond (.s 88) (.r [.o 10 (.mov (.q false))] [10] .ret) .skip)) (.seq (.seq (.drw [.ln 89 8 16,.ln 90 8 8,.xl 91 17 [90],.cl 92 22 [89,91],.o 93 (.un .not (.s 92))] [[],[],[1],[0,2,2],[3]] [4,17,93]) (.cond (.s 93) (.r [.o 10 (.mov (.q false))] [10] .ret) .skip)) (.wc [.m 94 17,.m 95 4,.xl 96 41 [95],.cl 97 43 [94,96],.o 98 (.un .not (.s 97))] [98] 98 (.r [.o 10 (.mov (.q false))] [10] .ret) (.r [.o 10 (.mov (.q true))] [10] .ret)))))))))))))))))))))))))⟩
theorem Zbso:tbl 6=some Zj4:=Zc Tryz.func6 (by kernel_rfl) (by kernel_rfl)
def Zbdw:MFun:=⟨2,36,[.tmp 4],.r [.bx 2 0,.mk' 4 0] [1,2] (.r [.fa 5 0 2,.ln 6 6 5,.m 7 1,.cl 8 74 [6,7],.m 1 8] [1,2] (.wc [.m 9 1,.bk 10 .lss 9 0] [1,2,10] 10 (.r [.mk' 4 (-1)] [4] .ret) (.r [.fa 11 6 2,.ln 12 6 11,.m 13 1,.cl 14 74 [12,13],.m 1 14] [1,2] (.wc [.m 15 1,.bk 16 .lss 15 0] [1,2,16] 16 (.r [.mk' 4 (-1)] [4] .ret) (.r [.fa 17 12 2,.ln 18 6 17,.m 19 1,.cl 20 74 [18,19],.m 1 20] [1,2] (.wc [.m 21 1,.bk 22 .lss 21 0] [1,2,22] 22 (.r [.mk' 4 (-1)] [4] .ret) (.r [.fa 23 18 2,.ln 24 6 23,.m 25 1,.cl 26 74 [24,25],.m 1 26] [1,2] (.wc [.m 27 1,.bk 28 .lss 27 0] [1,2,28] 28 (.r [.mk' 4 (-1)] [4] .ret) (.r [.fa 29 24 2,.ln 30 6 29,.m 31 1,.cl 32 74 [30,31],.m 1 32] [1] (.wc [.m 33 1,.bk 34 .lss 33 0] [1,34] 34 (.r [.mk' 4 (-1)] [4] .ret) (.r [.m 35 1,.m 4 35] [4] .ret)))))))))))⟩
theorem Zbsp:tbl 11=some Zbdw:=Zc Tryz.func11 (by kernel_rfl) (by kernel_rfl)
def Zbdx:MFun:=⟨2,12,[.tmp 4],.r [.bx 2 0,.mk' 4 0] [1,2] (.r [.fa 5 1 2,.l 6 5,.m 7 1,.cl 8 75 [6,7],.m 1 8] [1] (.wc [.m 9 1,.bk 10 .lss 9 0] [1,10] 10 (.r [.mk' 4 (-1)] [4] .ret) (.r [.m 11 1,.m 4 11] [4] .ret)))⟩
theorem Zbsq:tbl 12=some Zbdx:=Zc Tryz.func12 (by kernel_rfl) (by kernel_rfl)
def Zbdy:MFun:=⟨2,30,[.tmp 4],.r [.bx 2 0,.mk' 4 0] [1,2] (.r [.fa 5 3 2,.ln 6 2 5,.m 7 1,.cl 8 62 [6,7],.m 1 8] [1,2] (.wc [.m 9 1,.bk 10 .lss 9 0] [1,2,10] 10 (.r [.mk' 4 (-1)] [4] .ret) (.r [.fa 11 5 2,.l 12 11,.m 13 1,.cl 14 76 [12,13],.m 1 14] [1,2] (.wc [.m 15 1,.bk 16 .lss 15 0] [1,2,16] 16 (.r [.mk' 4 (-1)] [4] .ret) (.r [.fa 17 6 2,.l 18 17,.m 19 1,.cl 20 77 [18,19],.m 1 20] [1,2] (.wc [.m 21 1,.bk 22 .lss 21 0] [1,2,22] 22 (.r [.mk' 4 (-1)] [4] .ret) (.r [.fa 23 7 2,.l 24 23,.m 25 1,.cl 26 78 [24,25],.m 1 26] [1] (.wc [.m 27 1,.bk 28 .lss 27 0] [1,28] 28 (.r [.mk' 4 (-1)] [4] .ret) (.r [.m 29 1,.m 4 29] [4] .ret)))))))))⟩
theorem Zbsr:tbl 13=some Zbdy:=Zc Tryz.func13 (by kernel_rfl) (by kernel_rfl)
def Zbdz:MFun:=⟨1,25,[.cell 2 (some 30)],.r [.bx 1 0,.o 2 (.alloc [.t .z,.t .z,.t .z,.t .z,.t .z,.t .nil,.t .z,.t .z,.t .z,.t .z,.t .z,.t .nil,.t .z,.t .z,.t .z,.t .z,.t .z,.t .nil,.t .z,.t .z,.t .z,.t .z,.t .z,.t .nil,.t .z,.t .z,.t .z,.t .z,.t .z,.t .nil])] [1,2] (.r [.o 3 (.alloc [.t .z,.t .z,.t .z,.t .z,.t .z,.t .nil,.t .z,.t .z,.t .z,.t .z,.t .z,.t .nil,.t .z,.t .z,.t .z,.t .z,.t .z,.t .nil,.t .z,.t .z,.t .z,.t .z,.t .z,.t .nil,.t .z,.t .z,.t .z,.t .z,.t .z,.t .nil])] [1,2,3] (.r [.fa 4 0 1,.ln 5 6 4,.cl 6 89 [5],.fa 7 0 3,.st 6 7 6] [1,2,3] (.r [.fa 8 6 1,.ln 9 6 8,.cl 10 89 [9],.fa 11 6 3,.st 6 11 10] [1,2,3] (.r [.fa 12 12 1,.ln 13 6 12,.cl 14 89 [13],.fa 15 12 3,.st 6 15 14] [1,2,3] (.r [.fa 16 18 1,.ln 17 6 16,.cl 18 89 [17],.fa 19 18 3,.st 6 19 18] [1,2,3] (.r [.fa 20 24 1,.ln 21 6 20,.cl 22 89 [21],.fa 23 24 3,.st 6 23 22] [2,3] (.r [.ln 24 30 3,.st 30 2 24] [2] .ret)))))))⟩
theorem Zbss:tbl 15=some Zbdz:=Zc Tryz.func15 (by kernel_rfl) (by kernel_rfl)
def Zbd0:MFun:=⟨1,12,[.cell 2 (some 2)],.r [.bx 1 0,.o 2 (.alloc [.t .z,.t .nil])] [1,2] (.r [.o 3 (.alloc [.t .z,.t .nil])] [1,2,3] (.r [.fa 4 0 1,.l 5 4,.fa 6 0 3,.st 1 6 5] [1,2,3] (.r [.fa 7 1 1,.l 8 7,.cl 9 90 [8],.fa 10 1 3,.st 1 10 9] [2,3] (.r [.ln 11 2 3,.st 2 2 11] [2] .ret))))⟩
theorem Zbst:tbl 16=some Zbd0:=Zc Tryz.func16 (by kernel_rfl) (by kernel_rfl)
def Zbd1:MFun:=⟨1,30,[.cell 2 (some 8)],.r [.bx 1 0,.o 2 (.alloc [.t .z,.t .z,.t .z,.t .nil,.t .nil,.t .nil,.t .nil,.t .nil])] [1,2] (.r [.o 3 (.alloc [.t .z,.t .z,.t .z,.t .nil,.t .nil,.t .nil,.t .nil,.t .nil])] [1,2,3] (.r [.fa 4 0 1,.l 5 4,.fa 6 0 3,.st 1 6 5] [1,2,3] (.r [.fa 7 1 1,.l 8 7,.fa 9 1 3,.st 1 9 8] [1,2,3] (.r [.fa 10 2 1,.l 11 10,.fa 12 2 3,.st 1 12 11] [1,2,3] (.r [.fa 13 3 1,.ln 14 2 13,.cl 15 64 [14],.fa 16 3 3,.st 2 16 15] [1,2,3] (.r [.fa 17 5 1,.l 18 17,.cl 19 91 [18],.fa 20 5 3,.st 1 20 19] [1,2,3] (.r [.fa 21 6 1,.l 22 21,.cl 23 92 [22],.fa 24 6 3,.st 1 24 23] [1,2,3] (.r [.fa 25 7 1,.l 26 25,.cl 27 93 [26],.fa 28 7 3,.st 1 28 27] [2,3] (.r [.ln 29 8 3,.st 8 2 29] [2] .ret)))))))))⟩
theorem Zbsu:tbl 17=some Zbd1:=Zc Tryz.func17 (by kernel_rfl) (by kernel_rfl)
def Zts:MCode :=.we [.m 11 5,.m 12 0,.ll 13 12,.b 14 .lss 11 13] [0,1,5,14] 14 0 (.seq (.block 1 (.seq (.drw [.m 17 0,.m 18 5,.ia 19 1 17 18,.l 20 19,.m 21 1,.m 22 5,.ia 23 1 21 22,.l 24 23,.b 25 .neq 20 24] [[],[],[0,1],[2],[],[],[4,5],[6],[3,7]] [0,1,5,25]) (.cond (.s 25) (.r [.o 4 (.mov (.q false))] [4] .ret) .skip))) (.reg [.m 15 5,.bk 16 .add 15 1,.m 5 16] [0,1,5]))
def Z04:MFun:=⟨2,26,[.tmp 4],.r [.o 4 (.mov (.q false))] [0,1] (.wc [.m 6 0,.ll 7 6,.m 8 1,.ll 9 8,.b 10 .neq 7 9] [0,1,10] 10 (.r [.o 4 (.mov (.q false))] [4] .ret) (.seq (.r [.mk' 5 0] [0,1,5] (.block 0 (.loop [0,1,5] Zts))) (.r [.o 4 (.mov (.q true))] [4] .ret)))⟩
theorem Zbsv:tbl 19=some Z04:=Zc Tryz.func19 (by kernel_rfl) (by kernel_rfl)
def Zbd2:MFun:=⟨2,35,[.tmp 4],.r [.bx 2 0,.bx 3 1,.o 4 (.mov (.q false))] [2,3] (.wc [.fa 5 0 2,.ln 6 6 5,.fa 7 0 3,.ln 8 6 7,.cl 9 99 [6,8],.o 10 (.un .not (.s 9))] [2,3,10] 10 (.r [.o 4 (.mov (.q false))] [4] .ret) (.wc [.fa 11 6 2,.ln 12 6 11,.fa 13 6 3,.ln 14 6 13,.cl 15 99 [12,14],.o 16 (.un .not (.s 15))] [2,3,16] 16 (.r [.o 4 (.mov (.q false))] [4] .ret) (.wc [.fa 17 12 2,.ln 18 6 17,.fa 19 12 3,.ln 20 6 19,.cl 21 99 [18,20],.o 22 (.un .not (.s 21))] [2,3,22] 22 (.r [.o 4 (.mov (.q false))] [4] .ret) (.wc [.fa 23 18 2,.ln 24 6 23,.fa 25 18 3,.ln 26 6 25,.cl 27 99 [24,26],.o 28 (.un .not (.s 27))] [2,3,28] 28 (.r [.o 4 (.mov (.q false))] [4] .ret) (.wc [.fa 29 24 2,.ln 30 6 29,.fa 31 24 3,.ln 32 6 31,.cl 33 99 [30,32],.o 34 (.un .not (.s 33))] [34] 34 (.r [.o 4 (.mov (.q false))] [4] .ret) (.r [.o 4 (.mov (.q true))] [4] .ret))))))⟩
theorem Zbsw:tbl 20=some Zbd2:=Zc Tryz.func20 (by kernel_rfl) (by kernel_rfl)
def Zbd3:MFun:=⟨2,16,[.tmp 4],.r [.bx 2 0,.bx 3 1,.o 4 (.mov (.q false))] [2,3] (.wc [.fa 5 0 2,.l 6 5,.fa 7 0 3,.l 8 7,.b 9 .neq 6 8] [2,3,9] 9 (.r [.o 4 (.mov (.q false))] [4] .ret) (.wc [.fa 10 1 2,.l 11 10,.fa 12 1 3,.l 13 12,.cl 14 100 [11,13],.o 15 (.un .not (.s 14))] [15] 15 (.r [.o 4 (.mov (.q false))] [4] .ret) (.r [.o 4 (.mov (.q true))] [4] .ret)))⟩
theorem Zbsx:tbl 21=some Zbd3:=Zc Tryz.func21 (by kernel_rfl) (by kernel_rfl)
def Zbd4:MFun:=⟨2,44,[.tmp 4],.r [.bx 2 0,.bx 3 1,.o 4 (.mov (.q false))] [2,3] (.wc [.fa 5 0 2,.l 6 5,.fa 7 0 3,.l 8 7,.b 9 .neq 6 8] [2,3,9] 9 (.r [.o 4 (.mov (.q false))] [4] .ret) (.wc [.fa 10 1 2,.l 11 10,.fa 12 1 3,.l 13 12,.b 14 .neq 11 13] [2,3,14] 14 (.r [.o 4 (.mov (.q false))] [4] .ret) (.wc [.fa 15 2 2,.l 16 15,.fa 17 2 3,.l 18 17,.b 19 .neq 16 18] [2,3,19] 19 (.r [.o 4 (.mov (.q false))] [4] .ret) (.wc [.fa 20 3 2,.ln 21 2 20,.fa 22 3 3,.ln 23 2 22,.cl 24 66 [21,23],.o 25 (.un .not (.s 24))] [2,3,25] 25 (.r [.o 4 (.mov (.q false))] [4] .ret) (.wc [.fa 26 5 2,.l 27 26,.fa 28 5 3,.l 29 28,.cl 30 19 [27,29],.o 31 (.un .not (.s 30))] [2,3,31] 31 (.r [.o 4 (.mov (.q false))] [4] .ret) (.wc [.fa 32 6 2,.l 33 32,.fa 34 6 3,.l 35 34,.cl 36 101 [33,35],.o 37 (.un .not (.s 36))] [2,3,37] 37 (.r [.o 4 (.mov (.q false))] [4] .ret) (.wc [.fa 38 7 2,.l 39 38,.fa 40 7 3,.l 41 40,.cl 42 102 [39,41],.o 43 (.un .not (.s 42))] [43] 43 (.r [.o 4 (.mov (.q false))] [4] .ret) (.r [.o 4 (.mov (.q true))] [4] .ret))))))))⟩
theorem Zbsy:tbl 22=some Zbd4:=Zc Tryz.func22 (by kernel_rfl) (by kernel_rfl)
def Zbd5:MFun:=⟨2,12,[.tmp 4],.r [.bx 2 0,.mk' 4 0] [1,2] (.r [.fa 5 0 2,.l 6 5,.m 7 1,.cl 8 107 [6,7],.m 1 8] [1] (.wc [.m 9 1,.bk 10 .lss 9 0] [1,10] 10 (.r [.mk' 4 (-1)] [4] .ret) (.r [.m 11 1,.m 4 11] [4] .ret)))⟩
theorem Zbsz:tbl 28=some Zbd5:=Zc Tryz.func28 (by kernel_rfl) (by kernel_rfl)
def Zbd6:MFun:=⟨1,9,[.cell 2 (some 1)],.r [.bx 1 0,.o 2 (.alloc [.t .nil])] [1,2] (.r [.o 3 (.alloc [.t .nil])] [1,2,3] (.r [.fa 4 0 1,.l 5 4,.cl 6 111 [5],.fa 7 0 3,.st 1 7 6] [2,3] (.r [.ln 8 1 3,.st 1 2 8] [2] .ret)))⟩
theorem Zbs0:tbl 30=some Zbd6:=Zc Tryz.func30 (by kernel_rfl) (by kernel_rfl)
def Zbd7:MFun:=⟨2,11,[.tmp 4],.r [.bx 2 0,.bx 3 1,.o 4 (.mov (.q false))] [2,3] (.wc [.fa 5 0 2,.l 6 5,.fa 7 0 3,.l 8 7,.cl 9 114 [6,8],.o 10 (.un .not (.s 9))] [10] 10 (.r [.o 4 (.mov (.q false))] [4] .ret) (.r [.o 4 (.mov (.q true))] [4] .ret))⟩
theorem Zbs1:tbl 32=some Zbd7:=Zc Tryz.func32 (by kernel_rfl) (by kernel_rfl)
def Zbd8:MFun:=⟨2,11,[.tmp 4],.r [.bx 2 0,.bx 3 1,.o 4 (.mov (.q false))] [2,3] (.wc [.fa 5 0 2,.l 6 5,.fa 7 0 3,.l 8 7,.cl 9 118 [6,8],.o 10 (.un .not (.s 9))] [10] 10 (.r [.o 4 (.mov (.q false))] [4] .ret) (.r [.o 4 (.mov (.q true))] [4] .ret))⟩
theorem Zbs2:tbl 35=some Zbd8:=Zc Tryz.func35 (by kernel_rfl) (by kernel_rfl)
def Zbd9:MFun:=⟨2,12,[.tmp 4],.r [.mk' 4 0] [0,1] (.r [.m 5 1,.m 6 0,.ll 7 6,.b 8 .sub 5 7,.m 1 8] [1] (.wc [.m 9 1,.bk 10 .lss 9 0] [1,10] 10 (.r [.mk' 4 (-1)] [4] .ret) (.r [.m 11 1,.m 4 11] [4] .ret)))⟩
theorem Zbs3:tbl 39=some Zbd9:=Zc Tryz.func39 (by kernel_rfl) (by kernel_rfl)
def Ztt:MCode :=.we [.m 8 4,.m 9 0,.ll 10 9,.b 11 .lss 8 10] [0,3,4,11] 11 0 (.seq (.block 1 (.reg [.m 14 3,.m 15 4,.m 16 0,.m 17 4,.ia 18 5 16 17,.ln 19 5 18,.cl 20 123 [19],.ia 21 5 14 15,.st 5 21 20] [0,3,4])) (.reg [.m 12 4,.bk 13 .add 12 1,.m 4 13] [0,3,4]))
def Zbea:MFun:=⟨1,23,[.tmp 2],.r [.o 2 (.mov (.c (.t .nil)))] [0] (.r [.m 5 0,.ll 6 5,.o 7 (.mkslice 179 5 40 [.z,.z,.z,.z,.bool false] (.s 6) (.s 6)),.m 3 7] [0,3] (.seq (.r [.mk' 4 0] [0,3,4] (.block 0 (.loop [0,3,4] Ztt))) (.r [.m 22 3,.m 2 22] [2] .ret)))⟩
theorem Zbs4:tbl 41=some Zbea:=Zc Tryz.func41 (by kernel_rfl) (by kernel_rfl)
def Ztu:MCode :=.we [.m 11 5,.m 12 0,.ll 13 12,.b 14 .lss 11 13] [0,1,5,14] 14 0 (.seq (.block 1 (.seq (.drw [.m 17 0,.m 18 5,.ia 19 5 17 18,.ln 20 5 19,.m 21 1,.m 22 5,.ia 23 5 21 22,.ln 24 5 23,.cl 25 126 [20,24],.o 26 (.un .not (.s 25))] [[],[],[0,1],[2],[],[],[4,5],[6],[3,7],[8]] [0,1,5,26]) (.cond (.s 26) (.r [.o 4 (.mov (.q false))] [4] .ret) .skip))) (.reg [.m 15 5,.bk 16 .add 15 1,.m 5 16] [0,1,5]))
def Z05:MFun:=⟨2,27,[.tmp 4],.r [.o 4 (.mov (.q false))] [0,1] (.wc [.m 6 0,.ll 7 6,.m 8 1,.ll 9 8,.b 10 .neq 7 9] [0,1,10] 10 (.r [.o 4 (.mov (.q false))] [4] .ret) (.seq (.r [.mk' 5 0] [0,1,5] (.block 0 (.loop [0,1,5] Ztu))) (.r [.o 4 (.mov (.q true))] [4] .ret)))⟩
theorem Zbs5:tbl 43=some Z05:=Zc Tryz.func43 (by kernel_rfl) (by kernel_rfl)
def Zbeb:MFun:=⟨2,12,[.tmp 4],.r [.bx 2 0,.mk' 4 0] [1,2] (.r [.fa 5 0 2,.l 6 5,.m 7 1,.cl 8 168 [6,7],.m 1 8] [1] (.wc [.m 9 1,.bk 10 .lss 9 0] [1,10] 10 (.r [.mk' 4 (-1)] [4] .ret) (.r [.m 11 1,.m 4 11] [4] .ret)))⟩
theorem Zbs6:tbl 55=some Zbeb:=Zc Tryz.func55 (by kernel_rfl) (by kernel_rfl)
def Zbec:MFun:=⟨1,9,[.cell 2 (some 1)],.r [.bx 1 0,.o 2 (.alloc [.t .nil])] [1,2] (.r [.o 3 (.alloc [.t .nil])] [1,2,3] (.r [.fa 4 0 1,.l 5 4,.cl 6 170 [5],.fa 7 0 3,.st 1 7 6] [2,3] (.r [.ln 8 1 3,.st 1 2 8] [2] .ret)))⟩
theorem Zbs7:tbl 57=some Zbec:=Zc Tryz.func57 (by kernel_rfl) (by kernel_rfl)
def Zbed:MFun:=⟨2,18,[.tmp 4],.r [.bx 2 0,.mk' 4 0] [1,2] (.r [.fa 5 0 2,.l 6 5,.m 7 1,.cl 8 76 [6,7],.m 1 8] [1,2] (.wc [.m 9 1,.bk 10 .lss 9 0] [1,2,10] 10 (.r [.mk' 4 (-1)] [4] .ret) (.r [.fa 11 1 2,.l 12 11,.m 13 1,.cl 14 76 [12,13],.m 1 14] [1] (.wc [.m 15 1,.bk 16 .lss 15 0] [1,16] 16 (.r [.mk' 4 (-1)] [4] .ret) (.r [.m 17 1,.m 4 17] [4] .ret)))))⟩
theorem Zbs8:tbl 62=some Zbed:=Zc Tryz.func62 (by kernel_rfl) (by kernel_rfl)
def Zbee:MFun:=⟨1,13,[.cell 2 (some 2)],.r [.bx 1 0,.o 2 (.alloc [.t .nil,.t .nil])] [1,2] (.r [.o 3 (.alloc [.t .nil,.t .nil])] [1,2,3] (.r [.fa 4 0 1,.l 5 4,.cl 6 91 [5],.fa 7 0 3,.st 1 7 6] [1,2,3] (.r [.fa 8 1 1,.l 9 8,.cl 10 91 [9],.fa 11 1 3,.st 1 11 10] [2,3] (.r [.ln 12 2 3,.st 2 2 12] [2] .ret))))⟩
theorem Zbs9:tbl 64=some Zbee:=Zc Tryz.func64 (by kernel_rfl) (by kernel_rfl)
def Zbef:MFun:=⟨2,17,[.tmp 4],.r [.bx 2 0,.bx 3 1,.o 4 (.mov (.q false))] [2,3] (.wc [.fa 5 0 2,.l 6 5,.fa 7 0 3,.l 8 7,.cl 9 19 [6,8],.o 10 (.un .not (.s 9))] [2,3,10] 10 (.r [.o 4 (.mov (.q false))] [4] .ret) (.wc [.fa 11 1 2,.l 12 11,.fa 13 1 3,.l 14 13,.cl 15 19 [12,14],.o 16 (.un .not (.s 15))] [16] 16 (.r [.o 4 (.mov (.q false))] [4] .ret) (.r [.o 4 (.mov (.q true))] [4] .ret)))⟩
theorem Zbta:tbl 66=some Zbef:=Zc Tryz.func66 (by kernel_rfl) (by kernel_rfl)
def Zbeg:MFun:=⟨2,12,[.tmp 4],.r [.bx 2 0,.mk' 4 0] [1,2] (.r [.fa 5 5 2,.l 6 5,.m 7 1,.cl 8 192 [6,7],.m 1 8] [1] (.wc [.m 9 1,.bk 10 .lss 9 0] [1,10] 10 (.r [.mk' 4 (-1)] [4] .ret) (.r [.m 11 1,.m 4 11] [4] .ret)))⟩
theorem Zbtb:tbl 74=some Zbeg:=Zc Tryz.func74 (by kernel_rfl) (by kernel_rfl)
def Zj5:MCode :=.we [.m 12 5,.m 13 0,.ll 14 13,.b 15 .lss 12 14] [0,1,5,15] 15 0 (.seq (.block 1 (.r [.m 18 0,.m 19 5,.ia 20 2 18 19,.ln 21 2 20,.m 22 1,.cl 23 193 [21,22],.m 1 23] [0,1,5] (.r [.m 24 1,.bk 25 .lss 24 0] [0,1,5,25] (.cond (.s 25) (.r [.mk' 4 (-1)] [4] .ret) .skip)))) (.reg [.m 16 5,.bk 17 .add 16 1,.m 5 17] [0,1,5]))
def Zbeh:MFun:=⟨2,27,[.tmp 4],.r [.mk' 4 0] [0,1] (.r [.m 6 1,.m 7 0,.ll 8 7,.b 9 .sub 6 8,.m 1 9] [0,1] (.wc [.m 10 1,.bk 11 .lss 10 0] [0,1,11] 11 (.r [.mk' 4 (-1)] [4] .ret) (.seq (.r [.mk' 5 0] [0,1,5] (.block 0 (.loop [0,1,5] Zj5))) (.r [.m 26 1,.m 4 26] [4] .ret))))⟩
theorem Zbtc:tbl 75=some Zbeh:=Zc Tryz.func75 (by kernel_rfl) (by kernel_rfl)
def Zbei:MFun:=⟨2,12,[.tmp 4],.r [.mk' 4 0] [0,1] (.r [.m 5 1,.m 6 0,.ll 7 6,.b 8 .sub 5 7,.m 1 8] [1] (.wc [.m 9 1,.bk 10 .lss 9 0] [1,10] 10 (.r [.mk' 4 (-1)] [4] .ret) (.r [.m 11 1,.m 4 11] [4] .ret)))⟩
theorem Zbtd:tbl 76=some Zbei:=Zc Tryz.func76 (by kernel_rfl) (by kernel_rfl)
def Zj6:MCode :=.we [.m 12 5,.m 13 0,.ll 14 13,.b 15 .lss 12 14] [0,1,5,15] 15 0 (.seq (.block 1 (.r [.m 18 0,.m 19 5,.ia 20 1 18 19,.ln 21 1 20,.m 22 1,.cl 23 55 [21,22],.m 1 23] [0,1,5] (.r [.m 24 1,.bk 25 .lss 24 0] [0,1,5,25] (.cond (.s 25) (.r [.mk' 4 (-1)] [4] .ret) .skip)))) (.reg [.m 16 5,.bk 17 .add 16 1,.m 5 17] [0,1,5]))
def Zbej:MFun:=⟨2,27,[.tmp 4],.r [.mk' 4 0] [0,1] (.r [.m 6 1,.m 7 0,.ll 8 7,.b 9 .sub 6 8,.m 1 9] [0,1] (.wc [.m 10 1,.bk 11 .lss 10 0] [0,1,11] 11 (.r [.mk' 4 (-1)] [4] .ret) (.seq (.r [.mk' 5 0] [0,1,5] (.block 0 (.loop [0,1,5] Zj6))) (.r [.m 26 1,.m 4 26] [4] .ret))))⟩
theorem Zbte:tbl 77=some Zbej:=Zc Tryz.func77 (by kernel_rfl) (by kernel_rfl)
def Zj7:MCode :=.we [.m 12 5,.m 13 0,.ll 14 13,.b 15 .lss 12 14] [0,1,5,15] 15 0 (.seq (.block 1 (.r [.m 18 0,.m 19 5,.ia 20 1 18 19,.l 21 20,.m 22 1,.cl 23 76 [21,22],.m 1 23] [0,1,5] (.r [.m 24 1,.bk 25 .lss 24 0] [0,1,5,25] (.cond (.s 25) (.r [.mk' 4 (-1)] [4] .ret) .skip)))) (.reg [.m 16 5,.bk 17 .add 16 1,.m 5 17] [0,1,5]))
def Zbek:MFun:=⟨2,27,[.tmp 4],.r [.mk' 4 0] [0,1] (.r [.m 6 1,.m 7 0,.ll 8 7,.b 9 .sub 6 8,.m 1 9] [0,1] (.wc [.m 10 1,.bk 11 .lss 10 0] [0,1,11] 11 (.r [.mk' 4 (-1)] [4] .ret) (.seq (.r [.mk' 5 0] [0,1,5] (.block 0 (.loop [0,1,5] Zj7))) (.r [.m 26 1,.m 4 26] [4] .ret))))⟩
theorem Zbtf:tbl 78=some Zbek:=Zc Tryz.func78 (by kernel_rfl) (by kernel_rfl)
def Zbel:MFun:=⟨1,24,[.cell 2 (some 6)],.r [.bx 1 0,.o 2 (.alloc [.t .z,.t .z,.t .z,.t .z,.t .z,.t .nil])] [1,2] (.r [.o 3 (.alloc [.t .z,.t .z,.t .z,.t .z,.t .z,.t .nil])] [1,2,3] (.r [.fa 4 0 1,.l 5 4,.fa 6 0 3,.st 1 6 5] [1,2,3] (.r [.fa 7 1 1,.l 8 7,.fa 9 1 3,.st 1 9 8] [1,2,3] (.r [.fa 10 2 1,.l 11 10,.fa 12 2 3,.st 1 12 11] [1,2,3] (.r [.fa 13 3 1,.l 14 13,.fa 15 3 3,.st 1 15 14] [1,2,3] (.r [.fa 16 4 1,.l 17 16,.fa 18 4 3,.st 1 18 17] [1,2,3] (.r [.fa 19 5 1,.l 20 19,.cl 21 209 [20],.fa 22 5 3,.st 1 22 21] [2,3] (.r [.ln 23 6 3,.st 6 2 23] [2] .ret))))))))⟩
theorem Zbtg:tbl 89=some Zbel:=Zc Tryz.func89 (by kernel_rfl) (by kernel_rfl)
def Ztv:MCode :=.we [.m 8 4,.m 9 0,.ll 10 9,.b 11 .lss 8 10] [0,3,4,11] 11 0 (.seq (.block 1 (.reg [.m 14 3,.m 15 4,.m 16 0,.m 17 4,.ia 18 2 16 17,.ln 19 2 18,.cl 20 210 [19],.ia 21 2 14 15,.st 2 21 20] [0,3,4])) (.reg [.m 12 4,.bk 13 .add 12 1,.m 4 13] [0,3,4]))
def Zbem:MFun:=⟨1,23,[.tmp 2],.r [.o 2 (.mov (.c (.t .nil)))] [0] (.r [.m 5 0,.ll 6 5,.o 7 (.mkslice 264 2 40 [.str ⟨#[]⟩,.lst 1 []] (.s 6) (.s 6)),.m 3 7] [0,3] (.seq (.r [.mk' 4 0] [0,3,4] (.block 0 (.loop [0,3,4] Ztv))) (.r [.m 22 3,.m 2 22] [2] .ret)))⟩
theorem Zbth:tbl 90=some Zbem:=Zc Tryz.func90 (by kernel_rfl) (by kernel_rfl)
def Ztw:MCode :=.we [.m 8 4,.m 9 0,.ll 10 9,.b 11 .lss 8 10] [0,3,4,11] 11 0 (.seq (.block 1 (.reg [.m 14 3,.m 15 4,.m 16 0,.m 17 4,.ia 18 1 16 17,.l 19 18,.ia 20 1 14 15,.st 1 20 19] [0,3,4])) (.reg [.m 12 4,.bk 13 .add 12 1,.m 4 13] [0,3,4]))
def Zben:MFun:=⟨1,22,[.tmp 2],.r [.o 2 (.mov (.c (.t .nil)))] [0] (.r [.m 5 0,.ll 6 5,.o 7 (.mkslice 3 1 8 [.z] (.s 6) (.s 6)),.m 3 7] [0,3] (.seq (.r [.mk' 4 0] [0,3,4] (.block 0 (.loop [0,3,4] Ztw))) (.r [.m 21 3,.m 2 21] [2] .ret)))⟩
theorem Zbti:tbl 91=some Zben:=Zc Tryz.func91 (by kernel_rfl) (by kernel_rfl)
def Ztx:MCode :=.we [.m 8 4,.m 9 0,.ll 10 9,.b 11 .lss 8 10] [0,3,4,11] 11 0 (.seq (.block 1 (.reg [.m 14 3,.m 15 4,.m 16 0,.m 17 4,.ia 18 1 16 17,.ln 19 1 18,.cl 20 57 [19],.ia 21 1 14 15,.st 1 21 20] [0,3,4])) (.reg [.m 12 4,.bk 13 .add 12 1,.m 4 13] [0,3,4]))
def Zbeo:MFun:=⟨1,23,[.tmp 2],.r [.o 2 (.mov (.c (.t .nil)))] [0] (.r [.m 5 0,.ll 6 5,.o 7 (.mkslice 79 1 24 [.lst 3 []] (.s 6) (.s 6)),.m 3 7] [0,3] (.seq (.r [.mk' 4 0] [0,3,4] (.block 0 (.loop [0,3,4] Ztx))) (.r [.m 22 3,.m 2 22] [2] .ret)))⟩
theorem Zbtj:tbl 92=some Zbeo:=Zc Tryz.func92 (by kernel_rfl) (by kernel_rfl)
def Zty:MCode :=.we [.m 8 4,.m 9 0,.ll 10 9,.b 11 .lss 8 10] [0,3,4,11] 11 0 (.seq (.block 1 (.reg [.m 14 3,.m 15 4,.m 16 0,.m 17 4,.ia 18 1 16 17,.l 19 18,.cl 20 91 [19],.ia 21 1 14 15,.st 1 21 20] [0,3,4])) (.reg [.m 12 4,.bk 13 .add 12 1,.m 4 13] [0,3,4]))
def Zbep:MFun:=⟨1,23,[.tmp 2],.r [.o 2 (.mov (.c (.t .nil)))] [0] (.r [.m 5 0,.ll 6 5,.o 7 (.mkslice 30 1 24 [.lst 1 []] (.s 6) (.s 6)),.m 3 7] [0,3] (.seq (.r [.mk' 4 0] [0,3,4] (.block 0 (.loop [0,3,4] Zty))) (.r [.m 22 3,.m 2 22] [2] .ret)))⟩
theorem Zbtk:tbl 93=some Zbep:=Zc Tryz.func93 (by kernel_rfl) (by kernel_rfl)
def Zbeq:MFun:=⟨2,36,[.tmp 4],.r [.bx 2 0,.bx 3 1,.o 4 (.mov (.q false))] [2,3] (.wc [.fa 5 0 2,.l 6 5,.fa 7 0 3,.l 8 7,.b 9 .neq 6 8] [2,3,9] 9 (.r [.o 4 (.mov (.q false))] [4] .ret) (.wc [.fa 10 1 2,.l 11 10,.fa 12 1 3,.l 13 12,.b 14 .neq 11 13] [2,3,14] 14 (.r [.o 4 (.mov (.q false))] [4] .ret) (.wc [.fa 15 2 2,.l 16 15,.fa 17 2 3,.l 18 17,.b 19 .neq 16 18] [2,3,19] 19 (.r [.o 4 (.mov (.q false))] [4] .ret) (.wc [.fa 20 3 2,.l 21 20,.fa 22 3 3,.l 23 22,.b 24 .neq 21 23] [2,3,24] 24 (.r [.o 4 (.mov (.q false))] [4] .ret) (.wc [.fa 25 4 2,.l 26 25,.fa 27 4 3,.l 28 27,.b 29 .neq 26 28] [2,3,29] 29 (.r [.o 4 (.mov (.q false))] [4] .ret) (.wc [.fa 30 5 2,.l 31 30,.fa 32 5 3,.l 33 32,.cl 34 219 [31,33],.o 35 (.un .not (.s 34))] [35] 35 (.r [.o 4 (.mov (.q false))] [4] .ret) (.r [.o 4 (.mov (.q true))] [4] .ret)))))))⟩
theorem Zbtl:tbl 99=some Zbeq:=Zc Tryz.func99 (by kernel_rfl) (by kernel_rfl)
def Ztz:MCode :=.we [.m 11 5,.m 12 0,.ll 13 12,.b 14 .lss 11 13] [0,1,5,14] 14 0 (.seq (.block 1 (.seq (.drw [.m 17 0,.m 18 5,.ia 19 2 17 18,.ln 20 2 19,.m 21 1,.m 22 5,.ia 23 2 21 22,.ln 24 2 23,.cl 25 220 [20,24],.o 26 (.un .not (.s 25))] [[],[],[0,1],[2],[],[],[4,5],[6],[3,7],[8]] [0,1,5,26]) (.cond (.s 26) (.r [.o 4 (.mov (.q false))] [4] .ret) .skip))) (.reg [.m 15 5,.bk 16 .add 15 1,.m 5 16] [0,1,5]))
def Z06:MFun:=⟨2,27,[.tmp 4],.r [.o 4 (.mov (.q false))] [0,1] (.wc [.m 6 0,.ll 7 6,.m 8 1,.ll 9 8,.b 10 .neq 7 9] [0,1,10] 10 (.r [.o 4 (.mov (.q false))] [4] .ret) (.seq (.r [.mk' 5 0] [0,1,5] (.block 0 (.loop [0,1,5] Ztz))) (.r [.o 4 (.mov (.q true))] [4] .ret)))⟩
theorem Zbtm:tbl 100=some Z06:=Zc Tryz.func100 (by kernel_rfl) (by kernel_rfl)
def Zt0:MCode :=.we [.m 11 5,.m 12 0,.ll 13 12,.b 14 .lss 11 13] [0,1,5,14] 14 0 (.seq (.block 1 (.seq (.drw [.m 17 0,.m 18 5,.ia 19 1 17 18,.ln 20 1 19,.m 21 1,.m 22 5,.ia 23 1 21 22,.ln 24 1 23,.cl 25 35 [20,24],.o 26 (.un .not (.s 25))] [[],[],[0,1],[2],[],[],[4,5],[6],[3,7],[8]] [0,1,5,26]) (.cond (.s 26) (.r [.o 4 (.mov (.q false))] [4] .ret) .skip))) (.reg [.m 15 5,.bk 16 .add 15 1,.m 5 16] [0,1,5]))
def Z07:MFun:=⟨2,27,[.tmp 4],.r [.o 4 (.mov (.q false))] [0,1] (.wc [.m 6 0,.ll 7 6,.m 8 1,.ll 9 8,.b 10 .neq 7 9] [0,1,10] 10 (.r [.o 4 (.mov (.q false))] [4] .ret) (.seq (.r [.mk' 5 0] [0,1,5] (.block 0 (.loop [0,1,5] Zt0))) (.r [.o 4 (.mov (.q true))] [4] .ret)))⟩
theorem Zbtn:tbl 101=some Z07:=Zc Tryz.func101 (by kernel_rfl) (by kernel_rfl)
def Zt1:MCode :=.we [.m 11 5,.m 12 0,.ll 13 12,.b 14 .lss 11 13] [0,1,5,14] 14 0 (.seq (.block 1 (.seq (.drw [.m 17 0,.m 18 5,.ia 19 1 17 18,.l 20 19,.m 21 1,.m 22 5,.ia 23 1 21 22,.l 24 23,.cl 25 19 [20,24],.o 26 (.un .not (.s 25))] [[],[],[0,1],[2],[],[],[4,5],[6],[3,7],[8]] [0,1,5,26]) (.cond (.s 26) (.r [.o 4 (.mov (.q false))] [4] .ret) .skip))) (.reg [.m 15 5,.bk 16 .add 15 1,.m 5 16] [0,1,5]))
def Z08:MFun:=⟨2,27,[.tmp 4],.r [.o 4 (.mov (.q false))] [0,1] (.wc [.m 6 0,.ll 7 6,.m 8 1,.ll 9 8,.b 10 .neq 7 9] [0,1,10] 10 (.r [.o 4 (.mov (.q false))] [4] .ret) (.seq (.r [.mk' 5 0] [0,1,5] (.block 0 (.loop [0,1,5] Zt1))) (.r [.o 4 (.mov (.q true))] [4] .ret)))⟩
theorem Zbto:tbl 102=some Z08:=Zc Tryz.func102 (by kernel_rfl) (by kernel_rfl)
def Zj8:MCode :=.we [.m 12 5,.m 13 0,.ll 14 13,.b 15 .lss 12 14] [0,1,5,15] 15 0 (.seq (.block 1 (.r [.m 18 0,.m 19 5,.ia 20 3 18 19,.ln 21 3 20,.m 22 1,.cl 23 223 [21,22],.m 1 23] [0,1,5] (.r [.m 24 1,.bk 25 .lss 24 0] [0,1,5,25] (.cond (.s 25) (.r [.mk' 4 (-1)] [4] .ret) .skip)))) (.reg [.m 16 5,.bk 17 .add 16 1,.m 5 17] [0,1,5]))
def Zber:MFun:=⟨2,27,[.tmp 4],.r [.mk' 4 0] [0,1] (.r [.m 6 1,.m 7 0,.ll 8 7,.b 9 .sub 6 8,.m 1 9] [0,1] (.wc [.m 10 1,.bk 11 .lss 10 0] [0,1,11] 11 (.r [.mk' 4 (-1)] [4] .ret) (.seq (.r [.mk' 5 0] [0,1,5] (.block 0 (.loop [0,1,5] Zj8))) (.r [.m 26 1,.m 4 26] [4] .ret))))⟩
theorem Zbtp:tbl 107=some Zber:=Zc Tryz.func107 (by kernel_rfl) (by kernel_rfl)
def Zt2:MCode :=.we [.m 8 4,.m 9 0,.ll 10 9,.b 11 .lss 8 10] [0,3,4,11] 11 0 (.seq (.block 1 (.reg [.m 14 3,.m 15 4,.m 16 0,.m 17 4,.ia 18 3 16 17,.ln 19 3 18,.cl 20 228 [19],.ia 21 3 14 15,.st 3 21 20] [0,3,4])) (.reg [.m 12 4,.bk 13 .add 12 1,.m 4 13] [0,3,4]))
def Zbes:MFun:=⟨1,23,[.tmp 2],.r [.o 2 (.mov (.c (.t .nil)))] [0] (.r [.m 5 0,.ll 6 5,.o 7 (.mkslice 277 3 48 [.str ⟨#[]⟩,.z,.lst 1 []] (.s 6) (.s 6)),.m 3 7] [0,3] (.seq (.r [.mk' 4 0] [0,3,4] (.block 0 (.loop [0,3,4] Zt2))) (.r [.m 22 3,.m 2 22] [2] .ret)))⟩
theorem Zbtq:tbl 111=some Zbes:=Zc Tryz.func111 (by kernel_rfl) (by kernel_rfl)
def Zt3:MCode :=.we [.m 11 5,.m 12 0,.ll 13 12,.b 14 .lss 11 13] [0,1,5,14] 14 0 (.seq (.block 1 (.seq (.drw [.m 17 0,.m 18 5,.ia 19 3 17 18,.ln 20 3 19,.m 21 1,.m 22 5,.ia 23 3 21 22,.ln 24 3 23,.cl 25 233 [20,24],.o 26 (.un .not (.s 25))] [[],[],[0,1],[2],[],[],[4,5],[6],[3,7],[8]] [0,1,5,26]) (.cond (.s 26) (.r [.o 4 (.mov (.q false))] [4] .ret) .skip))) (.reg [.m 15 5,.bk 16 .add 15 1,.m 5 16] [0,1,5]))
def Z09:MFun:=⟨2,27,[.tmp 4],.r [.o 4 (.mov (.q false))] [0,1] (.wc [.m 6 0,.ll 7 6,.m 8 1,.ll 9 8,.b 10 .neq 7 9] [0,1,10] 10 (.r [.o 4 (.mov (.q false))] [4] .ret) (.seq (.r [.mk' 5 0] [0,1,5] (.block 0 (.loop [0,1,5] Zt3))) (.r [.o 4 (.mov (.q true))] [4] .ret)))⟩
theorem Zbtr:tbl 114=some Z09:=Zc Tryz.func114 (by kernel_rfl) (by kernel_rfl)
def Zt4:MCode :=.we [.m 11 5,.m 12 0,.ll 13 12,.b 14 .lss 11 13] [0,1,5,14] 14 0 (.seq (.block 1 (.seq (.drw [.m 17 0,.m 18 5,.ia 19 3 17 18,.ln 20 3 19,.m 21 1,.m 22 5,.ia 23 3 21 22,.ln 24 3 23,.cl 25 238 [20,24],.o 26 (.un .not (.s 25))] [[],[],[0,1],[2],[],[],[4,5],[6],[3,7],[8]] [0,1,5,26]) (.cond (.s 26) (.r [.o 4 (.mov (.q false))] [4] .ret) .skip))) (.reg [.m 15 5,.bk 16 .add 15 1,.m 5 16] [0,1,5]))
def Z1a:MFun:=⟨2,27,[.tmp 4],.r [.o 4 (.mov (.q false))] [0,1] (.wc [.m 6 0,.ll 7 6,.m 8 1,.ll 9 8,.b 10 .neq 7 9] [0,1,10] 10 (.r [.o 4 (.mov (.q false))] [4] .ret) (.seq (.r [.mk' 5 0] [0,1,5] (.block 0 (.loop [0,1,5] Zt4))) (.r [.o 4 (.mov (.q true))] [4] .ret)))⟩
theorem Zbts:tbl 118=some Z1a:=Zc Tryz.func118 (by kernel_rfl) (by kernel_rfl)
def Zbet:MFun:=⟨1,20,[.cell 2 (some 5)],.r [.bx 1 0,.o 2 (.alloc [.t .z,.t .z,.t .z,.t .z,.t (.bool false)])] [1,2] (.r [.o 3 (.alloc [.t .z,.t .z,.t .z,.t .z,.t (.bool false)])] [1,2,3] (.r [.fa 4 0 1,.l 5 4,.fa 6 0 3,.st 1 6 5] [1,2,3] (.r [.fa 7 1 1,.l 8 7,.fa 9 1 3,.st 1 9 8] [1,2,3] (.r [.fa 10 2 1,.l 11 10,.fa 12 2 3,.st 1 12 11] [1,2,3] (.r [.fa 13 3 1,.l 14 13,.fa 15 3 3,.st 1 15 14] [1,2,3] (.r [.fa 16 4 1,.l 17 16,.fa 18 4 3,.st 1 18 17] [2,3] (.r [.ln 19 5 3,.st 5 2 19] [2] .ret)))))))⟩
theorem Zbtt:tbl 123=some Zbet:=Zc Tryz.func123 (by kernel_rfl) (by kernel_rfl)
def Zbeu:MFun:=⟨2,30,[.tmp 4],.r [.bx 2 0,.bx 3 1,.o 4 (.mov (.q false))] [2,3] (.wc [.fa 5 0 2,.l 6 5,.fa 7 0 3,.l 8 7,.b 9 .neq 6 8] [2,3,9] 9 (.r [.o 4 (.mov (.q false))] [4] .ret) (.wc [.fa 10 1 2,.l 11 10,.fa 12 1 3,.l 13 12,.b 14 .neq 11 13] [2,3,14] 14 (.r [.o 4 (.mov (.q false))] [4] .ret) (.wc [.fa 15 2 2,.l 16 15,.fa 17 2 3,.l 18 17,.b 19 .neq 16 18] [2,3,19] 19 (.r [.o 4 (.mov (.q false))] [4] .ret) (.wc [.fa 20 3 2,.l 21 20,.fa 22 3 3,.l 23 22,.b 24 .neq 21 23] [2,3,24] 24 (.r [.o 4 (.mov (.q false))] [4] .ret) (.wc [.fa 25 4 2,.l 26 25,.fa 27 4 3,.l 28 27,.o 29 (.beq true (.s 26) (.s 28))] [29] 29 (.r [.o 4 (.mov (.q false))] [4] .ret) (.r [.o 4 (.mov (.q true))] [4] .ret))))))⟩
theorem Zbtu:tbl 126=some Zbeu:=Zc Tryz.func126 (by kernel_rfl) (by kernel_rfl)
def Zbev:MFun:=⟨2,12,[.tmp 4],.r [.mk' 4 0] [0,1] (.r [.m 5 1,.m 6 0,.ll 7 6,.b 8 .sub 5 7,.m 1 8] [1] (.wc [.m 9 1,.bk 10 .lss 9 0] [1,10] 10 (.r [.mk' 4 (-1)] [4] .ret) (.r [.m 11 1,.m 4 11] [4] .ret)))⟩
theorem Zbtv:tbl 168=some Zbev:=Zc Tryz.func168 (by kernel_rfl) (by kernel_rfl)
def Zt5:MCode :=.we [.m 8 4,.m 9 0,.ll 10 9,.b 11 .lss 8 10] [0,3,4,11] 11 0 (.seq (.block 1 (.reg [.m 14 3,.m 15 4,.m 16 0,.m 17 4,.ia 18 3 16 17,.ln 19 3 18,.cl 20 279 [19],.ia 21 3 14 15,.st 3 21 20] [0,3,4])) (.reg [.m 12 4,.bk 13 .add 12 1,.m 4 13] [0,3,4]))
def Zbew:MFun:=⟨1,23,[.tmp 2],.r [.o 2 (.mov (.c (.t .nil)))] [0] (.r [.m 5 0,.ll 6 5,.o 7 (.mkslice 194 3 24 [.z,.z,.z] (.s 6) (.s 6)),.m 3 7] [0,3] (.seq (.r [.mk' 4 0] [0,3,4] (.block 0 (.loop [0,3,4] Zt5))) (.r [.m 22 3,.m 2 22] [2] .ret)))⟩
theorem Zbtw:tbl 170=some Zbew:=Zc Tryz.func170 (by kernel_rfl) (by kernel_rfl)
def Zbex:MFun:=⟨2,12,[.tmp 4],.r [.mk' 4 0] [0,1] (.r [.m 5 1,.m 6 0,.ll 7 6,.b 8 .sub 5 7,.m 1 8] [1] (.wc [.m 9 1,.bk 10 .lss 9 0] [1,10] 10 (.r [.mk' 4 (-1)] [4] .ret) (.r [.m 11 1,.m 4 11] [4] .ret)))⟩
theorem Zbtx:tbl 192=some Zbex:=Zc Tryz.func192 (by kernel_rfl) (by kernel_rfl)
def Zbey:MFun:=⟨2,19,[.tmp 4],.r [.bx 2 0,.mk' 4 0] [1,2] (.r [.m 5 1,.fa 6 0 2,.l 7 6,.o 8 (.len true (.s 7)),.b 9 .sub 5 8,.m 1 9] [1,2] (.wc [.m 10 1,.bk 11 .lss 10 0] [1,2,11] 11 (.r [.mk' 4 (-1)] [4] .ret) (.r [.fa 12 1 2,.l 13 12,.m 14 1,.cl 15 76 [13,14],.m 1 15] [1] (.wc [.m 16 1,.bk 17 .lss 16 0] [1,17] 17 (.r [.mk' 4 (-1)] [4] .ret) (.r [.m 18 1,.m 4 18] [4] .ret)))))⟩
theorem Zbty:tbl 193=some Zbey:=Zc Tryz.func193 (by kernel_rfl) (by kernel_rfl)
def Zt6:MCode :=.we [.m 8 4,.m 9 0,.ll 10 9,.b 11 .lss 8 10] [0,3,4,11] 11 0 (.seq (.block 1 (.reg [.m 14 3,.m 15 4,.m 16 0,.m 17 4,.ia 18 2 16 17,.ln 19 2 18,.cl 20 294 [19],.ia 21 2 14 15,.st 2 21 20] [0,3,4])) (.reg [.m 12 4,.bk 13 .add 12 1,.m 4 13] [0,3,4]))
def Zbez:MFun:=⟨1,23,[.tmp 2],.r [.o 2 (.mov (.c (.t .nil)))] [0] (.r [.m 5 0,.ll 6 5,.o 7 (.mkslice 307 2 16 [.z,.z] (.s 6) (.s 6)),.m 3 7] [0,3] (.seq (.r [.mk' 4 0] [0,3,4] (.block 0 (.loop [0,3,4] Zt6))) (.r [.m 22 3,.m 2 22] [2] .ret)))⟩
theorem Zbtz:tbl 209=some Zbez:=Zc Tryz.func209 (by kernel_rfl) (by kernel_rfl)
def Zbe0:MFun:=⟨1,12,[.cell 2 (some 2)],.r [.bx 1 0,.o 2 (.alloc [.t (.str ⟨#[]⟩),.t .nil])] [1,2] (.r [.o 3 (.alloc [.t (.str ⟨#[]⟩),.t .nil])] [1,2,3] (.r [.fa 4 0 1,.l 5 4,.fa 6 0 3,.st 1 6 5] [1,2,3] (.r [.fa 7 1 1,.l 8 7,.cl 9 91 [8],.fa 10 1 3,.st 1 10 9] [2,3] (.r [.ln 11 2 3,.st 2 2 11] [2] .ret))))⟩
theorem Zbt0:tbl 210=some Zbe0:=Zc Tryz.func210 (by kernel_rfl) (by kernel_rfl)
def Zt7:MCode :=.we [.m 11 5,.m 12 0,.ll 13 12,.b 14 .lss 11 13] [0,1,5,14] 14 0 (.seq (.block 1 (.seq (.drw [.m 17 0,.m 18 5,.ia 19 2 17 18,.ln 20 2 19,.m 21 1,.m 22 5,.ia 23 2 21 22,.ln 24 2 23,.cl 25 299 [20,24],.o 26 (.un .not (.s 25))] [[],[],[0,1],[2],[],[],[4,5],[6],[3,7],[8]] [0,1,5,26]) (.cond (.s 26) (.r [.o 4 (.mov (.q false))] [4] .ret) .skip))) (.reg [.m 15 5,.bk 16 .add 15 1,.m 5 16] [0,1,5]))
def Z1b:MFun:=⟨2,27,[.tmp 4],.r [.o 4 (.mov (.q false))] [0,1] (.wc [.m 6 0,.ll 7 6,.m 8 1,.ll 9 8,.b 10 .neq 7 9] [0,1,10] 10 (.r [.o 4 (.mov (.q false))] [4] .ret) (.seq (.r [.mk' 5 0] [0,1,5] (.block 0 (.loop [0,1,5] Zt7))) (.r [.o 4 (.mov (.q true))] [4] .ret)))⟩
theorem Zbt1:tbl 219=some Z1b:=Zc Tryz.func219 (by kernel_rfl) (by kernel_rfl)
def Zbe1:MFun:=⟨2,16,[.tmp 4],.r [.bx 2 0,.bx 3 1,.o 4 (.mov (.q false))] [2,3] (.wc [.fa 5 0 2,.l 6 5,.fa 7 0 3,.l 8 7,.b 9 .neq 6 8] [2,3,9] 9 (.r [.o 4 (.mov (.q false))] [4] .ret) (.wc [.fa 10 1 2,.l 11 10,.fa 12 1 3,.l 13 12,.cl 14 19 [11,13],.o 15 (.un .not (.s 14))] [15] 15 (.r [.o 4 (.mov (.q false))] [4] .ret) (.r [.o 4 (.mov (.q true))] [4] .ret)))⟩
theorem Zbt2:tbl 220=some Zbe1:=Zc Tryz.func220 (by kernel_rfl) (by kernel_rfl)
def Zbe2:MFun:=⟨2,19,[.tmp 4],.r [.bx 2 0,.mk' 4 0] [1,2] (.r [.m 5 1,.fa 6 0 2,.l 7 6,.o 8 (.len true (.s 7)),.b 9 .sub 5 8,.m 1 9] [1,2] (.wc [.m 10 1,.bk 11 .lss 10 0] [1,2,11] 11 (.r [.mk' 4 (-1)] [4] .ret) (.r [.fa 12 2 2,.l 13 12,.m 14 1,.cl 15 78 [13,14],.m 1 15] [1] (.wc [.m 16 1,.bk 17 .lss 16 0] [1,17] 17 (.r [.mk' 4 (-1)] [4] .ret) (.r [.m 18 1,.m 4 18] [4] .ret)))))⟩
theorem Zbt3:tbl 223=some Zbe2:=Zc Tryz.func223 (by kernel_rfl) (by kernel_rfl)
def Zbe3:MFun:=⟨1,15,[.cell 2 (some 3)],.r [.bx 1 0,.o 2 (.alloc [.t (.str ⟨#[]⟩),.t .z,.t .nil])] [1,2] (.r [.o 3 (.alloc [.t (.str ⟨#[]⟩),.t .z,.t .nil])] [1,2,3] (.r [.fa 4 0 1,.l 5 4,.fa 6 0 3,.st 1 6 5] [1,2,3] (.r [.fa 7 1 1,.l 8 7,.fa 9 1 3,.st 1 9 8] [1,2,3] (.r [.fa 10 2 1,.l 11 10,.cl 12 93 [11],.fa 13 2 3,.st 1 13 12] [2,3] (.r [.ln 14 3 3,.st 3 2 14] [2] .ret)))))⟩
theorem Zbt4:tbl 228=some Zbe3:=Zc Tryz.func228 (by kernel_rfl) (by kernel_rfl)
def Zbe4:MFun:=⟨2,21,[.tmp 4],.r [.bx 2 0,.bx 3 1,.o 4 (.mov (.q false))] [2,3] (.wc [.fa 5 0 2,.l 6 5,.fa 7 0 3,.l 8 7,.b 9 .neq 6 8] [2,3,9] 9 (.r [.o 4 (.mov (.q false))] [4] .ret) (.wc [.fa 10 1 2,.l 11 10,.fa 12 1 3,.l 13 12,.b 14 .neq 11 13] [2,3,14] 14 (.r [.o 4 (.mov (.q false))] [4] .ret) (.wc [.fa 15 2 2,.l 16 15,.fa 17 2 3,.l 18 17,.cl 19 102 [16,18],.o 20 (.un .not (.s 19))] [20] 20 (.r [.o 4 (.mov (.q false))] [4] .ret) (.r [.o 4 (.mov (.q true))] [4] .ret))))⟩
theorem Zbt5:tbl 233=some Zbe4:=Zc Tryz.func233 (by kernel_rfl) (by kernel_rfl)
def Zbe5:MFun:=⟨2,20,[.tmp 4],.r [.bx 2 0,.bx 3 1,.o 4 (.mov (.q false))] [2,3] (.wc [.fa 5 0 2,.l 6 5,.fa 7 0 3,.l 8 7,.b 9 .neq 6 8] [2,3,9] 9 (.r [.o 4 (.mov (.q false))] [4] .ret) (.wc [.fa 10 1 2,.l 11 10,.fa 12 1 3,.l 13 12,.b 14 .neq 11 13] [2,3,14] 14 (.r [.o 4 (.mov (.q false))] [4] .ret) (.wc [.fa 15 2 2,.l 16 15,.fa 17 2 3,.l 18 17,.b 19 .neq 16 18] [19] 19 (.r [.o 4 (.mov (.q false))] [4] .ret) (.r [.o 4 (.mov (.q true))] [4] .ret))))⟩
theorem Zbt6:tbl 238=some Zbe5:=Zc Tryz.func238 (by kernel_rfl) (by kernel_rfl)
def Zbe6:MFun:=⟨1,14,[.cell 2 (some 3)],.r [.bx 1 0,.o 2 (.alloc [.t .z,.t .z,.t .z])] [1,2] (.r [.o 3 (.alloc [.t .z,.t .z,.t .z])] [1,2,3] (.r [.fa 4 0 1,.l 5 4,.fa 6 0 3,.st 1 6 5] [1,2,3] (.r [.fa 7 1 1,.l 8 7,.fa 9 1 3,.st 1 9 8] [1,2,3] (.r [.fa 10 2 1,.l 11 10,.fa 12 2 3,.st 1 12 11] [2,3] (.r [.ln 13 3 3,.st 3 2 13] [2] .ret)))))⟩
theorem Zbt7:tbl 279=some Zbe6:=Zc Tryz.func279 (by kernel_rfl) (by kernel_rfl)
def Zbe7:MFun:=⟨1,11,[.cell 2 (some 2)],.r [.bx 1 0,.o 2 (.alloc [.t .z,.t .z])] [1,2] (.r [.o 3 (.alloc [.t .z,.t .z])] [1,2,3] (.r [.fa 4 0 1,.l 5 4,.fa 6 0 3,.st 1 6 5] [1,2,3] (.r [.fa 7 1 1,.l 8 7,.fa 9 1 3,.st 1 9 8] [2,3] (.r [.ln 10 2 3,.st 2 2 10] [2] .ret))))⟩
theorem Zbt8:tbl 294=some Zbe7:=Zc Tryz.func294 (by kernel_rfl) (by kernel_rfl)
def Zbe8:MFun:=⟨2,15,[.tmp 4],.r [.bx 2 0,.bx 3 1,.o 4 (.mov (.q false))] [2,3] (.wc [.fa 5 0 2,.l 6 5,.fa 7 0 3,.l 8 7,.b 9 .neq 6 8] [2,3,9] 9 (.r [.o 4 (.mov (.q false))] [4] .ret) (.wc [.fa 10 1 2,.l 11 10,.fa 12 1 3,.l 13 12,.b 14 .neq 11 13] [14] 14 (.r [.o 4 (.mov (.q false))] [4] .ret) (.r [.o 4 (.mov (.q true))] [4] .ret)))⟩
theorem Zbt9:tbl 299=some Zbe8:=Zc Tryz.func299 (by kernel_rfl) (by kernel_rfl)
end Go.Proofs.YtgnfoghkbpkgjaaGreat
