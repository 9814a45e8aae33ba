/-
  Parts of the proofs for this seat: SE SF RX RT SQ SG SH SR LB LC.
-/
import Derived.Test.YtgnfoghkbpkgjaaGreatP11
import Derived.Test.YtgnfoghkbpkgjaaGreatP12
import Derived.Test.YtgnfoghkbpkgjaaGreatP15
set_option linter.unusedSimpArgs false
set_option linter.unusedVariables false
set_option maxRecDepth 100000
set_option maxHeartbeats 4000000
namespace Go.Proofs.YtgnfoghkbpkgjaaGreat
open Go.AM
theorem J2.of{q:Zd}(hq:Zv q.Zi q.Atoms=true){u z:Zb}{a b:Za}(A:GS q u a)(B:GS q z b)(hu:0≤u.Mask∧u.Mask<16)(hz:0≤z.Mask∧z.Mask<16)(h0:andI u.Mask z.Mask=0):J2 a b:=by
 refine⟨A.vs hq,B.vs hq,?_⟩;have h1:=Yb5 A.len B.len;rw[←Nat.pow_add,←pc_or hu hz h0]at h1;exact Ys h1 (Zvw _)
theorem Zgh{out:List Za}{s:Int}(h:s.toNat<out.length):out[s.toNat]?=some (out.getD s.toNat ⟨[],[]⟩):=by rw[Ybq,Yf h];rfl
section
variable{d:Zl}(hd:LeD d){q:Zd}(hq:LeQ q)(h:qFor d q=true){info:List Zb}(hM:∀y∈info,0≤y.Mask∧y.Mask<16)
include hd hq h hM
omit hd hq in
theorem Zbiu{out:List Za}(G:GSs q info out){i:Nat}(hi:out.length=i){x:Ze}{y:Zb}(F:Zgg q.Atoms x (info.take i) y)(k1:x.Kind≠1)(k2:x.Kind≠2) :
  0≤y.Left∧out[y.Left.toNat]?=some (out.getD y.Left.toNat ⟨[],[]⟩)∧0≤y.Right∧out[y.Right.toNat]?=some (out.getD y.Right.toNat ⟨[],[]⟩)∧J2 (out.getD y.Left.toNat ⟨[],[]⟩) (out.getD y.Right.toNat ⟨[],[]⟩)∧(x.Kind=3∨x.Kind=4∨x.Kind=5) ∧
  (x.Kind=4→∃v,x.Order=v∧has (out.getD y.Left.toNat ⟨[],[]⟩).Vars v=true∧has (out.getD y.Right.toNat ⟨[],[]⟩).Vars v=true ∧
   ((out.getD y.Left.toNat ⟨[],[]⟩).Rows.Pairwise fun p q=>kx (cix (out.getD y.Left.toNat ⟨[],[]⟩).Vars v).toNat p≤kx (cix (out.getD y.Left.toNat ⟨[],[]⟩).Vars v).toNat q) ∧
   ((out.getD y.Right.toNat ⟨[],[]⟩).Rows.Pairwise fun p q=>kx (cix (out.getD y.Right.toNat ⟨[],[]⟩).Vars v).toNat p≤kx (cix (out.getD y.Right.toNat ⟨[],[]⟩).Vars v).toNat q)):=by
 have hv:Zv q.Zi q.Atoms=true:=by unfold qFor at h;simp only[Ye]at h;exact h.1
 have hm:∀{s:Nat} {u:Zb},(info.take i)[s]?=some u→0≤u.Mask∧u.Mask<16:=fun hs=>hM _ (Y4 (Yz hs))
 obtain⟨s,u,t,z,o,f1,f2,f3,f4,f5,rfl,f6⟩:=F.join k1 k2;obtain⟨a1,a2,A⟩:=Zn8 G hi f1 f2;obtain⟨b1,b2,B⟩:=Zn8 G hi f3 f4;refine⟨f1,a2,f3,b2,J2.of hv A B (hm f2) (hm f4) f5,by omega,fun k4=>?_⟩;rcases f6 with⟨k,_⟩|⟨k,_⟩|⟨k,g1,g2,g3,g4,_⟩
 ·omega
 ·omega
 ·have h0:0≤x.Order:=by unfold vin at g1;simp only[Ye]at g1;have:=g1.1;simp[inR]at this;omega
  have A2:=A.ord (by rw[g3];exact h0);have B2:=B.ord (by rw[g4];exact h0);rw[g3]at A2;rw[g4]at B2;exact⟨_,rfl,A2.1,B2.1,A2.2,B2.2⟩
omit hd hq hM in
theorem Zbiv{out:List Za}(G:GSs q info out){i:Nat}(hi:out.length=i){x:Ze}{y:Zb}(F:Zgg q.Atoms x (info.take i) y)(k2:x.Kind=2) :
  0≤y.Left∧out[y.Left.toNat]?=some (out.getD y.Left.toNat ⟨[],[]⟩)∧VS (out.getD y.Left.toNat ⟨[],[]⟩)∧has (out.getD y.Left.toNat ⟨[],[]⟩).Vars x.Order=true:=by
 have hv:Zv q.Zi q.Atoms=true:=by unfold qFor at h;simp only[Ye]at h;exact h.1
 obtain⟨s,u,f1,f2,f3,rfl⟩:=F.sort k2;obtain⟨a1,a2,A⟩:=Zn8 G hi f1 f2;exact⟨f1,a2,A.vs hv,(Zbhm hv A f3 s).2⟩
omit hd hq h hM in
theorem Zhb(s:Za):(s=⟨s.Vars,[]⟩∧Zba s=(.tup [.agg [.own 0,.t .nil],Bo true],[.arr 3 1 true (s.Vars.map ic)]))∨Zba s=(.tup [.agg [.own 0,.own 1],Bo true],[.arr 3 1 true (s.Vars.map ic),.arr 30 1 true (s.Rows.map isc)]):=by
 by_cases e:s.Rows=[]
 ·left;refine⟨by cases s;simp only at e;rw[e],?_⟩;unfold Zba;rw[if_pos e]
 ·right;unfold Zba;rw[if_neg e]
theorem l_exec{steps:List Ze}(hl:info.length=steps.length)(h14:steps.length≤14)(hF:∀(j:Nat) (y:Zb) (x:Ze),info[j]?=some y→steps[j]?=some x→Zgg q.Atoms x (info.take j) y):∀i,i≤steps.length→∀(out:List Za) (fr:Bool),out.length=i→GSs q info out →
  ∃fr',Zdp d q info fr out steps steps.length i=some (.tup [.own 0,.own 1,Bo true],[.arr 209 4 true (info.map Zb.c),.arr 199 2 fr' ((Zcx d q (steps.drop i) (info.drop i) out).map Za.c)]):=by
 refine down _ ?_ ?_
 ·intro out fr hi G;refine⟨fr,Zvg ?_⟩;rw[if_neg (by omega),Ym];rfl
 ·intro i hi ih out fr ho G;have hi2:i<info.length:=by omega
  have hx:steps[i]?=some steps[i]:=Yf hi;have hy:info[i]?=some info[i]:=Yf hi2;have F:=hF i _ _ hy hx;have hg:=st_gs h G hM ho F;have G2:=Z4h G ho hy hg;have step:Zcx d q (steps.drop i) (info.drop i) out=Zcx d q (steps.drop (i+1)) (info.drop (i+1)) (out++[stS d q steps[i] info[i] out]):=by
   rw[Yg hi,Yg hi2,Zcx]
  have nx:∀fr,∃fr',Zdp d q info fr (out++[stS d q steps[i] info[i] out]) steps steps.length ((i+1:Nat):Int)=some (.tup [.own 0,.own 1,Bo true],[.arr 209 4 true (info.map Zb.c),.arr 199 2 fr' ((Zcx d q (steps.drop i) (info.drop i) out).map Za.c)]):=by
   intro fr;rw[step];exact ih _ fr (by simp[ho]) G2
  generalize Zcx d q (steps.drop i) (info.drop i) out=fin at nx⊢;generalize hxx:steps[i]=x at *
  generalize hyy:info[i]=y at *
  have hol:out.length+1≤68719476736:=by omega
  unfold stS at nx;by_cases k1:x.Kind=1
  ·rw[if_pos k1]at nx;obtain⟨f1,-⟩:=F.scan k1;have hs:=Zbzs hd hq h f1;obtain⟨fr',hn⟩:=nx fr;refine⟨fr',Zvg ?_⟩;rw[if_pos (by omega),wS hi (by omega)];refine⟨by omega,x,by rw[Yh];exact hx,?_⟩;rw[if_pos k1];rcases Zhb (Ze5 d q x.Atom)with⟨e1,e2⟩|e2
   ·rw[e2]at hs;rw[e1]at hn;exact .inr (.inl ⟨_,hs,hol,hn⟩)
   ·rw[e2]at hs;exact .inr (.inr ⟨_,_,hs,hol,hn⟩)
  ·rw[if_neg k1]at nx;by_cases k2:x.Kind=2
   ·rw[if_pos k2]at nx;obtain⟨l1,l2,l3,l4⟩:=Zbiv h G ho F k2;obtain⟨fs,hs⟩:=Zbzk l3 l4;obtain⟨fr',hn⟩:=nx (fr && fs);refine⟨fr',Zvg ?_⟩;rw[if_pos (by omega),wS hi (by omega)];refine⟨by omega,x,by rw[Yh];exact hx,?_⟩;rw[if_neg k1,if_pos k2];exact⟨y,by rw[Yh];exact hy,l1,_,l2,.inr ⟨_,_,_,hs,hol,hn⟩⟩
   ·rw[if_neg k2]at nx;obtain⟨l1,l2,r1,r2,J,kk,m4⟩:=Zbiu h hM G ho F k1 k2;obtain⟨fr',hn⟩:=nx fr;refine⟨fr',Zvg ?_⟩;rw[if_pos (by omega),wS hi (by omega)];refine⟨by omega,x,by rw[Yh];exact hx,?_⟩;rw[if_neg k1,if_neg k2];by_cases k3:x.Kind=3
    ·rw[if_pos k3]at hn⊢;refine⟨y,by rw[Yh];exact hy,l1,_,l2,r1,_,r2,?_⟩;have hs:=Zbzz J;rcases Zhb (hashS (out.getD y.Left.toNat ⟨[],[]⟩) (out.getD y.Right.toNat ⟨[],[]⟩))with⟨e1,e2⟩|e2
     ·rw[e2]at hs;rw[e1]at hn;exact .inr (.inl ⟨_,hs,hol,hn⟩)
     ·rw[e2]at hs;exact .inr (.inr ⟨_,_,hs,hol,hn⟩)
    ·rw[if_neg k3]at hn⊢;by_cases k4:x.Kind=4
     ·rw[if_pos k4];refine⟨y,by rw[Yh];exact hy,l1,_,l2,r1,_,r2,?_⟩;obtain⟨v,v1,v2,v3,v4,v5⟩:=m4 k4;have hs:=Zbz0 J v2 v3 v4 v5;rw[←v1]at hs;rcases Zhb (Zcw (out.getD y.Left.toNat ⟨[],[]⟩) (out.getD y.Right.toNat ⟨[],[]⟩))with⟨e1,e2⟩|e2
      ·rw[e2]at hs;rw[e1]at hn;exact .inr (.inl ⟨_,hs,hol,hn⟩)
      ·rw[e2]at hs;exact .inr (.inr ⟨_,_,hs,hol,hn⟩)
     ·rw[if_neg k4];refine⟨y,by rw[Yh];exact hy,l1,_,l2,r1,_,r2,?_⟩;have hs:=Zbin J;rcases Zhb (Zcw (out.getD y.Left.toNat ⟨[],[]⟩) (out.getD y.Right.toNat ⟨[],[]⟩))with⟨e1,e2⟩|e2
      ·rw[e2]at hs;rw[e1]at hn;exact .inr (.inl ⟨_,hs,hol,hn⟩)
      ·rw[e2]at hs;exact .inr (.inr ⟨_,_,hs,hol,hn⟩)
theorem l_strm{p:Plan}(hl:info.length=p.Steps.length)(h14:p.Steps.length≤14)(hF:∀(j:Nat) (y:Zb) (x:Ze),info[j]?=some y→p.Steps[j]?=some x→Zgg q.Atoms x (info.take j) y):∀i,i≤p.Steps.length→∀(out:List Za),out.length=i→GSs q info out →
  Zce d q p info out i=some (.tup [.own 0,.own 1,Bo true],[.arr 199 2 true ((Zcx d q (p.Steps.drop i) (info.drop i) out).map Za.c),.arr 209 4 true (info.map Zb.c)]):=by
 refine down _ ?_ ?_
 ·intro out hi G;refine Zbfu ?_;rw[if_neg (by omega),Ym];rfl
 ·intro i hi ih out ho G;have hi2:i<info.length:=by omega
  have hx:p.Steps[i]?=some p.Steps[i]:=Yf hi;have hy:info[i]?=some info[i]:=Yf hi2;have F:=hF i _ _ hy hx;have hg:=st_gs h G hM ho F;have G2:=Z4h G ho hy hg;have step:Zcx d q (p.Steps.drop i) (info.drop i) out=Zcx d q (p.Steps.drop (i+1)) (info.drop (i+1)) (out++[stS d q p.Steps[i] info[i] out]):=by
   rw[Yg hi,Yg hi2,Zcx]
  have hn:Zce d q p info (out++[stS d q p.Steps[i] info[i] out]) ((i+1:Nat):Int)=some (.tup [.own 0,.own 1,Bo true],[.arr 199 2 true ((Zcx d q (p.Steps.drop i) (info.drop i) out).map Za.c),.arr 209 4 true (info.map Zb.c)]):=by
   rw[step];exact ih _ (by simp[ho]) G2
  generalize Zcx d q (p.Steps.drop i) (info.drop i) out=fin at hn⊢;generalize hxx:p.Steps[i]=x at *
  generalize hyy:info[i]=y at *
  have hol:out.length+1≤68719476736:=by omega
  unfold stS at hn;refine Zbfu ?_;rw[if_pos (by omega),wS hi (by omega)];refine⟨by omega,x,by rw[Yh];exact hx,?_⟩;by_cases k1:x.Kind=1
  ·rw[if_pos k1]at hn⊢;obtain⟨f1,-⟩:=F.scan k1;have hs:=Zbzx hd hq h f1;rcases Zhb (Ze5 d q x.Atom)with⟨e1,e2⟩|e2
   ·rw[e2]at hs;rw[e1]at hn;exact .inr (.inl ⟨_,hs,hol,hn⟩)
   ·rw[e2]at hs;exact .inr (.inr ⟨_,_,hs,hol,hn⟩)
  ·rw[if_neg k1]at hn⊢;by_cases k2:x.Kind=2
   ·rw[if_pos k2]at hn⊢;obtain⟨l1,l2,l3,l4⟩:=Zbiv h G ho F k2;have hs:=Zbzo l3 l4;refine⟨y,by rw[Yh];exact hy,l1,_,l2,?_⟩;rcases Zhb (sortS (out.getD y.Left.toNat ⟨[],[]⟩) x.Order)with⟨e1,e2⟩|e2
    ·rw[e2]at hs;rw[e1]at hn;exact .inr (.inl ⟨_,hs,hol,hn⟩)
    ·rw[e2]at hs;exact .inr (.inr ⟨_,_,hs,hol,hn⟩)
   ·rw[if_neg k2]at hn⊢;obtain⟨l1,l2,r1,r2,J,kk,m4⟩:=Zbiu h hM G ho F k1 k2;by_cases k3:x.Kind=3
    ·rw[if_pos k3]at hn⊢;refine⟨y,by rw[Yh];exact hy,l1,_,l2,r1,_,r2,?_⟩;have hs:=Zbz1 J;rcases Zhb (hashS (out.getD y.Left.toNat ⟨[],[]⟩) (out.getD y.Right.toNat ⟨[],[]⟩))with⟨e1,e2⟩|e2
     ·rw[e2]at hs;rw[e1]at hn;exact .inl ⟨_,hs,hol,hn⟩
     ·rw[e2]at hs;exact .inr (.inr ⟨_,_,hs,hol,hn⟩)
    ·rw[if_neg k3]at hn⊢;by_cases k5:x.Kind=5
     ·rw[if_pos k5];refine⟨y,by rw[Yh];exact hy,l1,_,l2,r1,_,r2,?_⟩;have hs:=Zbz2 J;rcases Zhb (Zcw (out.getD y.Left.toNat ⟨[],[]⟩) (out.getD y.Right.toNat ⟨[],[]⟩))with⟨e1,e2⟩|e2
      ·rw[e2]at hs;rw[e1]at hn;exact .inl ⟨_,hs,hol,hn⟩
      ·rw[e2]at hs;exact .inr (.inr ⟨_,_,hs,hol,hn⟩)
     ·rw[if_neg k5];refine⟨y,by rw[Yh];exact hy,l1,_,l2,r1,_,r2,?_⟩;have k4:x.Kind=4:=by clear m4;omega
      obtain⟨v,v1,v2,v3,v4,v5⟩:=m4 k4;have hs:=Zbz3 J v2 v3 v4 v5;rw[←v1]at hs;rcases Zhb (Zcw (out.getD y.Left.toNat ⟨[],[]⟩) (out.getD y.Right.toNat ⟨[],[]⟩))with⟨e1,e2⟩|e2
      ·rw[e2]at hs;rw[e1]at hn;exact .inr (.inl ⟨_,hs,hol,hn⟩)
      ·rw[e2]at hs;exact .inr (.inr ⟨_,_,hs,hol,hn⟩)
end
def strm(d:Zl)(q:Zd)(steps:List Ze)(info:List Zb):List Za:=Zcx d q steps info []
theorem Z4t(q:Zd)(info:List Zb):GSs q info []:=fun j s h=>by simp at h
theorem Zbz4{d:Zl}{q:Zd}(h:qFor d q=true){info:List Zb}(hM:∀y∈info,0≤y.Mask∧y.Mask<16){steps:List Ze}(hl:info.length=steps.length)(hF:∀(j:Nat) (y:Zb) (x:Ze),info[j]?=some y→steps[j]?=some x→Zgg q.Atoms x (info.take j) y) :
  ∀i,i≤steps.length→∀(out:List Za),out.length=i→GSs q info out→GSs q info (Zcx d q (steps.drop i) (info.drop i) out)∧(Zcx d q (steps.drop i) (info.drop i) out).length=steps.length:=by
 refine down _ ?_ ?_
 ·intro out ho G;rw[Ym];exact⟨G,ho⟩
 ·intro i hi ih out ho G;have hi2:i<info.length:=by omega
  have hx:steps[i]?=some steps[i]:=Yf hi;have hy:info[i]?=some info[i]:=Yf hi2;have hg:=st_gs h G hM ho (hF i _ _ hy hx);rw[Yg hi,Yg hi2,Zcx];exact ih _ (by simp[ho]) (Z4h G ho hy hg)
structure PI (q:Zd) (p:Plan) (info:List Zb):Prop where
 eq:Z8 q.Zi q.Atoms p.Steps=some info
theorem PI.val{q:Zd}{p:Plan}{info:List Zb}(P:PI q p info):Zv q.Zi q.Atoms=true∧info.length=p.Steps.length∧1≤p.Steps.length∧p.Steps.length≤14:=by
 have h:=Zf2 P.eq;have h2:=P.eq;unfold Z8 at h2;split at h2
 ·rename_i hc;have:=hc.2;simp[inR]at this;exact⟨h.1,h.2.1,by omega,by omega⟩
 ·cases h2
theorem PI.mask{q:Zd}{p:Plan}{info:List Zb}(P:PI q p info):∀y∈info,0≤y.Mask∧y.Mask<16:=by
 intro y hy;have h1:=(Zs9 P.eq).1 y hy;have h2:=Zf1 P.val.1;unfold Zi3 at h1;have:(2:Int) ^ q.Atoms.length≤2 ^ 4:=by
  rcases(show q.Atoms.length=1∨q.Atoms.length=2∨q.Atoms.length=3∨q.Atoms.length=4 by omega)with e|e|e|e<;>rw[e]<;>decide
 omega
theorem Z4u{d:Zl}{q:Zd}(h:qFor d q=true){p:Plan}{info:List Zb}(P:PI q p info):GSs q info (strm d q p.Steps info)∧(strm d q p.Steps info).length=p.Steps.length:=by
 have:=Zbz4 h P.mask P.val.2.1 (Zvy P.eq) 0 (Ya _) [] rfl (Z4t q info);simpa[strm]using this
theorem Zbz5{d:Zl}(hd:LeD d){q:Zd}(hq:LeQ q)(h:qFor d q=true){p:Plan}{info:List Zb}(P:PI q p info):∃fr,Zjs d q p=some (.tup [.own 0,.own 1,Bo true],[.arr 209 4 true (info.map Zb.c),.arr 199 2 fr ((strm d q p.Steps info).map Za.c)]):=by
 obtain⟨fr,hf⟩:=l_exec hd hq h P.mask P.val.2.1 P.val.2.2.2 (Zvy P.eq) 0 (Ya _) [] true rfl (Z4t q info);have hp:=Znx q p hq;rw[P.eq]at hp;refine⟨fr,Z3l (.inr ⟨_,hp,_,Zvr d hd q hq,?_⟩)⟩;rw[h,if_pos rfl];exact hf
theorem Zbiw{d:Zl}(hd:LeD d){q:Zd}(hq:LeQ q){p:Plan}(h:Z8 q.Zi q.Atoms p.Steps=none∨qFor d q=false):Zjs d q p=some (.tup [.t .nil,.t .nil,Bo false],[]):=by
 have hp:=Znx q p hq
 cases e:Z8 q.Zi q.Atoms p.Steps with
 |none =>
  rw[e]at hp
  exact Z3l (.inl ⟨hp,rfl⟩)
 |some info =>
  rw[e]at hp;have h2:qFor d q=false:=h.resolve_left (by rw[e];simp);refine Z3l (.inr ⟨_,hp,_,Zvr d hd q hq,?_⟩);rw[h2,if_neg (by decide)]
theorem Zbz6{d:Zl}(hd:LeD d){q:Zd}(hq:LeQ q)(h:qFor d q=true){p:Plan}{info:List Zb}(P:PI q p info):Zm8 d q p=some (.tup [.own 0,.own 1,Bo true],[.arr 199 2 true ((strm d q p.Steps info).map Za.c),.arr 209 4 true (info.map Zb.c)]):=by
 have hf:=l_strm hd hq h P.mask (p:=p) P.val.2.1 P.val.2.2.2 (Zvy P.eq) 0 (Ya _) [] rfl (Z4t q info);have hp:=Znw q p hq;rw[P.eq]at hp;refine Z3u ⟨_,_,hp,?_⟩;rw[if_pos rfl];refine⟨_,Zvs d hd q hq,?_⟩;rw[h,if_pos rfl];exact hf
theorem Zbix{d:Zl}(hd:LeD d){q:Zd}(hq:LeQ q){p:Plan}(h:Z8 q.Zi q.Atoms p.Steps=none∨qFor d q=false):∃info:List Zb,Zm8 d q p=some (.tup [.own 0,.own 1,Bo false],[.arr 199 2 true (([]:List Za).map Za.c),.arr 209 4 true (info.map Zb.c)]):=by
 have hp:=Znw q p hq
 cases e:Z8 q.Zi q.Atoms p.Steps with
 |none =>
  rw[e]at hp;refine⟨[],Z3u ⟨[],false,hp,?_⟩⟩
  rw[if_neg (by decide)]
 |some info =>
  rw[e]at hp;have h2:qFor d q=false:=h.resolve_left (by rw[e];simp);refine⟨info,Z3u ⟨_,_,hp,?_⟩⟩;rw[if_pos rfl];refine⟨_,Zvs d hd q hq,?_⟩;rw[h2,if_neg (by decide)]
def ansR(rows:List (List Int)):List (List Int):=cptR (srtR rows)
abbrev AscR(l:List (List Int)):Prop:=l.Pairwise fun a b=>cmpR a b<0
theorem Zbiy:∀{a b:List (List Int)},AscR a→AscR b→(∀x,x∈a↔x∈b)→a=b
 |[],[],_,_,_=>rfl
 |[],y::b,_,_,h=>by have:=(h y).2 (by simp);cases this
 |x::a,[],_,_,h=>by have:=(h x).1 (by simp);cases this
 |x::a,y::b,ha,hb,h=>by
  have ha':=Ybg.1 ha;have hb':=Ybg.1 hb;have e:x=y:=by
   have h1:=(h x).1 (by simp);have h2:=(h y).2 (by simp);rcases Yr.1 h1 with e|e
   ·exact e
   ·rcases Yr.1 h2 with e2|e2
    ·exact e2.symm
    ·have h3:=hb'.1 x e;have h4:=ha'.1 y e2;have:=Zdv x y;omega
  subst e;rw[Zbiy ha'.2 hb'.2 fun z=>?_];constructor
  ·intro hz;have:=(h z).1 (by simp[hz]);rcases Yr.1 this with e|e
   ·subst e;have:=ha'.1 _ hz;rw[Z4i]at this;omega
   ·exact e
  ·intro hz;have:=(h z).2 (by simp[hz]);rcases Yr.1 this with e|e
   ·subst e;have:=hb'.1 _ hz;rw[Z4i]at this;omega
   ·exact e
theorem Zbiz:∀{l:List (List Int)},(l.Pairwise fun a b=>leR a b=true)→AscR (cptR l)
 |[],_=>by simp[cptR]
 |[a],_=>by simp[cptR]
 |a::b::l,h=>by
  have h1:=Ybg.1 h;have ih:=Zbiz h1.2;unfold cptR;split
  ·exact ih
  ·rename_i e;refine Ybg.2 ⟨fun x hx=>?_,ih⟩;rw[Z4j]at hx;have hab:cmpR a b<0:=by
    have h3:=h1.1 b (by simp);unfold leR at h3;simp only[decide_eq_true_eq]at h3;rcases Ydw h3 with h4|h4
    ·exact h4
    ·exact absurd (Zkw _ _ h4) e
   rcases Yr.1 hx with rfl|hx
   ·exact hab
   ·have h2:=(Ybg.1 h1.2).1 x hx;unfold leR at h2;simp only[decide_eq_true_eq]at h2;have h5:=Zn9 a b x (by omega) h2;rcases Ydw h5 with h4|h4
    ·exact h4
    ·have:=Zkw _ _ h4;subst this;have:=Zdv a b;omega
theorem ansR_asc(rows:List (List Int)):AscR (ansR rows):=Zbiz (Zbhs rows)
theorem ansR_mem(rows:List (List Int))(x:List Int):x∈ansR rows↔x∈rows:=by unfold ansR;rw[Z4j,(Zv0 rows).mem_iff]
theorem Zbz7{rows:List (List Int)}(h1:rows.length≤4096)(h2:∀r∈rows,r.length≤4):Zuh rows=some (.own 0,[.arr 30 1 true ((ansR rows).map isc)]):=by
 have hl:=(Zv0 rows).length_eq;refine Zbu4 ⟨_,Z35 rows h2 (by omega),srtR rows,?_,ansR rows,?_,rfl⟩
 ·unfold Z0u;exact c_sort h1 h2
 ·unfold Z0v;exact c_cpt (by omega) fun r hr=>h2 r ((Zv0 rows).mem_iff.1 hr)
theorem Zbi0{s:Za}(h:VS s):Zfg s=some (.tup [.agg [.own 0,.own 1],Bo true],[.arr 3 1 true (s.Vars.map ic),.arr 30 1 true ((ansR s.Rows).map isc)]):=by
 refine Zbu5 ⟨_,Zkx h,?_⟩;rw[if_pos rfl];exact⟨_,Zim _ (by have:=h.four;omega),_,Zbz7 h.len fun r hr=>(h.row4 hr).2,rfl⟩
def putR:List (List Int)→List Int→Bool→List (List Int)
 |[],row,put=>if put=true then[]else[row]
 |e::es,row,put=>if cmpR e row=0 then e::putR es row true else if 0<cmpR e row then(if put=true then e::putR es row true else row::e::putR es row true)else e::putR es row put
theorem Zwc:∀(es:List (List Int)) (row:List Int),putR es row true=es
 |[],_=>rfl
 |e::es,row=>by
  unfold putR;rw[Zwc es row];simp
theorem Zwd:∀(es:List (List Int)) (row x:List Int),x∈putR es row false↔x∈es∨x=row
 |[],row,x=>by simp[putR]
 |e::es,row,x=>by
  have ih:=Zwd es row x;unfold putR;rw[Zwc];by_cases h1:cmpR e row=0
  ·rw[if_pos h1];have:=Zkw _ _ h1;subst this;simp;exact fun h=>.inl h
  ·rw[if_neg h1];by_cases h2:0<cmpR e row
   ·rw[if_pos h2,if_neg (by decide)];simp only[Yr];constructor
    ·rintro(h|h|h)
     ·exact .inr h
     ·exact .inl (.inl h)
     ·exact .inl (.inr h)
    ·rintro((h|h)|h)
     ·exact .inr (.inl h)
     ·exact .inr (.inr h)
     ·exact .inl h
   ·rw[if_neg h2,Yr,ih,Yr,or_assoc]
theorem Zbi1:∀{es:List (List Int)} (row:List Int),AscR es→AscR (putR es row false)
 |[],row,_=>by simp[putR]
 |e::es,row,h=>by
  have h':=Ybg.1 h;unfold putR;rw[Zwc];by_cases h1:cmpR e row=0
  ·rw[if_pos h1];exact h
  ·rw[if_neg h1];by_cases h2:0<cmpR e row
   ·rw[if_pos h2,if_neg (by decide)];have h3:cmpR row e<0:=by have:=Zdv e row;omega
    refine Ybg.2 ⟨fun x hx=>?_,h⟩;rcases Yr.1 hx with rfl|hx
    ·exact h3
    ·have h4:=h'.1 x hx;have h5:=Zn9 row e x (by omega) (by omega);rcases Ydw h5 with h6|h6
     ·exact h6
     ·have:=Zkw _ _ h6;subst this;have:=Zdv e row;omega
   ·rw[if_neg h2];refine Ybg.2 ⟨fun x hx=>?_,Zbi1 row h'.2⟩;rw[Zwd]at hx;rcases hx with hx|rfl
    ·exact h'.1 x hx
    ·omega
theorem Zbi2:∀(es:List (List Int)) (row:List Int) (put:Bool),(putR es row put).length≤es.length+1
 |[],row,put=>by unfold putR;split<;>simp
 |e::es,row,put=>by
  unfold putR;rw[Zwc];have:=Zbi2 es row put;split
  ·simp
  ·split
   ·split<;>simp
   ·simp only[Yx];omega
theorem l_put{rows:List (List Int)}{row:List Int}(hl:rows.length≤5000)(h4:∀r∈rows,r.length≤4)(hr:row.length≤4):∀i,i≤rows.length→∀(out:List (List Int)) (put:Bool),out.length+2*(rows.length-i)≤20000→Zg5 out rows row put i=some (.own 0,[.arr 30 1 true ((out++putR (rows.drop i) row put).map isc)]):=by
 refine down _ ?_ ?_
 ·intro out put ho;refine Zbf5 ?_;rw[if_neg (by omega),Ym];rcases tf put with e|e
  ·subst e;rw[if_neg (by decide)];exact⟨by omega,by omega,rfl⟩
  ·subst e;rw[if_pos rfl];simp[putR]
 ·intro i hi ih out put ho;have he:=h4 _ (Yd hi);refine Zbf5 ?_;rw[if_pos (by omega),wS hi (by omega),Yg hi];refine⟨by omega,_,gE hi,_,Zbgv _ _ (by omega) (by omega),?_⟩;unfold putR;by_cases h1:cmpR rows[i] row=0
  ·rw[if_pos h1,if_pos h1,if_neg (by omega)];refine⟨by omega,by omega,?_⟩;rw[ih _ _ (by simp;omega)];simp
  ·rw[if_neg h1,if_neg h1];by_cases h2:0<cmpR rows[i] row
   ·rw[if_pos h2,if_pos h2];rcases tf put with e|e
    ·subst e;rw[if_neg (by decide),if_neg (by decide)];refine⟨by omega,by omega,by omega,by omega,?_⟩;rw[ih _ _ (by simp;omega)];simp
    ·subst e;rw[if_pos rfl,if_pos rfl];refine⟨by omega,by omega,?_⟩;rw[ih _ _ (by simp;omega)];simp
   ·rw[if_neg h2,if_neg h2];refine⟨by omega,by omega,?_⟩;rw[ih _ _ (by simp;omega)];simp
theorem x_put1{rows:List (List Int)}{row:List Int}(hl:rows.length≤5000)(h4:∀r∈rows,r.length≤4)(hr:row.length≤4):Zq3 rows row=some (.own 0,[.arr 30 1 true ((putR rows row false).map isc)]) :=
 Zbws (by simpa using l_put hl h4 hr 0 (Ya _) [] false (by simp;omega))
theorem x_put0{row:List Int}(hr:row.length≤4):Zq2 row=some (.own 0,[.arr 30 1 true (([row]).map isc)]):=by
 refine Zbwr (Zbwq ?_);rw[if_neg (by decide),if_neg (by decide)];exact⟨by omega,by simp,rfl⟩
def Zkz(acc rows:List (List Int)):List (List Int):=rows.foldl (fun l r=>putR l r false) acc
theorem Zbi3:∀(rows acc:List (List Int)) (x:List Int),x∈Zkz acc rows↔x∈acc∨x∈rows
 |[],acc,x=>by simp[Zkz]
 |r::rows,acc,x=>by
  show x∈Zkz (putR acc r false) rows↔_;rw[Zbi3 rows,Zwd,Yr,or_assoc]
theorem Zbi4:∀{rows acc:List (List Int)},AscR acc→AscR (Zkz acc rows)
 |[],acc,h=>h
 |r::rows,acc,h=>Zbi4 (rows:=rows) (Zbi1 r h)
theorem Zbz8(rows:List (List Int)):Zkz [] rows=ansR rows :=
 Zbiy (Zbi4 .nil) (ansR_asc rows) fun x=>by rw[Zbi3,ansR_mem];simp
theorem Zbz9{s:Za}(h:VS s):∀i,i≤s.Rows.length→∀acc:List (List Int),acc.length≤i→(∀r∈acc,r.length≤4)→Zq4 s s.Vars acc i=some (.tup [.agg [.own 0,.own 1],Bo true],[.arr 3 1 true (s.Vars.map ic),.arr 30 1 true ((Zkz acc (s.Rows.drop i)).map isc)]):=by
 have hl:=h.len;refine down _ ?_ ?_
 ·intro acc ha h4;refine Zbf6 ?_;rw[if_neg (by omega),Ym];rfl
 ·intro i hi ih acc ha h4;have hr:=h.row4 (Yd hi);refine Zbf6 ?_;rw[if_pos (by omega),wS hi (by omega),Yg hi];have hp:=Zbi2 acc s.Rows[i] false
  exact⟨by omega,_,gE hi,_,x_put1 (by omega) h4 hr.2,ih _ (by omega) (fun r hm=>by
   rcases(Zwd _ _ _).1 hm with hm|rfl
   ·exact h4 r hm
   ·exact hr.2)⟩
def ansF(s:Za):AV×List Blk:=if s.Rows=[]then(.tup [.agg [.own 0,.t .nil],Bo true],[.arr 3 1 true (s.Vars.map ic)])else(.tup [.agg [.own 0,.own 1],Bo true],[.arr 3 1 true (s.Vars.map ic),.arr 30 1 true ((ansR s.Rows).map isc)])
theorem Zbi5{s:Za}(h:VS s):Zfl s=some (ansF s):=by
 have h4:=h.four;refine Zbwu ⟨_,Zky h,?_⟩;rw[if_pos rfl];refine⟨by omega,Zbwt ?_⟩;unfold ansF;by_cases e:s.Rows=[]
 ·rw[if_neg (by rw[e];simp),if_pos e]
 ·have h0:0<s.Rows.length:=Ydt.2 e;have hr:=h.row4 (Yd h0);rw[if_pos (by omega),if_neg e];refine⟨by omega,_,gE h0,_,x_put0 hr.2,?_⟩;have:=Zbz9 h 1 (by omega) [s.Rows[0]] (by simp) (by simp[hr.2]);have e2:Zkz [s.Rows[0]] (s.Rows.drop 1)=ansR s.Rows:=by
   rw[←Zbz8]
   conv=>rhs;rw[←Yk (l:=s.Rows),Yg h0]
   rfl
  rw[e2]at this;rw[show w (0+1)=((1:Nat):Int) by decide];exact this
theorem Zb0a(n:Int)(h0:0≤n)(h1:n≤4096):Zp2 n 0=some (I (Zeh n),[]):=by
 unfold Zeh;rw[if_neg (by omega:¬n<0)];refine Zij ⟨_,Zgd 0,?_⟩;rw[show Zbh 0=0 from by decide];by_cases c0:n≤0
 ·rw[if_pos c0,if_pos c0]
 rw[if_neg c0,if_neg c0,show w (0+1)=1 from by decide];refine Zij ⟨_,Zgd 1,?_⟩;rw[show Zbh 1=1 from by decide];by_cases c1:n≤1
 ·rw[if_pos c1,if_pos c1]
 rw[if_neg c1,if_neg c1,show w (1+1)=2 from by decide];refine Zij ⟨_,Zgd 2,?_⟩;rw[show Zbh 2=4 from by decide];by_cases c2:n≤4
 ·rw[if_pos c2,if_pos c2]
 rw[if_neg c2,if_neg c2,show w (2+1)=3 from by decide];refine Zij ⟨_,Zgd 3,?_⟩;rw[show Zbh 3=16 from by decide];by_cases c3:n≤16
 ·rw[if_pos c3,if_pos c3]
 rw[if_neg c3,if_neg c3,show w (3+1)=4 from by decide];refine Zij ⟨_,Zgd 4,?_⟩;rw[show Zbh 4=64 from by decide];by_cases c4:n≤64
 ·rw[if_pos c4,if_pos c4]
 rw[if_neg c4,if_neg c4,show w (4+1)=5 from by decide];refine Zij ⟨_,Zgd 5,?_⟩;rw[show Zbh 5=256 from by decide];by_cases c5:n≤256
 ·rw[if_pos c5,if_pos c5]
 rw[if_neg c5,if_neg c5,show w (5+1)=6 from by decide];refine Zij ⟨_,Zgd 6,?_⟩;rw[show Zbh 6=1024 from by decide];by_cases c6:n≤1024
 ·rw[if_pos c6,if_pos c6]
 rw[if_neg c6,if_neg c6,show w (6+1)=7 from by decide];refine Zij ⟨_,Zgd 7,?_⟩;rw[show Zbh 7=4096 from by decide];rw[if_pos h1,if_pos h1]
theorem Zis{c a b:Prop}[Decidable c](h:c)(ha:a):if c then a else b:=by rw[if_pos h];exact ha
theorem Zb0b(n:Int)(h0:0≤n)(h1:n≤4096):Zq1 n 0=some (I (Zeh n),[]):=by
 unfold Zeh;rw[if_neg (by omega:¬n<0)];refine Zik (Zis (by decide) ⟨_,Zge 0,?_⟩);rw[show Zbh 0=0 from by decide];by_cases c0:n≤0
 ·rw[if_pos c0,if_pos c0]
 rw[if_neg c0,if_neg c0,show w (0+1)=1 from by decide];refine Zik (Zis (by decide) ⟨_,Zge 1,?_⟩);rw[show Zbh 1=1 from by decide];by_cases c1:n≤1
 ·rw[if_pos c1,if_pos c1]
 rw[if_neg c1,if_neg c1,show w (1+1)=2 from by decide];refine Zik (Zis (by decide) ⟨_,Zge 2,?_⟩);rw[show Zbh 2=4 from by decide];by_cases c2:n≤4
 ·rw[if_pos c2,if_pos c2]
 rw[if_neg c2,if_neg c2,show w (2+1)=3 from by decide];refine Zik (Zis (by decide) ⟨_,Zge 3,?_⟩);rw[show Zbh 3=16 from by decide];by_cases c3:n≤16
 ·rw[if_pos c3,if_pos c3]
 rw[if_neg c3,if_neg c3,show w (3+1)=4 from by decide];refine Zik (Zis (by decide) ⟨_,Zge 4,?_⟩);rw[show Zbh 4=64 from by decide];by_cases c4:n≤64
 ·rw[if_pos c4,if_pos c4]
 rw[if_neg c4,if_neg c4,show w (4+1)=5 from by decide];refine Zik (Zis (by decide) ⟨_,Zge 5,?_⟩);rw[show Zbh 5=256 from by decide];by_cases c5:n≤256
 ·rw[if_pos c5,if_pos c5]
 rw[if_neg c5,if_neg c5,show w (5+1)=6 from by decide];refine Zik (Zis (by decide) ⟨_,Zge 6,?_⟩);rw[show Zbh 6=1024 from by decide];by_cases c6:n≤1024
 ·rw[if_pos c6,if_pos c6]
 rw[if_neg c6,if_neg c6,show w (6+1)=7 from by decide];refine Zik (Zis (by decide) ⟨_,Zge 7,?_⟩);rw[show Zbh 7=4096 from by decide];rw[if_pos h1,if_pos h1]
theorem Zb0c{n:Int}(h:inR n 0 4096=false):Zeh n=-1:=by
 simp[inR]at h;unfold Zeh
 repeat' split
 all_goals omega
theorem Z4v(n:Int):Zh7 n=some (I (Zeh n),[]):=by
 refine Zbuy ⟨_,Zcv _ _ _,?_⟩;rcases tf (inR n 0 4096)with e|e
 ·rw[e,Zb0c e];simp
 ·rw[if_pos e];simp[inR]at e;exact Zb0a n e.1 e.2
theorem Z4w(n:Int):Zjy n=some (I (Zo5 n),[]):=Zbuz ⟨_,Z4v n,_,Zgd _,rfl⟩
theorem Z4x(n:Int)(h1:n≤4096):Zig n=some (I (Zeh n),[]):=by
 refine Zbwm ?_;by_cases c:n<0
 ·rw[if_pos c];unfold Zeh;rw[if_pos c]
 ·rw[if_neg c];exact Zb0b n (by omega) h1
theorem Z4y(n:Int)(h1:n≤4096):Zcl n=some (I (Zo5 n),[]):=Zbwn ⟨_,Z4x n h1,_,Zge _,rfl⟩
theorem Z4z(m:Zk):Zei m=some (.bsl 1 5,[.box (m.c.map .t),.box [.ptr 0 0,.ptr 0 6,.ptr 0 12,.ptr 0 18,.ptr 0 24]]):=Zbee rfl
theorem Zb0d{qa:List Atom}{x:Ze}{info:List Zb}{st:List Int}{y:Zb}(hs:StOk info st)(h:Zc1 qa x info st=some y):y.Left<info.length∧(0≤y.Right→x.Kind≤5):=by
 unfold Zc1 at h;split at h
 ·split at h
  ·cases h;exact⟨by simp;omega,fun hc=>absurd (show(0:Int)≤-1 from hc) (by decide)⟩
  ·cases h
 ·split at h
  ·cases h
  ·split at h
   ·split at h
    ·rename_i s y' ht;split at h
     ·cases h;obtain⟨_,t2,t3,_⟩:=Zfb hs (Yc 1) ht;exact⟨by simp;omega,fun hc=>absurd (show(0:Int)≤-1 from hc) (by decide)⟩
     ·cases h
    ·cases h
   ·split at h
    ·rename_i s y' t z ht hu;split at h
     ·obtain⟨_,t2,t3,_⟩:=Zfb hs (by omega:1≤2) ht;obtain⟨o,ho,rfl⟩:=Yj.1 h;refine⟨by simp;omega,fun _=>?_⟩;unfold Zd0 at ho;split at ho
      ·omega
      ·split at ho
       ·omega
       ·split at ho
        ·omega
        ·cases ho
     ·cases h
    ·cases h
theorem Zbi6{qa:List Atom}:∀{xs:List Ze} {i:Nat} {info:List Zb} {st:List Int} {info':List Zb} {st':List Int},Zb3 qa xs i info st=some (info',st') →
  StOk info st→info.length=i→∃tail,info'=info++tail∧tail.length=xs.length∧∀(j:Nat) (y:Zb) (x:Ze),tail[j]?=some y→xs[j]?=some x→y.Left<(i:Int)+j∧(0≤y.Right→x.Kind≤5)
 |[],i,info,st,info',st',h,hs,hi=>by
  simp[Zb3]at h;obtain⟨rfl,rfl⟩:=h
  exact⟨[],by simp,rfl,by intro j y x hj;simp at hj⟩
 |x::xs,i,info,st,info',st',h,hs,hi=>by
  rw[Zb3]at h;split at h
  ·cases h
  ·rename_i y hy;have hn:=Zo9 hs y (st.length-pops y);rw[hi]at hn;obtain⟨tail,g2,g3,g4⟩:=Zbi6 h hn (by simp[hi]);refine⟨y::tail,by simp[g2],by simp[g3],?_⟩;intro j y' x' hj hx
   cases j with
   |zero =>
    simp at hj hx;subst hj;subst hx;have:=Zb0d hs hy
    exact⟨by omega,this.2⟩
   |succ j =>
    have:=g4 j y' x' (by simpa using hj) (by simpa using hx);exact⟨by omega,this.2⟩
def lw(info:List Zb):Prop:=∀(i:Nat) (y:Zb),info[i]?=some y→y.Left<(i:Int)
theorem Zbi7{n:Int}{qa:List Atom}{steps:List Ze}{info:List Zb}(h:Z8 n qa steps=some info) :
  lw info∧∀(j:Nat) (y:Zb) (x:Ze),info[j]?=some y→steps[j]?=some x→0≤y.Right→x.Kind≤5:=by
 have hl:=(Zf2 h).2.1;unfold Z8 at h;split at h
 ·split at h
  ·rename_i info' st hg;split at h
   ·cases h;obtain⟨tail,g2,g3,g4⟩:=Zbi6 hg (fun s hs=>by cases hs) rfl;simp at g2;subst g2;refine⟨fun i y hi=>?_,fun j y x hj hx=>(g4 j y x hj hx).2⟩;have hi2:i<steps.length:=by
     have:=(Yy.1 hi).1;omega
    have:=(g4 i y _ hi (Yf hi2)).1;omega
   ·cases h
  ·cases h
 ·cases h
def fst(info:List Zb):Nat→Int→Int
 |0,i=>i
 |f+1,i=>match info[i.toNat]? with
  |some y=>if 0≤y.Left then fst info f y.Left else i
  |none=>i
def first(info:List Zb)(i:Int):Int:=fst info (i.toNat+1) i
theorem Zbi8{info:List Zb}(h:lw info):∀(f:Nat) (i:Int),0≤i→i.toNat<f→i.toNat<info.length→Zpd info i=some (I (fst info f i),[])
 |0,_,_,h1,_=>absurd h1 (Nat.not_lt_zero _)
 |f+1,i,h0,h1,h2=>by
  have e:=Yf h2;have hl:=h _ _ e;refine Zbtk ⟨h0,_,e,?_⟩;unfold fst;rw[e];by_cases c:0≤info[i.toNat].Left
  ·simp only[if_pos c];exact Zbi8 h f _ c (by omega) (by omega)
  ·simp only[if_neg c]
theorem Zbi9{info:List Zb}(h:lw info):∀(f:Nat) (i:Int),0≤i→i.toNat<f→i.toNat<info.length→Zqb info i=some (I (fst info f i),[])
 |0,_,_,h1,_=>absurd h1 (Nat.not_lt_zero _)
 |f+1,i,h0,h1,h2=>by
  have e:=Yf h2;have hl:=h _ _ e;refine Zbvf ⟨h0,_,e,?_⟩;unfold fst;rw[e];by_cases c:0≤info[i.toNat].Left
  ·simp only[if_pos c];exact Zbi9 h f _ c (by omega) (by omega)
  ·simp only[if_neg c]
theorem x_begins{info:List Zb}(h:lw info){i:Int}(h0:0≤i)(h2:i.toNat<info.length):Zto info i=some (I (first info i),[]):=Zbtl (Zbi8 h _ i h0 (by omega) h2)
theorem Zb0e{info:List Zb}(h:lw info){i:Int}(h0:0≤i)(h2:i.toNat<info.length):Zqa info i=some (I (first info i),[]):=Zbvg (Zbi9 h _ i h0 (by omega) h2)
theorem Zb0f(steps:List Ze)(hl:steps.length≤100):∀i,i≤steps.length→∀out,out.length≤i→Zly out steps steps.length i=some (.own 0,[.arr Zb4 1 true ((out++jst (steps.drop i) i).map ic)]):=by
 refine down _ ?_ ?_
 ·intro out ho;refine Zbde ?_;rw[if_neg (by omega),Ym];simp[jst]
 ·intro i hi ih out ho;have h5:=Zbf (i:=i) (by omega);refine Zbde ?_;rw[if_pos (by omega),Zyd hi];refine⟨by omega,_,Yf hi,?_⟩;rw[show w ((i:Int)+1)=((i+1:Nat):Int)from h5];by_cases c:3≤(steps[i]).Kind
  ·rw[if_pos (by simpa using c),if_pos c];refine⟨by omega,?_⟩;rw[ih _ (by simp;omega)];simp
  ·rw[if_neg (by simpa using c),if_neg c];exact ih _ (by omega)
theorem Zbja(p:Plan)(hl:p.Steps.length≤100):Zi7 p=some (.own 0,[.arr Zb4 1 true ((jst p.Steps 0).map ic)]):=by
 have:=Zb0f p.Steps hl 0 (Ya _) [] (Ya _);exact Zbtj (by simpa using this)
theorem fst_in{info:List Zb}(h:lw info):∀(f:Nat) (i:Int),0≤i→0≤fst info f i∧fst info f i≤i
 |0,i,h0=>⟨h0,Int.le_refl _⟩
 |f+1,i,h0=>by
  unfold fst;split
  ·rename_i y hy;split
   ·rename_i c;have:=h _ _ hy;have:=fst_in h f y.Left c;omega
   ·exact⟨h0,Int.le_refl _⟩
  ·exact⟨h0,Int.le_refl _⟩
theorem Zbjb{info:List Zb}(h:lw info){i:Int}(h0:0≤i):0≤first info i∧first info i≤i:=fst_in h _ i h0
def subp(info:List Zb)(steps:List Ze)(i:Int):List Ze:=(steps.take (i+1).toNat).drop (first info i).toNat
def noP:AV×List Blk:=(.tup [.agg [.t .nil],Bo false],[])
def yesP(l:List Ze):AV×List Blk:=(.tup [.agg [.own 0],Bo true],[.arr 194 3 true (l.map Ze.c)])
theorem Zb0g(q:Zd)(hq:LeQ q)(p:Plan){info:List Zb}(he:Z8 q.Zi q.Atoms p.Steps=some info){i:Int}(h0:0≤i)(h1:i.toNat<info.length):Zlz q p i=some (yesP (subp info p.Steps i)):=by
 have q1:=Znx q p hq;rw[he]at q1;obtain⟨l1,l2,l3,l4⟩:=Zf2 he;obtain⟨lf,l5⟩:=Zbi7 he;obtain⟨b0,b1⟩:=Zbjb lf h0;have w1:w ((info.length:Int)-1)=(info.length:Int)-1:=Zq (by omega) (by omega);have w2:w (i+1)=i+1:=Zq (by omega) (by omega);refine Zbtn (.inr ⟨info,q1,_,Zcv _ _ _,?_⟩);rw[if_pos (by rw[w1];simp[inR];omega)];refine⟨_,x_begins lf h0 h1,b0,?_⟩;rw[w2];refine⟨by omega,by omega,by omega,_,Zbtm ⟨?_,rfl⟩,rfl⟩;show(List.drop _ (List.take _ _)).length≤_;rw[Yb3,Ybn];omega
theorem Zb0h(q:Zd)(hq:LeQ q)(p:Plan){info:List Zb}(he:Z8 q.Zi q.Atoms p.Steps=some info){i:Int}(h0:0≤i)(h1:i.toNat<info.length):Zmk q p i=some (yesP (subp info p.Steps i)):=by
 have q1:=Znw q p hq;rw[he]at q1;obtain⟨l1,l2,l3,l4⟩:=Zf2 he;obtain⟨lf,l5⟩:=Zbi7 he;obtain⟨b0,b1⟩:=Zbjb lf h0;have w1:w ((info.length:Int)-1)=(info.length:Int)-1:=Zq (by omega) (by omega);have w2:w (i+1)=i+1:=Zq (by omega) (by omega);refine Zbvh ⟨info,true,q1,?_⟩;rw[if_pos rfl];refine⟨_,Zc4 _ _ _,?_⟩;rw[if_pos (by rw[w1];simp[inR];omega)];refine⟨_,Zb0e lf h0 h1,b0,?_⟩;rw[w2];refine⟨by omega,by omega,by omega,?_,rfl⟩;rw[Yb3,Ybn];omega
def spl(info:List Zb)(mask:Int):List Int→Option Int
 |[]=>none
 |j::js=>match info[j.toNat]? with
  |some y=>if y.Mask=mask then some j else spl info mask js
  |none=>none
def spillR(info:List Zb)(steps:List Ze):Option Int→AV×List Blk
 |some j=>yesP (subp info steps j)
 |none=>noP
theorem Zb0i(q:Zd)(hq:LeQ q)(p:Plan){info:List Zb}(he:Z8 q.Zi q.Atoms p.Steps=some info)(mask:Int)(js:List Int)(hj:∀j∈js,0≤j∧j.toNat<info.length)(hl:js.length≤1000):∀i,i≤js.length →
  Zpe q p info js mask js.length i=some (spillR info p.Steps (spl info mask (js.drop i))):=by
 refine down _ ?_ ?_
 ·refine Zbdf ?_;rw[if_neg (by omega),Ym];rfl
 ·intro i hi ih;have h5:=Zbf (i:=i) (by omega);obtain⟨j0,j1⟩:=hj _ (Yd hi);refine Zbdf ?_;rw[if_pos (by omega)];refine⟨by omega,_,Yf hi,j0,_,Yf j1,?_⟩;rw[Yg hi,spl,Yf j1];simp only;by_cases c:info[js[i].toNat].Mask=mask
  ·rw[if_pos (by simpa using c),if_pos (by simpa using c)];exact .inr ⟨_,Zb0g q hq p he j0 j1,rfl⟩
  ·rw[if_neg (by simpa using c),if_neg (by simpa using c),show w ((i:Int)+1)=((i+1:Nat):Int)from h5];exact ih
def Zoa(q:Zd)(p:Plan)(mask:Int):AV×List Blk:=match Z8 q.Zi q.Atoms p.Steps with
 |some info=>spillR info p.Steps (spl info mask (jst p.Steps 0))
 |none=>noP
theorem Zb0j(q:Zd)(hq:LeQ q)(p:Plan)(mask:Int):Zl0 q p mask=some (Zoa q p mask):=by
 have q1:=Znx q p hq;refine Zbtp ?_;unfold Zoa
 cases he:Z8 q.Zi q.Atoms p.Steps with
 |none=>rw[he]at q1;exact .inl ⟨q1,rfl⟩
 |some info =>
  rw[he]at q1;obtain⟨l1,l2,l3,l4⟩:=Zf2 he;have hjl:=Zye p.Steps 0;refine .inr ⟨info,q1,_,Zbja p (by omega),?_⟩;have:=Zb0i q hq p he mask (jst p.Steps 0) (fun j hj=>by have:=Zta hj;omega) (by omega) 0 (Ya _);rw[Yk]at this;exact this
theorem Zb0k(q:Zd)(hq:LeQ q)(p:Plan){info:List Zb}(he:Z8 q.Zi q.Atoms p.Steps=some info)(mask:Int):∀i,i≤p.Steps.length →
  Zmm q p info mask true i=some (spillR info p.Steps (spl info mask (jst (p.Steps.drop i) i))):=by
 obtain⟨l1,l2,l3,l4⟩:=Zf2 he;have l6:=(Zs9 he).2;refine down _ ?_ ?_
 ·refine Z3q ?_;rw[if_neg (by omega),Ym];rfl
 ·intro i hi ih;have h5:=Zbf (i:=i) (by omega);have hi':i<info.length:=by omega
  have hk:=l6 _ _ _ (Yf hi') (Yf hi);refine Z3q ?_;rw[if_pos (by omega),if_pos rfl];refine⟨by omega,_,Yf hi',?_⟩;rw[Zyd hi,show w ((i:Int)+1)=((i+1:Nat):Int)from h5];by_cases c:3≤p.Steps[i].Kind
  ·rw[if_pos (by simpa using hk.2 c),if_pos c,spl];simp only[Yh,Yf hi'];by_cases c2:info[i].Mask=mask
   ·rw[if_pos c2,if_pos c2];exact .inl ⟨_,Zb0h q hq p he (by omega) (by omega),rfl⟩
   ·rw[if_neg c2,if_neg c2];exact ih
  ·rw[if_neg (fun hc=>c (hk.1 (by simpa using hc))),if_neg c];exact ih
theorem Zb0l(q:Zd)(hq:LeQ q)(p:Plan)(mask:Int):Zml q p mask=some (Zoa q p mask):=by
 have q1:=Znw q p hq;refine Zbvi ?_;unfold Zoa
 cases he:Z8 q.Zi q.Atoms p.Steps with
 |none =>
  rw[he]at q1;refine⟨[],false,q1,Z3q ?_⟩
  simp;rfl
 |some info =>
  rw[he]at q1;refine⟨info,true,q1,?_⟩;have:=Zb0k q hq p he mask 0 (Ya _);rw[Yk]at this;exact this
def ruS(l:List Za)(i:Int):Int:=Zo5 ((l.getD i.toNat ⟨[],[]⟩).Rows.length:Int)
def lfC(l:List Za)(y:Zb)(i:Nat):Int:=if 0≤y.Left then ruS l y.Left else ruS l i
def rtC(l:List Za)(y:Zb):Int:=if 0≤y.Right then ruS l y.Right else 0
def stC(m:Zk)(l:List Za)(x:Ze)(y:Zb)(i:Nat):Int:=Zd6 (mOp m x.Kind) (lfC l y i) (rtC l y) (ruS l i)
def alwF(o:Zm)(l r b:Int)(k:Nat):Int:=match(List.range' k (8-k)).find? (fun j:Nat=>decide (b<Zd6 o l r (Zbh j)))with
 |some j=>(j:Int)
 |none=>8
def obs1(m:Zk)(l:List Za)(x:Ze)(y:Zb)(b:Int):Zg:=⟨y.Mask,alwF (mOp m x.Kind) (ruS l y.Left) (ruS l y.Right) b 0,false⟩
def obs2(l:List Za)(y:Zb)(i:Nat):Zg:=⟨y.Mask,Zeh ((l.getD i ⟨[],[]⟩).Rows.length:Int),true⟩
def runF(m:Zk)(l:List Za)(bud:Int):List Ze→List Zb→Nat→Int→Int→List Zg→Bool×Int×Int×List Zg
 |x::xs,y::ys,i,c,st,seen =>
  if w (bud-c)<stC m l x y i then(false,bud,st,if 3≤x.Kind then seen++[obs1 m l x y (w (bud-c))]else seen)
  else runF m l bud xs ys (i+1) (w (c+stC m l x y i)) (w (st+1)) (if 3≤x.Kind then seen++[obs2 l y i]else seen)
 |_,_,_,c,st,seen=>(true,c,st,seen)
def runR(nl:Bool)(s:Za):Bool×Int×Int×List Zg→AV×List Blk
 |(false,c,st,seen)=>if seen=[]then(.tup [.agg [Bo false,I c,I st,.t .nil,.t .nil,.t .nil],Bo true],[])else(.tup [.agg [Bo false,I c,I st,.own 0,.t .nil,.t .nil],Bo true],[.arr 211 3 true (seen.map Zg.c)])
 |(true,c,st,seen)=>if nl=true∧s.Rows=[]then
   (if seen=[]then(.tup [.agg [Bo true,I c,I st,.t .nil,.own 0,.t .nil],Bo true],[.arr 3 1 true (s.Vars.map ic)])else(.tup [.agg [Bo true,I c,I st,.own 0,.own 1,.t .nil],Bo true],[.arr 211 3 true (seen.map Zg.c),.arr 3 1 true (s.Vars.map ic)]))
  else(if seen=[]then(.tup [.agg [Bo true,I c,I st,.t .nil,.own 0,.own 1],Bo true],[.arr 3 1 true (s.Vars.map ic),.arr 30 1 true ((ansR s.Rows).map isc)])else(.tup [.agg [Bo true,I c,I st,.own 0,.own 1,.own 2],Bo true],[.arr 211 3 true (seen.map Zg.c),.arr 3 1 true (s.Vars.map ic),.arr 30 1 true ((ansR s.Rows).map isc)]))
theorem Zob{m:Zk}(hm:LeM m)(k:Int):Le (mOp m k).Steps:=by
 obtain⟨h1,h2,h3,h4,h5⟩:=hm;unfold mOp;split
 ·exact h1
 ·split
  ·exact h2
  ·split
   ·exact h3
   ·split
    ·exact h4
    ·exact h5
theorem adm_op{m:Zk}(h:Zdi m)(k:Int):Zbp (mOp m k)=true:=by
 obtain⟨h1,h2,h3,h4,h5⟩:=h;unfold mOp;split
 ·exact h1.1
 ·split
  ·exact h2.1
  ·split
   ·exact h3.1
   ·split
    ·exact h4.1
    ·exact h5.1
theorem ru_in{n:Nat}(h:n≤4096):inR (Zo5 (n:Int)) 0 4096=true:=by
 unfold Zo5 Zeh;rw[if_neg (by omega)]
 repeat' split
 all_goals first|decide|omega
theorem cls_in{k:Nat}(h:k≤7):inR (Zbh (k:Int)) 0 4096=true:=by
 have:∀k:Fin 8,inR (Zbh (k.1:Int)) 0 4096=true:=by decide
 exact this ⟨k,by omega⟩
theorem opc_eq{o:Zm}(h:Zbp o=true){l r n:Int}(hl:inR l 0 4096=true)(hr:inR r 0 4096=true)(hn:inR n 0 4096=true):Znz o l r n=Zd6 o l r n:=by
 unfold Zd6;rw[if_pos (by rw[h,hl,hr,hn];rfl)]
theorem Zbjc{o:Zm}{l r b:Int}{k:Nat}(h:k<8):alwF o l r b k=if b<Zd6 o l r (Zbh k)then(k:Int)else alwF o l r b (k+1):=by
 unfold alwF;rw[show 8-k=(8-(k+1))+1 by omega,Ycy,List.find?_cons];by_cases e:b<Zd6 o l r (Zbh k)
 ·rw[if_pos e];simp[e]
 ·rw[if_neg e];simp[e]
theorem Zb0m{o:Zm}(hs:Le o.Steps)(hv:Zbp o=true){l r b:Int}(hl:inR l 0 4096=true)(hr:inR r 0 4096=true):∀k:Nat,k≤8→Zp3 o l r b k=some (I (alwF o l r b k),[]):=by
 refine down 8 ?_ ?_
 ·refine Zber ?_;rw[if_neg (by decide)];rfl
 ·intro k hk ih;refine Zber ?_;rw[if_pos (by omega),wS hk (by omega),Zbjc hk];refine⟨_,Zgd _,_,Zbx7 o hs _ _ _,?_⟩;rw[opc_eq hv hl hr (cls_in (by omega))];by_cases e:b<Zd6 o l r (Zbh k)
  ·rw[if_neg (by omega),if_pos e]
  ·rw[if_pos (by omega),if_neg e];exact ih
theorem Zbjd{o:Zm}(hs:Le o.Steps)(hv:Zbp o=true){l r b:Int}(hl:inR l 0 4096=true)(hr:inR r 0 4096=true):Zbu o l r b=some (I (alwF o l r b 0),[]) :=
 Zbu2 (Zb0m hs hv hl hr 0 (by omega))
theorem Zb0n{m:Zk}(hm:LeM m)(kd:Int){l r b:Int}:∀k:Nat,k≤8→Zni m kd l r b k=some (I (alwF (mOp m kd) l r b k),[]):=by
 refine down 8 ?_ ?_
 ·refine Zbf4 ?_;rw[if_neg (by decide)];rfl
 ·intro k hk ih;refine Zbf4 ?_;rw[if_pos (by omega),wS hk (by omega),Zbjc hk];refine⟨_,Z33 m kd,_,Zge _,_,Zvn _ (Zob hm kd) _ _ _,?_⟩;by_cases e:b<Zd6 (mOp m kd) l r (Zbh k)
  ·rw[if_neg (by omega),if_pos e]
  ·rw[if_pos (by omega),if_neg e];exact ih
theorem Zbje{m:Zk}(hm:LeM m)(ha:Zdi m){kd:Int}(hk:inR kd 1 5=true){l r b:Int}(hl:inR l 0 4096=true)(hr:inR r 0 4096=true):Zkp m kd l r b=some (I (alwF (mOp m kd) l r b 0),[]):=by
 refine Zbwp ⟨_,Z34 m hm,?_⟩;rw[if_pos (by simpa using ha)];refine⟨_,Zc4 _ _ _,?_⟩;rw[hk,if_pos rfl];refine⟨_,Zc4 _ _ _,?_⟩;rw[hl,if_pos rfl];refine⟨_,Zc4 _ _ _,?_⟩;rw[hr,if_pos rfl];exact Zb0n hm kd 0 (by omega)
structure RunI (q:Zd) (p:Plan) (info:List Zb) (l:List Za):Prop where
 P:PI q p info
 G:GSs q info l
 len:l.length=p.Steps.length
section
variable{q:Zd}{p:Plan}{info:List Zb}{l:List Za}(R:RunI q p info l)
include R
theorem RunI.n4096(i:Int):(l.getD i.toNat ⟨[],[]⟩).Rows.length≤4096:=by
 by_cases h:i.toNat<l.length
 ·obtain⟨y,_,g⟩:=R.G _ _ (Zgh h);have:=g.len;have:=Zvw y.Mask;omega
 ·rw[Ybq,Ybv (by omega)];simp
theorem RunI.ru(i:Int):inR (ruS l i) 0 4096=true:=ru_in (R.n4096 i)
theorem RunI.at_{i:Nat}(hi:i<p.Steps.length):∃x y,p.Steps[i]?=some x∧info[i]?=some y∧p.Steps[i]=x∧(1≤x.Kind∧x.Kind≤5)∧(0≤y.Right↔3≤x.Kind)∧(0≤y.Right→0≤y.Left)∧(0≤y.Left→y.Left.toNat<i)∧(0≤y.Right→y.Right.toNat<i):=by
 have hl:=R.P.val.2.1;have hx:p.Steps[i]?=some p.Steps[i]:=Yf hi;have hy:info[i]?=some info[i]:=Yf (by omega);have F:=Zvy R.P.eq i _ _ hy hx;refine⟨_,_,hx,hy,rfl,?_⟩;generalize p.Steps[i]=x at *
 generalize info[i]=y at *
 have hlt:∀{s:Int} {u:Zb},(info.take i)[s.toNat]?=some u→s.toNat<i:=by
  intro s u h;rw[Yba]at h;split at h
  ·assumption
  ·cases h
 by_cases k1:x.Kind=1
 ·obtain⟨-,rfl⟩:=F.scan k1;refine⟨by omega,?_,?_,?_,?_⟩<;>simp<;>omega
 ·by_cases k2:x.Kind=2
  ·obtain⟨s,u,f1,f2,-,rfl⟩:=F.sort k2;have:=hlt f2;refine⟨by omega,?_,?_,?_,?_⟩<;>simp<;>omega
  ·obtain⟨s,u,t,z,o,f1,f2,f3,f4,-,rfl,f6⟩:=F.join k1 k2;have h1:=hlt f2;have h2:=hlt f4;have k3:3≤x.Kind∧x.Kind≤5:=by rcases f6 with⟨k,_⟩|⟨k,_⟩|⟨k,_⟩<;>omega
   refine⟨by omega,?_,?_,?_,?_⟩<;>simp<;>omega
theorem RunI.lf{y:Zb}(i:Nat):inR (lfC l y i) 0 4096=true:=by unfold lfC;split<;>exact R.ru _
theorem RunI.rt{y:Zb}:inR (rtC l y) 0 4096=true:=by
 unfold rtC;split
 ·exact R.ru _
 ·decide
theorem Z40{i:Nat}{x:Ze}{y:Zb}(hi:i<p.Steps.length)(hy:info[i]?=some y)(hL:0≤y.Left→y.Left.toNat<i)(hR:0≤y.Right→y.Right.toNat<i)(hRL:0≤y.Right→0≤y.Left):Zgz info l i=some (.tup [I (lfC l y i),I (rtC l y),I (ruS l i)],[]):=by
 have hl:=R.len;have h0:l[(i:Int).toNat]?=some (l.getD (i:Int).toNat ⟨[],[]⟩):=Zgh (by omega);refine Zbu0 ⟨by omega,_,h0,_,Z4w _,y,by rw[Yh];exact hy,?_⟩;unfold lfC rtC;by_cases h1:0≤y.Left
 ·rw[if_pos h1,if_pos h1];refine⟨_,Zgh (by have:=hL h1;omega),_,Z4w _,?_⟩;by_cases h2:0≤y.Right
  ·rw[if_pos h2,if_pos h2];exact⟨_,Zgh (by have:=hR h2;omega),_,Z4w _,rfl⟩
  ·rw[if_neg h2,if_neg h2];rfl
 ·have h2:¬0≤y.Right:=fun h=>h1 (hRL h)
  rw[if_neg h1,if_neg h1,if_neg h2,if_neg h2];rfl
theorem Zbjf{m:Zk}(hm:LeM m){i:Nat}{x:Ze}{y:Zb}(hi:i<p.Steps.length)(hx:p.Steps[i]?=some x)(hy:info[i]?=some y)(hk:1≤x.Kind∧x.Kind≤5)(hL:0≤y.Left→y.Left.toNat<i)(hR:0≤y.Right→y.Right.toNat<i)(hRL:0≤y.Right→0≤y.Left):Zjz m p info l i=some (I (stC m l x y i),[]):=by
 refine Zbu3 ⟨_,_,_,Z40 R (x:=x) hi hy hL hR hRL,Z4z m,by omega,x,by rw[Yh];exact hx,?_⟩;unfold stC mOp;rw[wA (by omega) (by omega)];obtain⟨a1,a2,a3,a4,a5⟩:=hm;by_cases h1:x.Kind=1
 ·rw[if_pos (by omega),if_pos h1];exact⟨_,Zrt _ a1 _ _ _,rfl⟩
 ·rw[if_neg (by omega),if_neg h1];by_cases h2:x.Kind=2
  ·rw[if_pos (by omega),if_pos h2];exact⟨_,Zrt _ a2 _ _ _,rfl⟩
  ·rw[if_neg (by omega),if_neg h2];by_cases h3:x.Kind=3
   ·rw[if_pos (by omega),if_pos h3];exact⟨_,Zrt _ a3 _ _ _,rfl⟩
   ·rw[if_neg (by omega),if_neg h3];by_cases h4:x.Kind=4
    ·rw[if_pos (by omega),if_pos h4];exact⟨_,Zrt _ a4 _ _ _,rfl⟩
    ·rw[if_neg (by omega),if_neg h4,if_pos (by omega)];exact⟨_,Zrt _ a5 _ _ _,rfl⟩
theorem Zwe{m:Zk}{bud:Int}{i:Nat}{x:Ze}{y:Zb}(hi:i<p.Steps.length)(hx:p.Steps[i]?=some x)(hy:info[i]?=some y)(c st:Int)(seen:List Zg) :
  runF m l bud (p.Steps.drop i) (info.drop i) i c st seen=if w (bud-c)<stC m l x y i then(false,bud,st,if 3≤x.Kind then seen++[obs1 m l x y (w (bud-c))]else seen)else runF m l bud (p.Steps.drop (i+1)) (info.drop (i+1)) (i+1) (w (c+stC m l x y i)) (w (st+1)) (if 3≤x.Kind then seen++[obs2 l y i]else seen):=by
 have hl:=R.P.val.2.1;have hx':p.Steps[i]=x:=by rw[Yf hi]at hx;exact Ycg hx
 have hy':info[i]'(by omega)=y:=by rw[Yf (by omega)]at hy;exact Ycg hy
 rw[Yg hi,Yg (show i<info.length by omega),hx',hy',runF]
omit R in
theorem Zwf{m:Zk}{bud:Int}(c st:Int)(seen:List Zg):runF m l bud (p.Steps.drop p.Steps.length) (info.drop p.Steps.length) p.Steps.length c st seen=(true,c,st,seen):=by rw[Ym];rfl
theorem RunI.last:l[((p.Steps.length-1:Nat):Int).toNat]?=some (l.getD (p.Steps.length-1) ⟨[],[]⟩)∧VS (l.getD (p.Steps.length-1) ⟨[],[]⟩):=by
 have h:=R.P.val;have hl:=R.len;have h1:l[((p.Steps.length-1:Nat):Int).toNat]?=some (l.getD ((p.Steps.length-1:Nat):Int).toNat ⟨[],[]⟩):=Zgh (by omega);rw[Yh]at h1⊢;obtain⟨y,_,g⟩:=R.G _ _ h1;exact⟨h1,g.vs h.1⟩
end
section
variable{q:Zd}{p:Plan}{info:List Zb}{l:List Za}(R:RunI q p info l){m:Zk}(hm:LeM m)(ha:Zdi m)(fr:Bool)(bud:Int)
include R hm ha
theorem Zb0o:∀i,i≤p.Steps.length→∀(c st:Int) (seen:List Zg),seen≠[]→seen.length≤i→Zg0 m p false 0 0 info fr l false c st seen bud p.Steps p.Steps.length i=some (runR false (l.getD (p.Steps.length-1) ⟨[],[]⟩) (runF m l bud (p.Steps.drop i) (info.drop i) i c st seen)):=by
 have hv:=R.P.val;have hl:=R.len;refine down _ ?_ ?_
 ·intro c st seen h0 hs;obtain⟨e1,e2⟩:=R.last;refine Zbet ?_;rw[if_neg (by omega),Zwf,hl,show w ((p.Steps.length:Int)-1)=((p.Steps.length-1:Nat):Int) by rw[wA (by omega) (by omega)];omega];refine⟨by omega,_,e1,.inl ⟨_,_,Zbi0 e2,?_⟩⟩;simp[runR,h0]
 ·intro i hi ih c st seen h0 hs;obtain⟨x,y,hx,hy,hxi,k15,kr,krl,hL,hR⟩:=R.at_ hi;refine Zbet ?_;rw[if_pos (by omega),Zwe R hi hx hy,wS hi (by omega)];refine⟨by omega,x,by rw[Yh];exact hx,_,_,_,Z40 R (x:=x) hi hy hL hR krl,_,Zbjf R hm hi hx hy k15 hL hR krl,?_⟩;by_cases hc:w (bud-c)<stC m l x y i
  ·rw[if_pos hc,if_pos hc];by_cases h3:3≤x.Kind
   ·rw[if_pos h3,if_pos h3];have h5:0≤y.Right:=kr.2 h3;have e1:lfC l y i=ruS l y.Left:=by unfold lfC;rw[if_pos (krl h5)]
    have e2:rtC l y=ruS l y.Right:=by unfold rtC;rw[if_pos h5]
    rw[e1,e2];have hA:∀o,mOp m x.Kind=o→Zbu o (ruS l y.Left) (ruS l y.Right) (w (bud-c))=some (I (obs1 m l x y (w (bud-c))).Class,[]):=by
     intro o ho;have:=Zbjd (Zob hm x.Kind) (adm_op ha x.Kind) (b:=w (bud-c)) (R.ru y.Left) (R.ru y.Right);rw[ho]at this;rw[this];simp only[obs1,ho]
    have res:runR false (l.getD (p.Steps.length-1) ⟨[],[]⟩) (false,bud,st,seen++[obs1 m l x y (w (bud-c))])=(.tup [.agg [Bo false,I bud,I st,.own 0,.t .nil,.t .nil],Bo true],[.arr 211 3 true ((seen++[(⟨y.Mask,(obs1 m l x y (w (bud-c))).Class,false⟩:Zg)]).map Zg.c)]):=by
     simp[runR,obs1]
    rw[res];refine⟨Z4z m,?_⟩;rw[wA (by omega) (by omega),if_neg (by omega),if_neg (by omega)];have hy2:info[(i:Int).toNat]?=some y:=by rw[Yh];exact hy
    by_cases g3:x.Kind=3
    ·rw[if_pos (by omega)];exact⟨_,hA m.Hash (by simp[mOp,g3]),y,hy2,by omega,rfl⟩
    ·rw[if_neg (by omega)];by_cases g4:x.Kind=4
     ·rw[if_pos (by omega)];exact⟨_,hA m.Merge (by simp[mOp,g4]),y,hy2,by omega,rfl⟩
     ·rw[if_neg (by omega),if_pos (by omega)];exact⟨_,hA m.Nested (by simp[mOp,show x.Kind=5 by omega]),y,hy2,by omega,rfl⟩
   ·rw[if_neg h3,if_neg h3];simp[runR,h0]
  ·rw[if_neg hc,if_neg hc];by_cases h3:3≤x.Kind
   ·rw[if_pos h3,if_pos h3];refine⟨y,by rw[Yh];exact hy,_,Zgh (by omega),_,Z4v _,by omega,?_⟩;rw[Yh];exact ih _ _ (seen++[obs2 l y i]) (by simp) (by simp;omega)
   ·rw[if_neg h3,if_neg h3];exact ih _ _ seen h0 (by omega)
theorem Zb0p:∀i,i≤p.Steps.length→∀(c st:Int),Zj2 m p false 0 0 info fr l false c st bud p.Steps p.Steps.length i=some (runR false (l.getD (p.Steps.length-1) ⟨[],[]⟩) (runF m l bud (p.Steps.drop i) (info.drop i) i c st [])):=by
 have hv:=R.P.val;have hl:=R.len;refine down _ ?_ ?_
 ·intro c st;obtain⟨e1,e2⟩:=R.last;refine Zbes ?_;rw[if_neg (by omega),Zwf,hl,show w ((p.Steps.length:Int)-1)=((p.Steps.length-1:Nat):Int) by rw[wA (by omega) (by omega)];omega];refine⟨by omega,_,e1,.inl ⟨_,_,Zbi0 e2,?_⟩⟩;simp[runR]
 ·intro i hi ih c st;obtain⟨x,y,hx,hy,hxi,k15,kr,krl,hL,hR⟩:=R.at_ hi;refine Zbes ?_;rw[if_pos (by omega),Zwe R hi hx hy,wS hi (by omega)];refine⟨by omega,x,by rw[Yh];exact hx,_,_,_,Z40 R (x:=x) hi hy hL hR krl,_,Zbjf R hm hi hx hy k15 hL hR krl,?_⟩;by_cases hc:w (bud-c)<stC m l x y i
  ·rw[if_pos hc,if_pos hc];by_cases h3:3≤x.Kind
   ·rw[if_pos h3,if_pos h3];have h5:0≤y.Right:=kr.2 h3;have e1:lfC l y i=ruS l y.Left:=by unfold lfC;rw[if_pos (krl h5)]
    have e2:rtC l y=ruS l y.Right:=by unfold rtC;rw[if_pos h5]
    rw[e1,e2];have hA:∀o,mOp m x.Kind=o→Zbu o (ruS l y.Left) (ruS l y.Right) (w (bud-c))=some (I (obs1 m l x y (w (bud-c))).Class,[]):=by
     intro o ho;have:=Zbjd (Zob hm x.Kind) (adm_op ha x.Kind) (b:=w (bud-c)) (R.ru y.Left) (R.ru y.Right);rw[ho]at this;rw[this];simp only[obs1,ho]
    have res:runR false (l.getD (p.Steps.length-1) ⟨[],[]⟩) (false,bud,st,[]++[obs1 m l x y (w (bud-c))])=(.tup [.agg [Bo false,I bud,I st,.own 0,.t .nil,.t .nil],Bo true],[.arr 211 3 true (([(⟨y.Mask,(obs1 m l x y (w (bud-c))).Class,false⟩:Zg)]).map Zg.c)]):=by
     simp[runR,obs1]
    rw[res];refine⟨Z4z m,?_⟩;rw[wA (by omega) (by omega),if_neg (by omega),if_neg (by omega)];have hy2:info[(i:Int).toNat]?=some y:=by rw[Yh];exact hy
    by_cases g3:x.Kind=3
    ·rw[if_pos (by omega)];exact⟨_,hA m.Hash (by simp[mOp,g3]),y,hy2,rfl⟩
    ·rw[if_neg (by omega)];by_cases g4:x.Kind=4
     ·rw[if_pos (by omega)];exact⟨_,hA m.Merge (by simp[mOp,g4]),y,hy2,rfl⟩
     ·rw[if_neg (by omega),if_pos (by omega)];exact⟨_,hA m.Nested (by simp[mOp,show x.Kind=5 by omega]),y,hy2,rfl⟩
   ·rw[if_neg h3,if_neg h3];simp[runR]
  ·rw[if_neg hc,if_neg hc];by_cases h3:3≤x.Kind
   ·rw[if_pos h3,if_pos h3];refine⟨y,by rw[Yh];exact hy,_,Zgh (by omega),_,Z4v _,?_⟩;rw[Yh];exact Zb0o R hm ha fr bud (i+1) hi _ _ [obs2 l y i] (by simp) (by simp)
   ·rw[if_neg h3,if_neg h3];exact ih _ _
omit R hm ha in
theorem Zgi{i:Nat}{k:Int}(hi:i<l.length)(h0:0≤k)(hk:k.toNat≤i):((l.take i).map (fun s:Za=>(s.Rows.length:Int))++[((l.getD i ⟨[],[]⟩).Rows.length:Int)])[k.toNat]?=some ((l.getD k.toNat ⟨[],[]⟩).Rows.length:Int):=by
 have e:(l.take i).map (fun s:Za=>(s.Rows.length:Int))++[((l.getD i ⟨[],[]⟩).Rows.length:Int)]=(l.take (i+1)).map fun s:Za=>(s.Rows.length:Int):=by
  rw[Ybp hi,Ybm,Ybq,Yf hi];rfl
 rw[e,Yce,Yba,if_pos (by omega),Zgh (by omega)];rfl
omit ha in
theorem x_l28{i:Nat}{x:Ze}{y:Zb}(hi:i<p.Steps.length)(hx:p.Steps[i]?=some x)(hy:info[i]?=some y)(hL:0≤y.Left→y.Left.toNat<i)(hR:0≤y.Right→y.Right.toNat<i)(hRL:0≤y.Right→0≤y.Left):Zko m p info ((l.take i).map (fun s:Za=>(s.Rows.length:Int))++[((l.getD i ⟨[],[]⟩).Rows.length:Int)]) i=some (I (stC m l x y i),[]):=by
 have hl:=R.len;have ru:∀k:Int,Zcl ((l.getD k.toNat ⟨[],[]⟩).Rows.length:Int)=some (I (ruS l k),[]):=fun k=>Z4y _ (by have:=R.n4096 k;omega)
 have h0:=Zgi (l:=l) (i:=i) (k:=(i:Int)) (by omega) (by omega) (by omega);refine Zbwo ⟨by omega,x,by rw[Yh];exact hx,_,Z33 m x.Kind,y,by rw[Yh];exact hy,?_⟩;unfold stC lfC rtC;by_cases h1:0≤y.Left
 ·rw[if_neg (by omega),if_pos h1];have hk:=hL h1;by_cases h2:0≤y.Right
  ·have hk2:=hR h2;rw[if_neg (by omega),if_pos h2];exact⟨h1,_,Zgi (l:=l) (by omega) h1 (by omega),_,ru y.Left,h2,_,Zgi (l:=l) (by omega) h2 (by omega),_,ru y.Right,_,h0,_,ru i,_,Zvn _ (Zob hm x.Kind) _ _ _,rfl⟩
  ·rw[if_pos (by omega),if_neg h2];exact⟨h1,_,Zgi (l:=l) (by omega) h1 (by omega),_,ru y.Left,_,h0,_,ru i,_,Zvn _ (Zob hm x.Kind) _ _ _,rfl⟩
 ·have h2:¬0≤y.Right:=fun h=>h1 (hRL h)
  rw[if_pos (by omega),if_neg h1,if_neg h2];exact⟨_,h0,_,ru i,_,Zvn _ (Zob hm x.Kind) _ _ _,rfl⟩
omit R hm ha in
theorem Zwg{i:Nat}(hi:i<l.length):(l.take i).map (fun s:Za=>(s.Rows.length:Int))++[((l.getD i ⟨[],[]⟩).Rows.length:Int)]=(l.take (i+1)).map fun s:Za=>(s.Rows.length:Int):=by
 rw[Ybp hi,Ybm,Ybq,Yf hi];rfl
theorem Zb0q:∀i,i≤p.Steps.length→∀(c st:Int) (seen:List Zg),seen≠[]→seen.length≤i→Zih m p false 0 0 l info ((l.take i).map fun s:Za=>(s.Rows.length:Int)) false c st seen bud i=some (runR true (l.getD (p.Steps.length-1) ⟨[],[]⟩) (runF m l bud (p.Steps.drop i) (info.drop i) i c st seen)):=by
 have hv:=R.P.val;have hl:=R.len;refine down _ ?_ ?_
 ·intro c st seen h0 hs;obtain⟨e1,e2⟩:=R.last;have hA:=Zbi5 e2;refine Zbgb ?_;rw[if_neg (by omega),Zwf,hl,show w ((p.Steps.length:Int)-1)=((p.Steps.length-1:Nat):Int) by rw[wA (by omega) (by omega)];omega];refine⟨by omega,_,e1,?_⟩;unfold ansF at hA;by_cases e:(l.getD (p.Steps.length-1) ⟨[],[]⟩).Rows=[]
  ·rw[if_pos e]at hA;refine .inr (.inl ⟨_,hA,?_⟩);simp[runR,e,h0,-List.getD_eq_getElem?_getD]
  ·rw[if_neg e]at hA;refine .inr (.inr ⟨_,_,hA,?_⟩);simp[runR,e,h0,-List.getD_eq_getElem?_getD]
 ·intro i hi ih c st seen h0 hs;obtain⟨x,y,hx,hy,hxi,k15,kr,krl,hL,hR⟩:=R.at_ hi;have hnl:((l.take i).map fun s:Za=>(s.Rows.length:Int)).length≤14:=by simp;omega
  have ru:∀k:Int,Zcl ((l.getD k.toNat ⟨[],[]⟩).Rows.length:Int)=some (I (ruS l k),[]):=fun k=>Z4y _ (by have:=R.n4096 k;omega)
  refine Zbgb ?_;rw[if_pos (by omega),Zwe R hi hx hy,wS hi (by omega)];refine⟨by omega,_,Zgh (by omega),by omega,?_⟩;rw[Yh];refine⟨_,x_l28 R hm hi hx hy hL hR krl,?_⟩;by_cases hc:w (bud-c)<stC m l x y i
  ·rw[if_pos hc,if_pos hc];refine⟨y,hy,?_⟩;by_cases h3:3≤x.Kind
   ·have h5:0≤y.Right:=kr.2 h3;have h6:=krl h5;rw[if_pos h5,if_pos h3];refine⟨x,hx,h6,_,Zgi (l:=l) (by omega) h6 (by have:=hL h6;omega),_,ru y.Left,_,Zgi (l:=l) (by omega) h5 (by have:=hR h5;omega),_,ru y.Right,_,Zbje hm ha (by simp[inR];omega) (R.ru _) (R.ru _),by omega,?_⟩;simp[runR,obs1]
   ·rw[if_neg (fun h=>h3 (kr.1 h)),if_neg h3];simp[runR,h0]
  ·rw[if_neg hc,if_neg hc];refine⟨y,hy,?_⟩;rw[Zwg (by omega)];by_cases h3:3≤x.Kind
   ·rw[if_pos (kr.2 h3),if_pos h3];have hg:=Zgi (l:=l) (i:=i) (k:=(i:Int)) (by omega) (by omega) (by omega);rw[Yh,Zwg (by omega)]at hg;refine⟨_,hg,_,Z4x _ (by have:=R.n4096 i;rw[Yh]at this;omega),by omega,?_⟩;exact ih _ _ (seen++[obs2 l y i]) (by simp) (by simp;omega)
   ·rw[if_neg (fun h=>h3 (kr.1 h)),if_neg h3];exact ih _ _ seen h0 (by omega)
theorem Zb0r:∀i,i≤p.Steps.length→∀(c st:Int),Zkq m p false 0 0 l info ((l.take i).map fun s:Za=>(s.Rows.length:Int)) false c st bud i=some (runR true (l.getD (p.Steps.length-1) ⟨[],[]⟩) (runF m l bud (p.Steps.drop i) (info.drop i) i c st [])):=by
 have hv:=R.P.val;have hl:=R.len;refine down _ ?_ ?_
 ·intro c st;obtain⟨e1,e2⟩:=R.last;have hA:=Zbi5 e2;refine Zbga ?_;rw[if_neg (by omega),Zwf,hl,show w ((p.Steps.length:Int)-1)=((p.Steps.length-1:Nat):Int) by rw[wA (by omega) (by omega)];omega];refine⟨by omega,_,e1,?_⟩;unfold ansF at hA;by_cases e:(l.getD (p.Steps.length-1) ⟨[],[]⟩).Rows=[]
  ·rw[if_pos e]at hA;refine .inr (.inl ⟨_,hA,?_⟩);simp[runR,e,-List.getD_eq_getElem?_getD]
  ·rw[if_neg e]at hA;refine .inr (.inr ⟨_,_,hA,?_⟩);simp[runR,e,-List.getD_eq_getElem?_getD]
 ·intro i hi ih c st;obtain⟨x,y,hx,hy,hxi,k15,kr,krl,hL,hR⟩:=R.at_ hi;have hnl:((l.take i).map fun s:Za=>(s.Rows.length:Int)).length≤14:=by simp;omega
  have ru:∀k:Int,Zcl ((l.getD k.toNat ⟨[],[]⟩).Rows.length:Int)=some (I (ruS l k),[]):=fun k=>Z4y _ (by have:=R.n4096 k;omega)
  refine Zbga ?_;rw[if_pos (by omega),Zwe R hi hx hy,wS hi (by omega)];refine⟨by omega,_,Zgh (by omega),by omega,?_⟩;rw[Yh];refine⟨_,x_l28 R hm hi hx hy hL hR krl,?_⟩;by_cases hc:w (bud-c)<stC m l x y i
  ·rw[if_pos hc,if_pos hc];refine⟨y,hy,?_⟩;by_cases h3:3≤x.Kind
   ·have h5:0≤y.Right:=kr.2 h3;have h6:=krl h5;rw[if_pos h5,if_pos h3];refine⟨x,hx,h6,_,Zgi (l:=l) (by omega) h6 (by have:=hL h6;omega),_,ru y.Left,_,Zgi (l:=l) (by omega) h5 (by have:=hR h5;omega),_,ru y.Right,_,Zbje hm ha (by simp[inR];omega) (R.ru _) (R.ru _),?_⟩;simp[runR,obs1]
   ·rw[if_neg (fun h=>h3 (kr.1 h)),if_neg h3];simp[runR]
  ·rw[if_neg hc,if_neg hc];refine⟨y,hy,?_⟩;rw[Zwg (by omega)];by_cases h3:3≤x.Kind
   ·rw[if_pos (kr.2 h3),if_pos h3];have hg:=Zgi (l:=l) (i:=i) (k:=(i:Int)) (by omega) (by omega) (by omega);rw[Yh,Zwg (by omega)]at hg;refine⟨_,hg,_,Z4x _ (by have:=R.n4096 i;rw[Yh]at this;omega),?_⟩;exact Zb0q R hm ha bud (i+1) hi _ _ [obs2 l y i] (by simp) (by simp)
   ·rw[if_neg (fun h=>h3 (kr.1 h)),if_neg h3];exact ih _ _
end
open Classical in
noncomputable def rwbF(m:Zk)(d:Zl)(q:Zd)(p:Plan)(bud:Int):Option (Za×(Bool×Int×Int×List Zg)) :=
 match Z8 q.Zi q.Atoms p.Steps with
 |none=>none
 |some info=>if qFor d q=true∧Zdi m∧inR bud 0 1000000000000=true then some ((strm d q p.Steps info).getD (p.Steps.length-1) ⟨[],[]⟩,runF m (strm d q p.Steps info) bud p.Steps info 0 0 0 [])else none
def noRun:AV×List Blk:=(.tup [.agg [Bo false,I 0,I 0,.t .nil,.t .nil,.t .nil],Bo false],[])
def rwbR(nl:Bool):Option (Za×(Bool×Int×Int×List Zg))→AV×List Blk
 |none=>noRun
 |some (s,r)=>runR nl s r
theorem Zb0s{m:Zk}(hm:LeM m){d:Zl}(hd:LeD d){q:Zd}(hq:LeQ q)(p:Plan)(bud:Int):Zj1 m d q p bud=some (rwbR false (rwbF m d q p bud)):=by
 unfold rwbF
 cases e:Z8 q.Zi q.Atoms p.Steps with
 |none=>exact Z3n (.inl ⟨Zbiw hd hq (.inl e),rfl⟩)
 |some info =>
  dsimp only;have P:PI q p info:=⟨e⟩;by_cases h:qFor d q=true
  ·obtain⟨fr,hx⟩:=Zbz5 hd hq h P;have hg:=Z4u h P;have R:RunI q p info (strm d q p.Steps info):=⟨P,hg.1,hg.2⟩;refine Z3n (.inr ⟨_,_,_,hx,_,Zbgr m hm,?_⟩);by_cases ha:Zdi m
   ·rw[if_pos (by simpa using ha)];refine⟨_,Zcv _ _ _,?_⟩;rcases tf (inR bud 0 1000000000000)with hb|hb
    ·rw[hb,if_neg (by decide),if_neg (by simp)];rfl
    ·rw[hb,if_pos rfl,if_pos ⟨h,ha,rfl⟩];have:=Zb0p R hm ha fr bud 0 (Ya _) 0 0;simpa[rwbR]using this
   ·rw[if_neg (by simpa using ha),if_neg (fun hh=>ha hh.2.1)];rfl
  ·rw[if_neg (fun hh=>h hh.1)];exact Z3n (.inl ⟨Zbiw hd hq (.inr (by simpa using h)),rfl⟩)
theorem Zb0t{m:Zk}(hm:LeM m){d:Zl}(hd:LeD d){q:Zd}(hq:LeQ q)(p:Plan)(bud:Int):Zg6 m d q p bud=some (rwbR true (rwbF m d q p bud)):=by
 unfold rwbF
 cases e:Z8 q.Zi q.Atoms p.Steps with
 |none =>
  obtain⟨info,hx⟩:=Zbix hd hq (p:=p) (.inl e);refine Z3w ⟨_,_,_,hx,?_⟩
  rw[if_neg (by decide)];rfl
 |some info =>
  dsimp only;have P:PI q p info:=⟨e⟩;by_cases h:qFor d q=true
  ·have hx:=Zbz6 hd hq h P;have hg:=Z4u h P;have R:RunI q p info (strm d q p.Steps info):=⟨P,hg.1,hg.2⟩;refine Z3w ⟨_,_,_,hx,?_⟩;rw[if_pos rfl];refine⟨_,Z34 m hm,?_⟩;by_cases ha:Zdi m
   ·rw[if_pos (by simpa using ha)];refine⟨_,Zc4 _ _ _,?_⟩;rcases tf (inR bud 0 1000000000000)with hb|hb
    ·rw[hb,if_neg (by decide),if_neg (by simp)];rfl
    ·rw[hb,if_pos rfl,if_pos ⟨h,ha,rfl⟩];have:=Zb0r R hm ha bud 0 (Ya _) 0 0;simpa[rwbR]using this
   ·rw[if_neg (by simpa using ha),if_neg (fun hh=>ha hh.2.1)];rfl
  ·obtain⟨info',hx⟩:=Zbix hd hq (p:=p) (.inr (by simpa using h));rw[if_neg (fun hh=>h hh.1)];refine Z3w ⟨_,_,_,hx,?_⟩;rw[if_neg (by decide)];rfl
theorem Zbjg(nl:Bool)(x:Option (Za×(Bool×Int×Int×List Zg)))(Q:AV×List Blk→Prop)
  (h1:∀(f:Bool) (c st:Int) (g:Bool),Q (.tup [.agg [Bo f,I c,I st,.t .nil,.t .nil,.t .nil],Bo g],[]))
  (h2:∀(c st:Int) (o:List Zg),Q (.tup [.agg [Bo false,I c,I st,.own 0,.t .nil,.t .nil],Bo true],[.arr 211 3 true (o.map Zg.c)]))
  (h3:nl=true→∀(c st:Int) (v:List Int),Q (.tup [.agg [Bo true,I c,I st,.t .nil,.own 0,.t .nil],Bo true],[.arr 3 1 true (v.map ic)]))
  (h4:nl=true→∀(c st:Int) (o:List Zg) (v:List Int),Q (.tup [.agg [Bo true,I c,I st,.own 0,.own 1,.t .nil],Bo true],[.arr 211 3 true (o.map Zg.c),.arr 3 1 true (v.map ic)]))
  (h5:∀(c st:Int) (v:List Int) (r:List (List Int)),Q (.tup [.agg [Bo true,I c,I st,.t .nil,.own 0,.own 1],Bo true],[.arr 3 1 true (v.map ic),.arr 30 1 true (r.map isc)]))
  (h6:∀(c st:Int) (o:List Zg) (v:List Int) (r:List (List Int)),Q (.tup [.agg [Bo true,I c,I st,.own 0,.own 1,.own 2],Bo true],[.arr 211 3 true (o.map Zg.c),.arr 3 1 true (v.map ic),.arr 30 1 true (r.map isc)])) :
  Q (rwbR nl x):=by
 match x with
 |none=>exact h1 _ _ _ _
 |some (s,false,c,st,seen) =>
  by_cases e:seen=[]
  ·simp only[rwbR,runR,if_pos e];exact h1 _ _ _ _
  ·simp only[rwbR,runR,if_neg e];exact h2 _ _ _
 |some (s,true,c,st,seen) =>
  by_cases k:nl=true∧s.Rows=[]
  ·by_cases e:seen=[]
   ·simp only[rwbR,runR,if_pos e,if_pos k];exact h3 k.1 _ _ _
   ·simp only[rwbR,runR,if_neg e,if_pos k];exact h4 k.1 _ _ _ _
  ·by_cases e:seen=[]
   ·simp only[rwbR,runR,if_pos e,if_neg k];exact h5 _ _ _ _
   ·simp only[rwbR,runR,if_neg e,if_neg k];exact h6 _ _ _ _ _
def Zrz(q:Zd)(p:Plan)(mask:Int):Option (List Ze):=match Z8 q.Zi q.Atoms p.Steps with
 |some info=>(spl info mask (jst p.Steps 0)).map (subp info p.Steps)
 |none=>none
theorem Zbjh(q:Zd)(p:Plan)(mask:Int):Zoa q p mask=match Zrz q p mask with|some l=>yesP l|none=>noP:=by
 unfold Zoa Zrz
 cases Z8 q.Zi q.Atoms p.Steps with
 |none=>rfl
 |some info=>simp only;cases spl info mask (jst p.Steps 0)<;>rfl
noncomputable def spF(m:Zk)(d:Zl)(q:Zd)(p:Plan)(mask bud:Int):Option (Za×(Bool×Int×Int×List Zg)):=match Zrz q p mask with
 |some l=>rwbF m d q ⟨l⟩ bud
 |none=>none
theorem Zb0u{m:Zk}(hm:LeM m){d:Zl}(hd:LeD d){q:Zd}(hq:LeQ q)(p:Plan)(mask bud:Int):Zh8 m d q p mask bud=some (rwbR false (spF m d q p mask bud)):=by
 have hS:=Zb0j q hq p mask;rw[Zbjh]at hS;refine Zbu6 ?_;unfold spF
 cases e:Zrz q p mask with
 |none=>rw[e]at hS;exact .inl ⟨hS,rfl⟩
 |some l =>
  rw[e]at hS;refine .inr ⟨l,hS,?_⟩;have hR:=Zb0s hm hd hq ⟨l⟩ bud;dsimp only;refine Zbjg false (rwbF m d q ⟨l⟩ bud) (fun r=>rwbR false (rwbF m d q ⟨l⟩ bud)=r→_) ?_ ?_ ?_ ?_ ?_ ?_ rfl
  ·intro f c st g e;rw[e]at hR⊢;exact .inl ⟨_,_,_,_,hR,rfl⟩
  ·intro c st o e;rw[e]at hR⊢;exact .inr (.inl ⟨_,_,_,_,hR,rfl⟩)
  ·intro h;cases h
  ·intro h;cases h
  ·intro c st v r e;rw[e]at hR⊢;exact .inr (.inr (.inl ⟨_,_,_,_,_,hR,rfl⟩))
  ·intro c st o v r e;rw[e]at hR⊢;exact .inr (.inr (.inr ⟨_,_,_,_,_,_,hR,rfl⟩))
theorem Zb0v{m:Zk}(hm:LeM m){d:Zl}(hd:LeD d){q:Zd}(hq:LeQ q)(p:Plan)(mask bud:Int):Zf8 m d q p mask bud=some (rwbR true (spF m d q p mask bud)):=by
 have hS:=Zb0l q hq p mask;rw[Zbjh]at hS;refine Zbwv ?_;unfold spF
 cases e:Zrz q p mask with
 |none=>rw[e]at hS;exact .inr ⟨hS,rfl⟩
 |some l =>
  rw[e]at hS;refine .inl ⟨l,hS,?_⟩;have hR:=Zb0t hm hd hq ⟨l⟩ bud;dsimp only;refine Zbjg true (rwbF m d q ⟨l⟩ bud) (fun r=>rwbR true (rwbF m d q ⟨l⟩ bud)=r→_) ?_ ?_ ?_ ?_ ?_ ?_ rfl
  ·intro f c st g e;rw[e]at hR⊢;exact .inl ⟨_,_,_,_,hR,rfl⟩
  ·intro c st o e;rw[e]at hR⊢;exact .inr (.inl ⟨_,_,_,_,hR,rfl⟩)
  ·intro _ c st v e;rw[e]at hR⊢;exact .inr (.inr (.inl ⟨_,_,_,_,hR,rfl⟩))
  ·intro _ c st o v e;rw[e]at hR⊢;exact .inr (.inr (.inr (.inr (.inl ⟨_,_,_,_,_,hR,rfl⟩))))
  ·intro c st v r e;rw[e]at hR⊢;exact .inr (.inr (.inr (.inl ⟨_,_,_,_,_,hR,rfl⟩)))
  ·intro c st o v r e;rw[e]at hR⊢;exact .inr (.inr (.inr (.inr (.inr ⟨_,_,_,_,_,_,hR,rfl⟩))))
def LeZ(b:Box):Prop:=b.Low.length≤4294967296∧b.High.length≤4294967296
theorem LeZ.x{b:Box}(h:LeZ b):LeX b:=by obtain⟨h1,h2⟩:=h;exact⟨by omega,by omega⟩
def bxR(lo hi:List Int):List Blk:=[.arr 3 1 true (lo.map ic),.arr 3 1 true (hi.map ic)]
theorem Zwh(b:Box)(h:LeZ b):Zg7 b=some (.agg [.own 0,.own 1],bxR b.Low b.High):=by
 obtain⟨h1,h2⟩:=h;exact Zbww ⟨_,Zim _ (by omega),_,Zim _ (by omega),rfl⟩
theorem Zwi(b:Box)(h:LeZ b):Zds b=some (.agg [.own 0,.own 1],bxR b.Low b.High):=by
 obtain⟨h1,h2⟩:=h;exact Zbxe ⟨by omega,by omega,rfl⟩
theorem Zoc{c:Prop}[Decidable c]{a b:Prop}(h1:c→a)(h2:¬c→b):if c then a else b:=by
 split
 ·exact h1 ‹_›
 ·exact h2 ‹_›
theorem full16(n:Int)(qa:List Atom):0≤Zfa n qa∧Zfa n qa≤15:=by
 unfold Zfa;by_cases e:Zv n qa=true
 ·rw[if_pos e];obtain⟨a,b,c,d⟩:=Zs8 e;rw[b];rcases a with a|a|a|a<;>rw[a]<;>decide
 ·rw[if_neg e];omega
theorem Zbji(q:Zd)(hq:LeQ q)(b:Box)(h:LeZ b):Znj q b=some (Bo (Zcs q.Zi q.Atoms b.Low b.High),[]):=by
 have hf:=full16 q.Zi q.Atoms;refine Zbw2 ⟨_,Zvk b h.x,?_⟩;unfold Zcs;rcases tf (Zcr b.Low b.High)with e|e
 ·rw[e,if_neg (by decide)];rfl
 ·rw[e,if_pos rfl];refine⟨_,Zbxq q hq,?_⟩;rw[wA (by omega) (by omega)];simp
theorem opn_at{lo hi:List Int}{k:Int}(h1:lo.length=hi.length)(h2:k.toNat<lo.length):lo[k.toNat]?=some lo[k.toNat]∧hi[k.toNat]?=some (hi[k.toNat]'(by omega))∧opn lo hi k=decide (lo[k.toNat]<hi[k.toNat]'(by omega)):=by
 have m3:k.toNat<hi.length:=by omega
 exact⟨Yf h2,Yf m3,by simp[opn,Yf h2,Yf m3]⟩
theorem Zb0w(lo hi:List Int)(info:List Zb)(js:List Int)(hj:∀i∈js,0≤i∧i.toNat<info.length)(hjl:js.length≤1000)(h1:lo.length=hi.length)(hm:∀y∈info,0≤y.Mask∧y.Mask.toNat<lo.length):∀k,k≤js.length →
  Zrc ⟨lo,hi⟩ info js js.length k=some (I ((tj lo hi info (js.drop k)).getD 0),[]):=by
 refine down _ ?_ ?_
 ·refine Zbf9 ?_;rw[if_neg (by omega),Ym];rfl
 ·intro k hk ih;obtain⟨j1,j2⟩:=hj _ (List.getElem_mem hk);obtain⟨m1,m2⟩:=hm _ (List.getElem_mem j2);obtain⟨o1,o2,o3⟩:=opn_at h1 m2;refine Zbf9 ?_;rw[if_pos (by omega),wS hk (by omega)];refine⟨by omega,_,List.getElem?_eq_getElem hk,j1,_,List.getElem?_eq_getElem j2,m1,_,o1,_,o2,?_⟩;rw[List.drop_eq_getElem_cons hk,tj,List.getElem?_eq_getElem j2];dsimp only;rw[o3];split
  ·rename_i c;rw[if_pos (by simpa using c)];rfl
  ·rename_i c;rw[if_neg (by simpa using c)];exact ih
theorem Zb0x(q:Zd)(hq:LeQ q)(p:Plan)(b:Box)(h:LeZ b):Zrb q p b=some (I (Zck q.Zi q.Atoms p.Steps b.Low b.High),[]):=by
 have q1:=Znx q p hq;refine Zbw3 ?_;unfold Zck
 cases he:Z8 q.Zi q.Atoms p.Steps with
 |none=>rw[he]at q1;exact .inl ⟨q1,rfl⟩
 |some info =>
  rw[he]at q1;obtain⟨l1,l2,l3,l4⟩:=Zf2 he;refine .inr ⟨info,q1,_,Zbji q hq b h,?_⟩;rcases tf (Zcs q.Zi q.Atoms b.Low b.High)with e|e
  ·rw[e,if_neg (by decide)];simp only[e];rfl
  ·obtain⟨m1,m2⟩:=Z8d he e;rw[e,if_pos rfl];simp only[e,if_true];refine⟨_,Zbja p (by omega),?_⟩;have hjl:=Zye p.Steps 0;have:=Zb0w b.Low b.High info (jst p.Steps 0) (fun i hi=>by have:=Zta hi;omega) (by omega) m1 m2 0 (Ya _);have te:=tj_eq (lo:=b.Low) (hi:=b.High) l2 (Zs9 he).2 0 (Ya _);simp only[Yk]at te this;rw[te]at this;rcases tf (anyT b.Low b.High info)with e4|e4
   ·rw[e4,if_neg (by decide)]at this;rw[Z8c e4];exact this
   ·rw[e4,if_pos rfl]at this;exact this
theorem Zb0y(lo hi:List Int)(info:List Zb)(hil:info.length≤1000)(h1:lo.length=hi.length)(hm:∀y∈info,0≤y.Mask∧y.Mask.toNat<lo.length):∀k,k≤info.length →
  Znm ⟨lo,hi⟩ info k=some (I (tgt lo hi (info.drop k)),[]):=by
 refine down _ ?_ ?_
 ·refine Zbgg ?_;rw[if_neg (by omega),Ym];rfl
 ·intro k hk ih;obtain⟨m1,m2⟩:=hm _ (Yd hk);obtain⟨o1,o2,o3⟩:=opn_at h1 m2;refine Zbgg ?_;rw[if_pos (by omega),wS hk (by omega)];refine⟨by omega,_,Yf hk,?_⟩;rw[Yg hk,tgt];by_cases c:0≤info[k].Right
  ·rw[if_pos (by simpa using c)];refine⟨m1,_,o1,_,o2,?_⟩;rw[o3];split
   ·rename_i c2;rw[if_pos (by simpa[c]using c2)]
   ·rename_i c2;rw[if_neg (by simpa[c]using c2)];exact ih
  ·rw[if_neg (by simpa using c),if_neg (by simp;omega)];exact ih
theorem Zb0z(q:Zd)(hq:LeQ q)(p:Plan)(b:Box)(h:LeZ b):Zrk q p b=some (I (Zck q.Zi q.Atoms p.Steps b.Low b.High),[]):=by
 have q1:=Znw q p hq;have hf:=full16 q.Zi q.Atoms;refine Zbxf ?_;unfold Zck
 cases he:Z8 q.Zi q.Atoms p.Steps with
 |none =>
  rw[he]at q1;refine⟨[],false,q1,?_⟩
  rw[if_neg (by decide)]
 |some info =>
  rw[he]at q1;obtain⟨l1,l2,l3,l4⟩:=Zf2 he;refine⟨info,true,q1,?_⟩;rw[if_pos rfl];refine⟨_,Zrr b h.x,?_⟩;rcases tf (Zcr b.Low b.High)with e|e
  ·rw[e,if_neg (by decide)];simp[Zcs,e]
  ·rw[e,if_pos rfl];refine⟨_,Zbgk q hq,?_⟩;rw[wA (by omega) (by omega)];by_cases c:(b.Low.length:Int)=Zfa q.Zi q.Atoms+1
   ·have e2:Zcs q.Zi q.Atoms b.Low b.High=true:=by simp[Zcs,e,c]
    obtain⟨m1,m2⟩:=Z8d he e2;rw[if_pos c];simp only[e2,if_true];exact Zb0y b.Low b.High info (by omega) m1 m2 0 (Ya _)
   ·have e2:Zcs q.Zi q.Atoms b.Low b.High=false:=by simp[Zcs,e,c]
    rw[if_neg c];simp[e2]
def aoF(lo hi:List Int)(x:Zg):Bool×List Int×List Int :=
 if Zcr lo hi=true∧inR x.Mask 0 (lo.length-1)=true then
  match lo[x.Mask.toNat]?,hi[x.Mask.toNat]? with
  |some e,some f =>
   if Zcr (lo.set x.Mask.toNat (if e<x.Class then x.Class else e)) (if x.Exact=true then hi.set x.Mask.toNat (if x.Class<f then x.Class else f)else hi)=true then(true,lo.set x.Mask.toNat (if e<x.Class then x.Class else e),if x.Exact=true then hi.set x.Mask.toNat (if x.Class<f then x.Class else f)else hi)else(false,lo,hi)
  |_,_=>(false,lo,hi)
 else(false,lo,hi)
def aoR(r:Bool×List Int×List Int):AV×List Blk:=(.tup [.agg [.own 0,.own 1],Bo r.1],bxR r.2.1 r.2.2)
theorem Zb00(b:Box)(h:LeZ b)(x:Zg):Zu7 b x=some (aoR (aoF b.Low b.High x)):=by
 obtain⟨h1,h2⟩:=h;refine Zbw6 ⟨_,_,Zwh b ⟨h1,h2⟩,_,Zvk b (LeZ.x ⟨h1,h2⟩),?_⟩;unfold aoF;rcases tf (Zcr b.Low b.High)with e|e
 ·rw[e,if_neg (by decide),if_neg (by simp)];rfl
 ·rw[e,if_pos rfl];refine⟨_,Zcv _ _ _,?_⟩;rw[show w ((b.Low.length:Int)-1)=(b.Low.length:Int)-1 from Zq (by omega) (by omega)];rcases tf (inR x.Mask 0 (b.Low.length-1))with f|f
  ·rw[f,if_neg (by decide),if_neg (by simp)];rfl
  ·rw[f,if_pos rfl,if_pos ⟨rfl,rfl⟩];simp only[inR,Ye,decide_eq_true_eq]at f;have hl:b.Low.length=b.High.length:=by
    simp only[Zcr,Ye]at e;exact(Zyc e.2).symm
   have g1:b.Low[x.Mask.toNat]?=some (b.Low[x.Mask.toNat]'(by omega)):=List.getElem?_eq_getElem (by omega);have g2:b.High[x.Mask.toNat]?=some (b.High[x.Mask.toNat]'(by omega)):=List.getElem?_eq_getElem (by omega);rw[g1,g2];refine⟨f.1,_,rfl,?_⟩;dsimp only;by_cases k:x.Exact=true
   ·rw[if_pos k];refine⟨_,rfl,_,Zvk ⟨_,_⟩ (LeZ.x ⟨by simp only[Ybl];omega,by simp only[Ybl];omega⟩),?_⟩;simp only[if_pos k];refine Zoc ?_ ?_
    ·intro c;rw[if_pos c];rfl
    ·intro c;rw[if_neg c];rfl
   ·rw[if_neg k];refine⟨_,Zvk ⟨_,_⟩ (LeZ.x ⟨by simp only[Ybl];omega,h2⟩),?_⟩;simp only[if_neg k];refine Zoc ?_ ?_
    ·intro c;rw[if_pos c];rfl
    ·intro c;rw[if_neg c];rfl
theorem Zb01(b:Box)(h:LeZ b)(x:Zg):Zvc b x=some (aoR (aoF b.Low b.High x)):=by
 obtain⟨h1,h2⟩:=h;refine Zbxi ⟨_,_,Zwi b ⟨h1,h2⟩,_,Zrr b (LeZ.x ⟨h1,h2⟩),?_⟩;unfold aoF;rcases tf (Zcr b.Low b.High)with e|e
 ·rw[e,if_neg (by decide),if_neg (by simp)];rfl
 ·rw[e,if_pos rfl];refine⟨_,Zc4 _ _ _,?_⟩;rw[show w ((b.Low.length:Int)-1)=(b.Low.length:Int)-1 from Zq (by omega) (by omega)];rcases tf (inR x.Mask 0 (b.Low.length-1))with f|f
  ·rw[f,if_neg (by decide),if_neg (by simp)];rfl
  ·rw[f,if_pos rfl,if_pos ⟨rfl,rfl⟩];simp only[inR,Ye,decide_eq_true_eq]at f;have hl:b.Low.length=b.High.length:=by
    simp only[Zcr,Ye]at e;exact(Zyc e.2).symm
   have g1:b.Low[x.Mask.toNat]?=some (b.Low[x.Mask.toNat]'(by omega)):=List.getElem?_eq_getElem (by omega);have g2:b.High[x.Mask.toNat]?=some (b.High[x.Mask.toNat]'(by omega)):=List.getElem?_eq_getElem (by omega);rw[g1,g2];refine⟨f.1,_,rfl,?_⟩;dsimp only;by_cases k:x.Exact=true
   ·rw[if_pos k];refine⟨_,rfl,_,Zrr ⟨_,_⟩ (LeZ.x ⟨by simp only[Ybl];omega,by simp only[Ybl];omega⟩),?_⟩;simp only[if_pos k];refine Zoc ?_ ?_
    ·intro c;rw[if_pos c];rfl
    ·intro c;rw[if_neg c];rfl
   ·rw[if_neg k];refine⟨_,Zrr ⟨_,_⟩ (LeZ.x ⟨by simp only[Ybl];omega,h2⟩),?_⟩;simp only[if_neg k];refine Zoc ?_ ?_
    ·intro c;rw[if_pos c];rfl
    ·intro c;rw[if_neg c];rfl
theorem Z41(lo hi:List Int)(x:Zg):aoF lo hi x=(false,lo,hi)∨∃lo' hi',aoF lo hi x=(true,lo',hi')∧lo'.length=lo.length∧hi'.length=hi.length:=by
 unfold aoF;by_cases c:Zcr lo hi=true∧inR x.Mask 0 (lo.length-1)=true
 ·rw[if_pos c]
  cases lo[x.Mask.toNat]? with
  |none=>exact .inl rfl
  |some e =>
   cases hi[x.Mask.toNat]? with
   |none=>exact .inl rfl
   |some f =>
    dsimp only;have hl:(if x.Exact=true then hi.set x.Mask.toNat (if x.Class<f then x.Class else f)else hi).length=hi.length:=by
     by_cases k:x.Exact=true
     ·rw[if_pos k,Ybl]
     ·rw[if_neg k]
    revert hl;generalize (if x.Exact=true then hi.set x.Mask.toNat (if x.Class<f then x.Class else f)else hi)=h';generalize (if e<x.Class then x.Class else e)=e';intro hl;by_cases k:Zcr (lo.set x.Mask.toNat e') h'=true
    ·rw[if_pos k];exact .inr ⟨_,_,rfl,by rw[Ybl],hl⟩
    ·rw[if_neg k];exact .inl rfl
 ·rw[if_neg c];exact .inl rfl
def laF:List Zg→List Int→List Int→Int→List Int×List Int×Int
 |[],lo,hi,n=>(lo,hi,n)
 |x::xs,lo,hi,n=>if(aoF lo hi x).1=true then laF xs (aoF lo hi x).2.1 (aoF lo hi x).2.2 (w (n+1))else laF xs lo hi n
theorem Zwj:∀(l:List Zg) (lo hi:List Int) (n:Int),(laF l lo hi n).1.length=lo.length∧(laF l lo hi n).2.1.length=hi.length
 |[],_,_,_=>⟨rfl,rfl⟩
 |x::xs,lo,hi,n=>by
  unfold laF;rcases Z41 lo hi x with e|⟨lo',hi',e,e1,e2⟩
  ·rw[e,if_neg (by simp)];exact Zwj xs lo hi n
  ·rw[e,if_pos rfl];have:=Zwj xs lo' hi' (w (n+1));exact⟨this.1.trans e1,this.2.trans e2⟩
theorem Zbjj{l:List Zg}{i:Nat}(hi':i<l.length)(lo hi:List Int)(n:Int):laF (l.drop i) lo hi n=if(aoF lo hi l[i]).1=true then laF (l.drop (i+1)) (aoF lo hi l[i]).2.1 (aoF lo hi l[i]).2.2 (w (n+1))else laF (l.drop (i+1)) lo hi n:=by
 rw[Yg hi',laF]
def laR(r:List Int×List Int×Int):AV×List Blk:=(.tup [.agg [.own 0,.own 1],I r.2.2],bxR r.1 r.2.1)
theorem Zb02(l:List Zg)(hl:l.length≤1000):∀i,i≤l.length→∀(lo hi:List Int) (n:Int),LeZ ⟨lo,hi⟩→Znl lo hi n l l.length i=some (laR (laF (l.drop i) lo hi n)):=by
 refine down _ ?_ ?_
 ·intro lo hi n h;refine Zbgc ?_;rw[if_neg (by omega),Ym];rfl
 ·intro i hi0 ih lo hi n h;refine Zbgc ?_;rw[if_pos (by omega),wS hi0 (by omega)];have hA:=Zb00 ⟨lo,hi⟩ h l[i];rw[Zbjj hi0];refine⟨by omega,_,Yf hi0,?_⟩;rcases Z41 lo hi l[i]with e|⟨lo',hi',e,e1,e2⟩
  ·rw[e,if_neg (by simp)];rw[e]at hA;refine⟨lo,hi,false,hA,?_⟩;rw[if_neg (by decide)];exact ih _ _ _ h
  ·rw[e,if_pos rfl];rw[e]at hA;refine⟨lo',hi',true,hA,?_⟩;rw[if_pos rfl];exact ih _ _ _ ⟨by show lo'.length≤_;have:=h.1;simp only at this;omega,by show hi'.length≤_;have:=h.2;simp only at this;omega⟩
theorem Zb03(l:List Zg)(hl:l.length≤1000):∀i,i≤l.length→∀(lo hi:List Int) (n:Int),LeZ ⟨lo,hi⟩→Znn lo hi l n i=some (laR (laF (l.drop i) lo hi n)):=by
 refine down _ ?_ ?_
 ·intro lo hi n h;refine Zbgh ?_;rw[if_neg (by omega),Ym];rfl
 ·intro i hi0 ih lo hi n h;refine Zbgh ?_;rw[if_pos (by omega),wS hi0 (by omega)];have hA:=Zb01 ⟨lo,hi⟩ h l[i];rw[Zbjj hi0];refine⟨by omega,_,Yf hi0,?_⟩;rcases Z41 lo hi l[i]with e|⟨lo',hi',e,e1,e2⟩
  ·rw[e,if_neg (by simp)];rw[e]at hA;refine⟨lo,hi,false,hA,?_⟩;rw[if_neg (by decide)];exact ih _ _ _ h
  ·rw[e,if_pos rfl];rw[e]at hA;refine⟨lo',hi',true,hA,?_⟩;rw[if_pos rfl];exact ih _ _ _ ⟨by show lo'.length≤_;have:=h.1;simp only at this;omega,by show hi'.length≤_;have:=h.2;simp only at this;omega⟩
theorem Zb04(b:Box)(h:LeZ b)(l:List Zg)(hl:l.length≤1000):Zrf b l=some (laR (laF l b.Low b.High 0)) :=
 Zbw7 ⟨_,_,Zwh b h,Zb02 l hl 0 (Ya _) _ _ _ h⟩
theorem Zb05(b:Box)(h:LeZ b)(l:List Zg)(hl:l.length≤1000):Zkt b l=some (laR (laF l b.Low b.High 0)) :=
 Zbxj ⟨_,_,Zwi b h,Zb03 l hl 0 (Ya _) _ _ _ h⟩
theorem Zb06(b:Box)(h:LeZ b):Znk b=some (laR (laF [] b.Low b.High 0)) :=
 Zbw5 ⟨_,_,Zwh b h,Zbw4 (by rw[if_neg (by omega)];rfl)⟩
theorem Zb07(b:Box)(h:LeZ b):Zks b=some (laR (laF [] b.Low b.High 0)) :=
 Zbxh ⟨_,_,Zwi b h,Zbxg (by rw[if_neg (by omega)];rfl)⟩
def dcs:Option (Za×(Bool×Int×Int×List Zg))→Bool×Int×List Zg
 |none=>(false,0,[])
 |some (s,f,c,st,o)=>(f,c,o)
theorem rw_impl(x:Option (Za×(Bool×Int×Int×List Zg))) :
  (∃st g,rwbR false x=(.tup [.agg [Bo (dcs x).1,I (dcs x).2.1,I st,.t .nil,.t .nil,.t .nil],Bo g],[])∧(dcs x).2.2=[]) ∨
  (∃st,rwbR false x=(.tup [.agg [Bo (dcs x).1,I (dcs x).2.1,I st,.own 0,.t .nil,.t .nil],Bo true],[.arr 211 3 true ((dcs x).2.2.map Zg.c)])) ∨
  (∃(st:Int) (v:List Int) (r:List (List Int)),rwbR false x=(.tup [.agg [Bo (dcs x).1,I (dcs x).2.1,I st,.t .nil,.own 0,.own 1],Bo true],[.arr 3 1 true (v.map ic),.arr 30 1 true (r.map isc)])∧(dcs x).2.2=[]) ∨
  (∃(st:Int) (v:List Int) (r:List (List Int)),rwbR false x=(.tup [.agg [Bo (dcs x).1,I (dcs x).2.1,I st,.own 0,.own 1,.own 2],Bo true],[.arr 211 3 true ((dcs x).2.2.map Zg.c),.arr 3 1 true (v.map ic),.arr 30 1 true (r.map isc)])):=by
 match x with
 |none=>exact .inl ⟨_,_,rfl,rfl⟩
 |some (s,false,c,st,o) =>
  by_cases e:o=[]
  ·exact .inl ⟨st,true,by simp[rwbR,runR,dcs,e],e⟩
  ·exact .inr (.inl ⟨st,by simp[rwbR,runR,dcs,e]⟩)
 |some (s,true,c,st,o) =>
  by_cases e:o=[]
  ·exact .inr (.inr (.inl ⟨st,_,_,by simp[rwbR,runR,dcs,e];exact⟨rfl,rfl⟩,e⟩))
  ·exact .inr (.inr (.inr ⟨st,_,_,by simp[rwbR,runR,dcs,e];exact⟨rfl,rfl⟩⟩))
theorem rw_spec(x:Option (Za×(Bool×Int×Int×List Zg))) :
  (∃st g,rwbR true x=(.tup [.agg [Bo (dcs x).1,I (dcs x).2.1,I st,.t .nil,.t .nil,.t .nil],Bo g],[])∧(dcs x).2.2=[]) ∨
  (∃st,rwbR true x=(.tup [.agg [Bo (dcs x).1,I (dcs x).2.1,I st,.own 0,.t .nil,.t .nil],Bo true],[.arr 211 3 true ((dcs x).2.2.map Zg.c)])) ∨
  (∃(st:Int) (v:List Int),rwbR true x=(.tup [.agg [Bo (dcs x).1,I (dcs x).2.1,I st,.t .nil,.own 0,.t .nil],Bo true],[.arr 3 1 true (v.map ic)])∧(dcs x).2.2=[]) ∨
  (∃(st:Int) (v:List Int) (r:List (List Int)),rwbR true x=(.tup [.agg [Bo (dcs x).1,I (dcs x).2.1,I st,.t .nil,.own 0,.own 1],Bo true],[.arr 3 1 true (v.map ic),.arr 30 1 true (r.map isc)])∧(dcs x).2.2=[]) ∨
  (∃(st:Int) (v:List Int),rwbR true x=(.tup [.agg [Bo (dcs x).1,I (dcs x).2.1,I st,.own 0,.own 1,.t .nil],Bo true],[.arr 211 3 true ((dcs x).2.2.map Zg.c),.arr 3 1 true (v.map ic)])) ∨
  (∃(st:Int) (v:List Int) (r:List (List Int)),rwbR true x=(.tup [.agg [Bo (dcs x).1,I (dcs x).2.1,I st,.own 0,.own 1,.own 2],Bo true],[.arr 211 3 true ((dcs x).2.2.map Zg.c),.arr 3 1 true (v.map ic),.arr 30 1 true (r.map isc)])):=by
 match x with
 |none=>exact .inl ⟨_,_,rfl,rfl⟩
 |some (s,false,c,st,o) =>
  by_cases e:o=[]
  ·exact .inl ⟨st,true,by simp[rwbR,runR,dcs,e],e⟩
  ·exact .inr (.inl ⟨st,by simp[rwbR,runR,dcs,e]⟩)
 |some (s,true,c,st,o) =>
  by_cases k:s.Rows=[]
  ·by_cases e:o=[]
   ·exact .inr (.inr (.inl ⟨st,_,by simp[rwbR,runR,dcs,e,k];rfl,e⟩))
   ·exact .inr (.inr (.inr (.inr (.inl ⟨st,_,by simp[rwbR,runR,dcs,e,k];rfl⟩))))
  ·by_cases e:o=[]
   ·exact .inr (.inr (.inr (.inl ⟨st,_,_,by simp[rwbR,runR,dcs,e,k];exact⟨rfl,rfl⟩,e⟩)))
   ·exact .inr (.inr (.inr (.inr (.inr ⟨st,_,_,by simp[rwbR,runR,dcs,e,k];exact⟨rfl,rfl⟩⟩))))
end Go.Proofs.YtgnfoghkbpkgjaaGreat
