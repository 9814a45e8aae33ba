/-
  Parts of the proofs for this seat: SE SF RX RT SQ SG SH SU SV SW SR.
-/
import Derived.Test.YtgnfoghkbpkgjaaGreatP11
import Derived.Test.YtgnfoghkbpkgjaaGreatP12
import Derived.Test.YtgnfoghkbpkgjaaGreatP15
set_option linter.unusedSimpArgs false
set_option linter.unusedVariables false
set_option maxRecDepth 100000
set_option maxHeartbeats 4000000
namespace Go.Proofs.YtgnfoghkbpkgjaaGreat
open Go.AM
theorem J2.of{q:Ze}(hq:Zw q.Zm q.Atoms=true){u z:Za}{a b:Zb}(A:GS q u a)(B:GS q z b)(hu:0<=u.Mask/\u.Mask<16)(hz:0<=z.Mask/\z.Mask<16)(h0:andI u.Mask z.Mask=0):J2 a b:=by
 refine⟨A.vs hq,B.vs hq,?_⟩;have h1:=Yby A.len B.len;rw[<-Nat.pow_add,<-pc_or hu hz h0]at h1;exact Yo h1 (Zwj _)
theorem Zgv{out:List Zb}{s:Int}(h:s.toNat<out.length):out[s.toNat]?=some (out.getD s.toNat ⟨[],[]⟩):=by rw[Ybo,Yg h];rfl
section
variable{d:Zl}(hd:LeD d){q:Ze}(hq:LeQ q)(h:qFor d q=true){info:List Za}(hM:∀y∈info,0<=y.Mask/\y.Mask<16)
include hd hq h hM
omit hd hq in
theorem Zbkb{out:List Zb}(G:GSs q info out){i:Nat}(hi:out.length=i){x:Zf}{y:Za}(F:Zgu q.Atoms x (info.take i) y)(k1:x.Kind≠1)(k2:x.Kind≠2) :
  0<=y.Left/\out[y.Left.toNat]?=some (out.getD y.Left.toNat ⟨[],[]⟩)/\0<=y.Right/\out[y.Right.toNat]?=some (out.getD y.Right.toNat ⟨[],[]⟩)/\J2 (out.getD y.Left.toNat ⟨[],[]⟩) (out.getD y.Right.toNat ⟨[],[]⟩)/\(x.Kind=3\/x.Kind=4\/x.Kind=5)/\
  (x.Kind=4->∃v,x.Order=v/\has (out.getD y.Left.toNat ⟨[],[]⟩).Vars v=true/\has (out.getD y.Right.toNat ⟨[],[]⟩).Vars v=true/\
   ((out.getD y.Left.toNat ⟨[],[]⟩).Rows.Pairwise λp q=>kx (cix (out.getD y.Left.toNat ⟨[],[]⟩).Vars v).toNat p<=kx (cix (out.getD y.Left.toNat ⟨[],[]⟩).Vars v).toNat q)/\
   ((out.getD y.Right.toNat ⟨[],[]⟩).Rows.Pairwise λp q=>kx (cix (out.getD y.Right.toNat ⟨[],[]⟩).Vars v).toNat p<=kx (cix (out.getD y.Right.toNat ⟨[],[]⟩).Vars v).toNat q)):=by
 have hv:Zw q.Zm q.Atoms=true:=by unfold qFor at h;simp only[Yf]at h;exact h.1
 have hm:∀{s:Nat} {u:Za},(info.take i)[s]?=some u->0<=u.Mask/\u.Mask<16:=λhs=>hM _ (Y4 (Yz hs))
 obtain⟨s,u,t,z,o,f1,f2,f3,f4,f5,rfl,f6⟩:=F.join k1 k2;obtain⟨a1,a2,A⟩:=Zom G hi f1 f2;obtain⟨b1,b2,B⟩:=Zom G hi f3 f4;refine⟨f1,a2,f3,b2,J2.of hv A B (hm f2) (hm f4) f5,by omega,λk4=>?_⟩;rcases f6 with⟨k,_⟩|⟨k,_⟩|⟨k,g1,g2,g3,g4,_⟩
 .omega
 .omega
 .have h0:0<=x.Order:=by unfold vin at g1;simp only[Yf]at g1;have:=g1.1;simp[inR]at this;omega
  have A2:=A.ord (by rw[g3];exact h0);have B2:=B.ord (by rw[g4];exact h0);rw[g3]at A2;rw[g4]at B2;exact⟨_,rfl,A2.1,B2.1,A2.2,B2.2⟩
omit hd hq hM in
theorem Zbkc{out:List Zb}(G:GSs q info out){i:Nat}(hi:out.length=i){x:Zf}{y:Za}(F:Zgu q.Atoms x (info.take i) y)(k2:x.Kind=2) :
  0<=y.Left/\out[y.Left.toNat]?=some (out.getD y.Left.toNat ⟨[],[]⟩)/\VS (out.getD y.Left.toNat ⟨[],[]⟩)/\has (out.getD y.Left.toNat ⟨[],[]⟩).Vars x.Order=true:=by
 have hv:Zw q.Zm q.Atoms=true:=by unfold qFor at h;simp only[Yf]at h;exact h.1
 obtain⟨s,u,f1,f2,f3,rfl⟩:=F.sort k2;obtain⟨a1,a2,A⟩:=Zom G hi f1 f2;exact⟨f1,a2,A.vs hv,(Zbi2 hv A f3 s).2⟩
omit hd hq h hM in
theorem Zhs(s:Zb):(s=⟨s.Vars,[]⟩/\Zbc s=(.tup [.agg [.own 0,.t .nil],Bo true],[.arr 3 1 true (s.Vars.map ic)]))\/Zbc s=(.tup [.agg [.own 0,.own 1],Bo true],[.arr 3 1 true (s.Vars.map ic),.arr 30 1 true (s.Rows.map isc)]):=by
 by_cases e:s.Rows=[]
 .left;refine⟨by cases s;simp only at e;rw[e],?_⟩;unfold Zbc;rw[if_pos e]
 .right;unfold Zbc;rw[if_neg e]
theorem l_exec{steps:List Zf}(hl:info.length=steps.length)(h14:steps.length<=14)(hF:∀(j:Nat) (y:Za) (x:Zf),info[j]?=some y->steps[j]?=some x->Zgu q.Atoms x (info.take j) y):∀i,i<=steps.length->∀(out:List Zb) (fr:Bool),out.length=i->GSs q info out->
  ∃fr',Zd1 d q info fr out steps steps.length i=some (.tup [.own 0,.own 1,Bo true],[.arr 209 4 true (info.map Za.c),.arr 199 2 fr' ((Zc4 d q (steps.drop i) (info.drop i) out).map Zb.c)]):=by
 refine down _ ?_ ?_
 .intro out fr hi G;refine⟨fr,Zv7 ?_⟩;rw[if_neg (by omega),Ym];rfl
 .intro i hi ih out fr ho G;have hi2:i<info.length:=by omega
  have hx:steps[i]?=some steps[i]:=Yg hi;have hy:info[i]?=some info[i]:=Yg hi2;have F:=hF i _ _ hy hx;have hg:=st_gs h G hM ho F;have G2:=Z5n G ho hy hg;have step:Zc4 d q (steps.drop i) (info.drop i) out=Zc4 d q (steps.drop (i+1)) (info.drop (i+1)) (out++[stS d q steps[i] info[i] out]):=by
   rw[Yh hi,Yh hi2,Zc4]
  have nx:∀fr,∃fr',Zd1 d q info fr (out++[stS d q steps[i] info[i] out]) steps steps.length ((i+1:Nat):Int)=some (.tup [.own 0,.own 1,Bo true],[.arr 209 4 true (info.map Za.c),.arr 199 2 fr' ((Zc4 d q (steps.drop i) (info.drop i) out).map Zb.c)]):=by
   intro fr;rw[step];exact ih _ fr (by simp[ho]) G2
  generalize Zc4 d q (steps.drop i) (info.drop i) out=fin at nx|-;generalize hxx:steps[i]=x at *
  generalize hyy:info[i]=y at *
  have hol:out.length+1<=68719476736:=by omega
  unfold stS at nx;by_cases k1:x.Kind=1
  .rw[if_pos k1]at nx;obtain⟨f1,-⟩:=F.scan k1;have hs:=Zb1n hd hq h f1;obtain⟨fr',hn⟩:=nx fr;refine⟨fr',Zv7 ?_⟩;rw[if_pos (by omega),wS hi (by omega)];refine⟨by omega,x,by rw[Ye];exact hx,?_⟩;rw[if_pos k1];rcases Zhs (Zfe d q x.Atom)with⟨e1,e2⟩|e2
   .rw[e2]at hs;rw[e1]at hn;exact .inr (.inl ⟨_,hs,hol,hn⟩)
   .rw[e2]at hs;exact .inr (.inr ⟨_,_,hs,hol,hn⟩)
  .rw[if_neg k1]at nx;by_cases k2:x.Kind=2
   .rw[if_pos k2]at nx;obtain⟨l1,l2,l3,l4⟩:=Zbkc h G ho F k2;obtain⟨fs,hs⟩:=Zb1f l3 l4;obtain⟨fr',hn⟩:=nx (fr && fs);refine⟨fr',Zv7 ?_⟩;rw[if_pos (by omega),wS hi (by omega)];refine⟨by omega,x,by rw[Ye];exact hx,?_⟩;rw[if_neg k1,if_pos k2];exact⟨y,by rw[Ye];exact hy,l1,_,l2,.inr ⟨_,_,_,hs,hol,hn⟩⟩
   .rw[if_neg k2]at nx;obtain⟨l1,l2,r1,r2,J,kk,m4⟩:=Zbkb h hM G ho F k1 k2;obtain⟨fr',hn⟩:=nx fr;refine⟨fr',Zv7 ?_⟩;rw[if_pos (by omega),wS hi (by omega)];refine⟨by omega,x,by rw[Ye];exact hx,?_⟩;rw[if_neg k1,if_neg k2];by_cases k3:x.Kind=3
    .rw[if_pos k3]at hn|-;refine⟨y,by rw[Ye];exact hy,l1,_,l2,r1,_,r2,?_⟩;have hs:=Zb1u J;rcases Zhs (hashS (out.getD y.Left.toNat ⟨[],[]⟩) (out.getD y.Right.toNat ⟨[],[]⟩))with⟨e1,e2⟩|e2
     .rw[e2]at hs;rw[e1]at hn;exact .inr (.inl ⟨_,hs,hol,hn⟩)
     .rw[e2]at hs;exact .inr (.inr ⟨_,_,hs,hol,hn⟩)
    .rw[if_neg k3]at hn|-;by_cases k4:x.Kind=4
     .rw[if_pos k4];refine⟨y,by rw[Ye];exact hy,l1,_,l2,r1,_,r2,?_⟩;obtain⟨v,v1,v2,v3,v4,v5⟩:=m4 k4;have hs:=Zb1v J v2 v3 v4 v5;rw[<-v1]at hs;rcases Zhs (Zc3 (out.getD y.Left.toNat ⟨[],[]⟩) (out.getD y.Right.toNat ⟨[],[]⟩))with⟨e1,e2⟩|e2
      .rw[e2]at hs;rw[e1]at hn;exact .inr (.inl ⟨_,hs,hol,hn⟩)
      .rw[e2]at hs;exact .inr (.inr ⟨_,_,hs,hol,hn⟩)
     .rw[if_neg k4];refine⟨y,by rw[Ye];exact hy,l1,_,l2,r1,_,r2,?_⟩;have hs:=Zbj4 J;rcases Zhs (Zc3 (out.getD y.Left.toNat ⟨[],[]⟩) (out.getD y.Right.toNat ⟨[],[]⟩))with⟨e1,e2⟩|e2
      .rw[e2]at hs;rw[e1]at hn;exact .inr (.inl ⟨_,hs,hol,hn⟩)
      .rw[e2]at hs;exact .inr (.inr ⟨_,_,hs,hol,hn⟩)
theorem l_strm{p:Plan}(hl:info.length=p.Steps.length)(h14:p.Steps.length<=14)(hF:∀(j:Nat) (y:Za) (x:Zf),info[j]?=some y->p.Steps[j]?=some x->Zgu q.Atoms x (info.take j) y):∀i,i<=p.Steps.length->∀(out:List Zb),out.length=i->GSs q info out->
  Zcn d q p info out i=some (.tup [.own 0,.own 1,Bo true],[.arr 199 2 true ((Zc4 d q (p.Steps.drop i) (info.drop i) out).map Zb.c),.arr 209 4 true (info.map Za.c)]):=by
 refine down _ ?_ ?_
 .intro out hi G;refine Zbg6 ?_;rw[if_neg (by omega),Ym];rfl
 .intro i hi ih out ho G;have hi2:i<info.length:=by omega
  have hx:p.Steps[i]?=some p.Steps[i]:=Yg hi;have hy:info[i]?=some info[i]:=Yg hi2;have F:=hF i _ _ hy hx;have hg:=st_gs h G hM ho F;have G2:=Z5n G ho hy hg;have step:Zc4 d q (p.Steps.drop i) (info.drop i) out=Zc4 d q (p.Steps.drop (i+1)) (info.drop (i+1)) (out++[stS d q p.Steps[i] info[i] out]):=by
   rw[Yh hi,Yh hi2,Zc4]
  have hn:Zcn d q p info (out++[stS d q p.Steps[i] info[i] out]) ((i+1:Nat):Int)=some (.tup [.own 0,.own 1,Bo true],[.arr 199 2 true ((Zc4 d q (p.Steps.drop i) (info.drop i) out).map Zb.c),.arr 209 4 true (info.map Za.c)]):=by
   rw[step];exact ih _ (by simp[ho]) G2
  generalize Zc4 d q (p.Steps.drop i) (info.drop i) out=fin at hn|-;generalize hxx:p.Steps[i]=x at *
  generalize hyy:info[i]=y at *
  have hol:out.length+1<=68719476736:=by omega
  unfold stS at hn;refine Zbg6 ?_;rw[if_pos (by omega),wS hi (by omega)];refine⟨by omega,x,by rw[Ye];exact hx,?_⟩;by_cases k1:x.Kind=1
  .rw[if_pos k1]at hn|-;obtain⟨f1,-⟩:=F.scan k1;have hs:=Zb1s hd hq h f1;rcases Zhs (Zfe d q x.Atom)with⟨e1,e2⟩|e2
   .rw[e2]at hs;rw[e1]at hn;exact .inr (.inl ⟨_,hs,hol,hn⟩)
   .rw[e2]at hs;exact .inr (.inr ⟨_,_,hs,hol,hn⟩)
  .rw[if_neg k1]at hn|-;by_cases k2:x.Kind=2
   .rw[if_pos k2]at hn|-;obtain⟨l1,l2,l3,l4⟩:=Zbkc h G ho F k2;have hs:=Zb1j l3 l4;refine⟨y,by rw[Ye];exact hy,l1,_,l2,?_⟩;rcases Zhs (sortS (out.getD y.Left.toNat ⟨[],[]⟩) x.Order)with⟨e1,e2⟩|e2
    .rw[e2]at hs;rw[e1]at hn;exact .inr (.inl ⟨_,hs,hol,hn⟩)
    .rw[e2]at hs;exact .inr (.inr ⟨_,_,hs,hol,hn⟩)
   .rw[if_neg k2]at hn|-;obtain⟨l1,l2,r1,r2,J,kk,m4⟩:=Zbkb h hM G ho F k1 k2;by_cases k3:x.Kind=3
    .rw[if_pos k3]at hn|-;refine⟨y,by rw[Ye];exact hy,l1,_,l2,r1,_,r2,?_⟩;have hs:=Zb1w J;rcases Zhs (hashS (out.getD y.Left.toNat ⟨[],[]⟩) (out.getD y.Right.toNat ⟨[],[]⟩))with⟨e1,e2⟩|e2
     .rw[e2]at hs;rw[e1]at hn;exact .inl ⟨_,hs,hol,hn⟩
     .rw[e2]at hs;exact .inr (.inr ⟨_,_,hs,hol,hn⟩)
    .rw[if_neg k3]at hn|-;by_cases k5:x.Kind=5
     .rw[if_pos k5];refine⟨y,by rw[Ye];exact hy,l1,_,l2,r1,_,r2,?_⟩;have hs:=Zb1x J;rcases Zhs (Zc3 (out.getD y.Left.toNat ⟨[],[]⟩) (out.getD y.Right.toNat ⟨[],[]⟩))with⟨e1,e2⟩|e2
      .rw[e2]at hs;rw[e1]at hn;exact .inl ⟨_,hs,hol,hn⟩
      .rw[e2]at hs;exact .inr (.inr ⟨_,_,hs,hol,hn⟩)
     .rw[if_neg k5];refine⟨y,by rw[Ye];exact hy,l1,_,l2,r1,_,r2,?_⟩;have k4:x.Kind=4:=by clear m4;omega
      obtain⟨v,v1,v2,v3,v4,v5⟩:=m4 k4;have hs:=Zb1y J v2 v3 v4 v5;rw[<-v1]at hs;rcases Zhs (Zc3 (out.getD y.Left.toNat ⟨[],[]⟩) (out.getD y.Right.toNat ⟨[],[]⟩))with⟨e1,e2⟩|e2
      .rw[e2]at hs;rw[e1]at hn;exact .inr (.inl ⟨_,hs,hol,hn⟩)
      .rw[e2]at hs;exact .inr (.inr ⟨_,_,hs,hol,hn⟩)
end
def strm(d:Zl)(q:Ze)(steps:List Zf)(info:List Za):List Zb:=Zc4 d q steps info []
theorem Z5z(q:Ze)(info:List Za):GSs q info []:=λj s h=>by simp at h
theorem Zb1z{d:Zl}{q:Ze}(h:qFor d q=true){info:List Za}(hM:∀y∈info,0<=y.Mask/\y.Mask<16){steps:List Zf}(hl:info.length=steps.length)(hF:∀(j:Nat) (y:Za) (x:Zf),info[j]?=some y->steps[j]?=some x->Zgu q.Atoms x (info.take j) y) :
  ∀i,i<=steps.length->∀(out:List Zb),out.length=i->GSs q info out->GSs q info (Zc4 d q (steps.drop i) (info.drop i) out)/\(Zc4 d q (steps.drop i) (info.drop i) out).length=steps.length:=by
 refine down _ ?_ ?_
 .intro out ho G;rw[Ym];exact⟨G,ho⟩
 .intro i hi ih out ho G;have hi2:i<info.length:=by omega
  have hx:steps[i]?=some steps[i]:=Yg hi;have hy:info[i]?=some info[i]:=Yg hi2;have hg:=st_gs h G hM ho (hF i _ _ hy hx);rw[Yh hi,Yh hi2,Zc4];exact ih _ (by simp[ho]) (Z5n G ho hy hg)
structure PI (q:Ze) (p:Plan) (info:List Za):Prop where
 eq:Zby q.Zm q.Atoms p.Steps=some info
theorem PI.val{q:Ze}{p:Plan}{info:List Za}(P:PI q p info):Zw q.Zm q.Atoms=true/\info.length=p.Steps.length/\1<=p.Steps.length/\p.Steps.length<=14:=by
 have h:=Zpq P.eq;have h2:=P.eq;unfold Zby at h2;split at h2
 .rename_i hc;have:=hc.2;simp[inR]at this;exact⟨h.1,h.2.1,by omega,by omega⟩
 .cases h2
theorem PI.mask{q:Ze}{p:Plan}{info:List Za}(P:PI q p info):∀y∈info,0<=y.Mask/\y.Mask<16:=by
 intro y hy;have h1:=(Zy3 P.eq).1 y hy;have h2:=Zgd P.val.1;unfold Zjt at h1;have:(2:Int) ^ q.Atoms.length<=2 ^ 4:=by
  rcases(show q.Atoms.length=1\/q.Atoms.length=2\/q.Atoms.length=3\/q.Atoms.length=4 by omega)with e|e|e|e<;>rw[e]<;>decide
 omega
theorem Z50{d:Zl}{q:Ze}(h:qFor d q=true){p:Plan}{info:List Za}(P:PI q p info):GSs q info (strm d q p.Steps info)/\(strm d q p.Steps info).length=p.Steps.length:=by
 have:=Zb1z h P.mask P.val.2.1 (Zwl P.eq) 0 (Yb _) [] rfl (Z5z q info);simpa[strm]using this
theorem Zb10{d:Zl}(hd:LeD d){q:Ze}(hq:LeQ q)(h:qFor d q=true){p:Plan}{info:List Za}(P:PI q p info):∃fr,Zkh d q p=some (.tup [.own 0,.own 1,Bo true],[.arr 209 4 true (info.map Za.c),.arr 199 2 fr ((strm d q p.Steps info).map Zb.c)]):=by
 obtain⟨fr,hf⟩:=l_exec hd hq h P.mask P.val.2.1 P.val.2.2.2 (Zwl P.eq) 0 (Yb _) [] true rfl (Z5z q info);have hp:=Z43 q p hq;rw[P.eq]at hp;refine⟨fr,Z4p (.inr ⟨_,hp,_,Z5a d hd q hq,?_⟩)⟩;rw[h,if_pos rfl];exact hf
theorem Zbkd{d:Zl}(hd:LeD d){q:Ze}(hq:LeQ q){p:Plan}(h:Zby q.Zm q.Atoms p.Steps=none\/qFor d q=false):Zkh d q p=some (.tup [.t .nil,.t .nil,Bo false],[]):=by
 have hp:=Z43 q p hq
 cases e:Zby q.Zm q.Atoms p.Steps with
 |none =>
  rw[e]at hp
  exact Z4p (.inl ⟨hp,rfl⟩)
 |some info =>
  rw[e]at hp;have h2:qFor d q=false:=h.resolve_left (by rw[e];simp);refine Z4p (.inr ⟨_,hp,_,Z5a d hd q hq,?_⟩);rw[h2,if_neg (by decide)]
theorem Zb11{d:Zl}(hd:LeD d){q:Ze}(hq:LeQ q)(h:qFor d q=true){p:Plan}{info:List Za}(P:PI q p info):Znm d q p=some (.tup [.own 0,.own 1,Bo true],[.arr 199 2 true ((strm d q p.Steps info).map Zb.c),.arr 209 4 true (info.map Za.c)]):=by
 have hf:=l_strm hd hq h P.mask (p:=p) P.val.2.1 P.val.2.2.2 (Zwl P.eq) 0 (Yb _) [] rfl (Z5z q info);have hp:=Z42 q p hq;rw[P.eq]at hp;refine Z4w ⟨_,_,hp,?_⟩;rw[if_pos rfl];refine⟨_,Z5b d hd q hq,?_⟩;rw[h,if_pos rfl];exact hf
theorem Zbke{d:Zl}(hd:LeD d){q:Ze}(hq:LeQ q){p:Plan}(h:Zby q.Zm q.Atoms p.Steps=none\/qFor d q=false):∃info:List Za,Znm d q p=some (.tup [.own 0,.own 1,Bo false],[.arr 199 2 true (([]:List Zb).map Zb.c),.arr 209 4 true (info.map Za.c)]):=by
 have hp:=Z42 q p hq
 cases e:Zby q.Zm q.Atoms p.Steps with
 |none =>
  rw[e]at hp;refine⟨[],Z4w ⟨[],false,hp,?_⟩⟩
  rw[if_neg (by decide)]
 |some info =>
  rw[e]at hp;have h2:qFor d q=false:=h.resolve_left (by rw[e];simp);refine⟨info,Z4w ⟨_,_,hp,?_⟩⟩;rw[if_pos rfl];refine⟨_,Z5b d hd q hq,?_⟩;rw[h2,if_neg (by decide)]
def ansR(rows:List (List Int)):List (List Int):=cptR (srtR rows)
abbrev AscR(l:List (List Int)):Prop:=l.Pairwise λa b=>cmpR a b<0
theorem Zbkf:∀{a b:List (List Int)},AscR a->AscR b->(∀x,x∈a↔x∈b)->a=b
 |[],[],_,_,_=>rfl
 |[],y::b,_,_,h=>by have:=(h y).2 (by simp);cases this
 |x::a,[],_,_,h=>by have:=(h x).1 (by simp);cases this
 |x::a,y::b,ha,hb,h=>by
  have ha':=Ybe.1 ha;have hb':=Ybe.1 hb;have e:x=y:=by
   have h1:=(h x).1 (by simp);have h2:=(h y).2 (by simp);rcases Yt.1 h1 with e|e
   .exact e
   .rcases Yt.1 h2 with e2|e2
    .exact e2.symm
    .have h3:=hb'.1 x e;have h4:=ha'.1 y e2;have:=Zd7 x y;omega
  subst e;rw[Zbkf ha'.2 hb'.2 λz=>?_];constructor
  .intro hz;have:=(h z).1 (by simp[hz]);rcases Yt.1 this with e|e
   .subst e;have:=ha'.1 _ hz;rw[Z5o]at this;omega
   .exact e
  .intro hz;have:=(h z).2 (by simp[hz]);rcases Yt.1 this with e|e
   .subst e;have:=hb'.1 _ hz;rw[Z5o]at this;omega
   .exact e
theorem Zbkg:∀{l:List (List Int)},(l.Pairwise λa b=>leR a b=true)->AscR (cptR l)
 |[],_=>by simp[cptR]
 |[a],_=>by simp[cptR]
 |a::b::l,h=>by
  have h1:=Ybe.1 h;have ih:=Zbkg h1.2;unfold cptR;split
  .exact ih
  .rename_i e;refine Ybe.2 ⟨λx hx=>?_,ih⟩;rw[Z5p]at hx;have hab:cmpR a b<0:=by
    have h3:=h1.1 b (by simp);unfold leR at h3;simp only[decide_eq_true_eq]at h3;rcases Yd6 h3 with h4|h4
    .exact h4
    .exact absurd (Zli _ _ h4) e
   rcases Yt.1 hx with rfl|hx
   .exact hab
   .have h2:=(Ybe.1 h1.2).1 x hx;unfold leR at h2;simp only[decide_eq_true_eq]at h2;have h5:=Zon a b x (by omega) h2;rcases Yd6 h5 with h4|h4
    .exact h4
    .have:=Zli _ _ h4;subst this;have:=Zd7 a b;omega
theorem ansR_asc(rows:List (List Int)):AscR (ansR rows):=Zbkg (Zbi8 rows)
theorem Zbkh(rows:List (List Int))(x:List Int):x∈ansR rows↔x∈rows:=by unfold ansR;rw[Z5p,(Zsb rows).mem_iff]
theorem Zbki(rows:List (List Int)):(ansR rows).length<=rows.length:=by unfold ansR;rw[<-(Zsb rows).length_eq];exact Zbi9 _
theorem Zb12{rows:List (List Int)}(h1:rows.length<=4096)(h2:∀r∈rows,r.length<=4):Zu5 rows=some (.own 0,[.arr 30 1 true ((ansR rows).map isc)]):=by
 have hl:=(Zsb rows).length_eq;refine Zbw2 ⟨_,Z49 rows h2 (by omega),srtR rows,?_,ansR rows,?_,rfl⟩
 .unfold Z1i;exact c_sort h1 h2
 .unfold Z1j;exact c_cpt (by omega) λr hr=>h2 r ((Zsb rows).mem_iff.1 hr)
theorem Zbkj{s:Zb}(h:VS s):Zfp s=some (.tup [.agg [.own 0,.own 1],Bo true],[.arr 3 1 true (s.Vars.map ic),.arr 30 1 true ((ansR s.Rows).map isc)]):=by
 refine Zbw3 ⟨_,Zlj h,?_⟩;rw[if_pos rfl];exact⟨_,Zoh _ (by have:=h.four;omega),_,Zb12 h.len λr hr=>(h.row4 hr).2,rfl⟩
def putR:List (List Int)->List Int->Bool->List (List Int)
 |[],row,put=>if put=true then[]else[row]
 |e::es,row,put=>if cmpR e row=0 then e::putR es row true else if 0<cmpR e row then(if put=true then e::putR es row true else row::e::putR es row true)else e::putR es row put
theorem Zwy:∀(es:List (List Int)) (row:List Int),putR es row true=es
 |[],_=>rfl
 |e::es,row=>by
  unfold putR;rw[Zwy es row];simp
theorem Zwz:∀(es:List (List Int)) (row x:List Int),x∈putR es row false↔x∈es\/x=row
 |[],row,x=>by simp[putR]
 |e::es,row,x=>by
  have ih:=Zwz es row x;unfold putR;rw[Zwy];by_cases h1:cmpR e row=0
  .rw[if_pos h1];have:=Zli _ _ h1;subst this;simp;exact λh=>.inl h
  .rw[if_neg h1];by_cases h2:0<cmpR e row
   .rw[if_pos h2,if_neg (by decide)];simp only[Yt];constructor
    .rintro(h|h|h)
     .exact .inr h
     .exact .inl (.inl h)
     .exact .inl (.inr h)
    .rintro((h|h)|h)
     .exact .inr (.inl h)
     .exact .inr (.inr h)
     .exact .inl h
   .rw[if_neg h2,Yt,ih,Yt,or_assoc]
theorem Zbkk:∀{es:List (List Int)} (row:List Int),AscR es->AscR (putR es row false)
 |[],row,_=>by simp[putR]
 |e::es,row,h=>by
  have h':=Ybe.1 h;unfold putR;rw[Zwy];by_cases h1:cmpR e row=0
  .rw[if_pos h1];exact h
  .rw[if_neg h1];by_cases h2:0<cmpR e row
   .rw[if_pos h2,if_neg (by decide)];have h3:cmpR row e<0:=by have:=Zd7 e row;omega
    refine Ybe.2 ⟨λx hx=>?_,h⟩;rcases Yt.1 hx with rfl|hx
    .exact h3
    .have h4:=h'.1 x hx;have h5:=Zon row e x (by omega) (by omega);rcases Yd6 h5 with h6|h6
     .exact h6
     .have:=Zli _ _ h6;subst this;have:=Zd7 e row;omega
   .rw[if_neg h2];refine Ybe.2 ⟨λx hx=>?_,Zbkk row h'.2⟩;rw[Zwz]at hx;rcases hx with hx|rfl
    .exact h'.1 x hx
    .omega
theorem Zbkl:∀(es:List (List Int)) (row:List Int) (put:Bool),(putR es row put).length<=es.length+1
 |[],row,put=>by unfold putR;split<;>simp
 |e::es,row,put=>by
  unfold putR;rw[Zwy];have:=Zbkl es row put;split
  .simp
  .split
   .split<;>simp
   .simp only[Yr];omega
theorem l_put{rows:List (List Int)}{row:List Int}(hl:rows.length<=5000)(h4:∀r∈rows,r.length<=4)(hr:row.length<=4):∀i,i<=rows.length->∀(out:List (List Int)) (put:Bool),out.length+2*(rows.length-i)<=20000->Zhk out rows row put i=some (.own 0,[.arr 30 1 true ((out++putR (rows.drop i) row put).map isc)]):=by
 refine down _ ?_ ?_
 .intro out put ho;refine Zbhh ?_;rw[if_neg (by omega),Ym];rcases tf put with e|e
  .subst e;rw[if_neg (by decide)];exact⟨by omega,by omega,rfl⟩
  .subst e;rw[if_pos rfl];simp[putR]
 .intro i hi ih out put ho;have he:=h4 _ (Yd hi);refine Zbhh ?_;rw[if_pos (by omega),wS hi (by omega),Yh hi];refine⟨by omega,_,gE hi,_,Zbib _ _ (by omega) (by omega),?_⟩;unfold putR;by_cases h1:cmpR rows[i] row=0
  .rw[if_pos h1,if_pos h1,if_neg (by omega)];refine⟨by omega,by omega,?_⟩;rw[ih _ _ (by simp;omega)];simp
  .rw[if_neg h1,if_neg h1];by_cases h2:0<cmpR rows[i] row
   .rw[if_pos h2,if_pos h2];rcases tf put with e|e
    .subst e;rw[if_neg (by decide),if_neg (by decide)];refine⟨by omega,by omega,by omega,by omega,?_⟩;rw[ih _ _ (by simp;omega)];simp
    .subst e;rw[if_pos rfl,if_pos rfl];refine⟨by omega,by omega,?_⟩;rw[ih _ _ (by simp;omega)];simp
   .rw[if_neg h2,if_neg h2];refine⟨by omega,by omega,?_⟩;rw[ih _ _ (by simp;omega)];simp
theorem x_put1{rows:List (List Int)}{row:List Int}(hl:rows.length<=5000)(h4:∀r∈rows,r.length<=4)(hr:row.length<=4):Zri rows row=some (.own 0,[.arr 30 1 true ((putR rows row false).map isc)]) :=
 Zbyn (by simpa using l_put hl h4 hr 0 (Yb _) [] false (by simp;omega))
theorem x_put0{row:List Int}(hr:row.length<=4):Zrh row=some (.own 0,[.arr 30 1 true (([row]).map isc)]):=by
 refine Zbym (Zbyl ?_);rw[if_neg (by decide),if_neg (by decide)];exact⟨by omega,by simp,rfl⟩
def Zll(acc rows:List (List Int)):List (List Int):=rows.foldl (λl r=>putR l r false) acc
theorem Zbkm:∀(rows acc:List (List Int)) (x:List Int),x∈Zll acc rows↔x∈acc\/x∈rows
 |[],acc,x=>by simp[Zll]
 |r::rows,acc,x=>by
  show x∈Zll (putR acc r false) rows↔_;rw[Zbkm rows,Zwz,Yt,or_assoc]
theorem Zbkn:∀{rows acc:List (List Int)},AscR acc->AscR (Zll acc rows)
 |[],acc,h=>h
 |r::rows,acc,h=>Zbkn (rows:=rows) (Zbkk r h)
theorem Zb13(rows:List (List Int)):Zll [] rows=ansR rows :=
 Zbkf (Zbkn .nil) (ansR_asc rows) λx=>by rw[Zbkm,Zbkh];simp
theorem Zb14{s:Zb}(h:VS s):∀i,i<=s.Rows.length->∀acc:List (List Int),acc.length<=i->(∀r∈acc,r.length<=4)->Zrj s s.Vars acc i=some (.tup [.agg [.own 0,.own 1],Bo true],[.arr 3 1 true (s.Vars.map ic),.arr 30 1 true ((Zll acc (s.Rows.drop i)).map isc)]):=by
 have hl:=h.len;refine down _ ?_ ?_
 .intro acc ha h4;refine Zbhi ?_;rw[if_neg (by omega),Ym];rfl
 .intro i hi ih acc ha h4;have hr:=h.row4 (Yd hi);refine Zbhi ?_;rw[if_pos (by omega),wS hi (by omega),Yh hi];have hp:=Zbkl acc s.Rows[i] false
  exact⟨by omega,_,gE hi,_,x_put1 (by omega) h4 hr.2,ih _ (by omega) (λr hm=>by
   rcases(Zwz _ _ _).1 hm with hm|rfl
   .exact h4 r hm
   .exact hr.2)⟩
def ansF(s:Zb):AV×List Blk:=if s.Rows=[]then(.tup [.agg [.own 0,.t .nil],Bo true],[.arr 3 1 true (s.Vars.map ic)])else(.tup [.agg [.own 0,.own 1],Bo true],[.arr 3 1 true (s.Vars.map ic),.arr 30 1 true ((ansR s.Rows).map isc)])
theorem Zbko{s:Zb}(h:VS s):Zfv s=some (ansF s):=by
 have h4:=h.four;refine Zbyp ⟨_,Zlk h,?_⟩;rw[if_pos rfl];refine⟨by omega,Zbyo ?_⟩;unfold ansF;by_cases e:s.Rows=[]
 .rw[if_neg (by rw[e];simp),if_pos e]
 .have h0:0<s.Rows.length:=Yd3.2 e;have hr:=h.row4 (Yd h0);rw[if_pos (by omega),if_neg e];refine⟨by omega,_,gE h0,_,x_put0 hr.2,?_⟩;have:=Zb14 h 1 (by omega) [s.Rows[0]] (by simp) (by simp[hr.2]);have e2:Zll [s.Rows[0]] (s.Rows.drop 1)=ansR s.Rows:=by
   rw[<-Zb13]
   conv=>rhs;rw[<-Yj (l:=s.Rows),Yh h0]
   rfl
  rw[e2]at this;rw[show w (0+1)=((1:Nat):Int) by decide];exact this
def Zgw(f:Int->Int)(rd:List Int):List Int:=rd.filter λi=>!(rd.any λk=>decide (i<k) && decide (f k<=i))
def keepS(f:Int->Int)(rd:List Int):List Int:=rd.foldl (λout i=>(out.filter λk=>decide (k<f i))++[i]) []
theorem Zb15(f:Int->Int)(l:List Int)(i:Int)(h:∀x∈l,x<i):Zgw f (l++[i])=((Zgw f l).filter λk=>decide (k<f i))++[i]:=by
 unfold Zgw;rw[Ydg];congr 1
 .rw[List.filter_filter];refine List.filter_congr λx hx=>?_
  have hlt:=h x hx;rw[List.any_append];simp only[Ydm,List.any_nil,Bool.or_false,hlt,decide_true,Yx];by_cases hf:f i<=x
  .have:¬x<f i:=by omega
   simp[hf,this]
  .have:x<f i:=by omega
   simp[hf,this]
 .have:((l++[i]).any λk=>decide (i<k) && decide (f k<=i))=false:=by
   rw[Yd1];intro x hx;rcases Yi.mp hx with hx|hx
   .have:=h x hx;have:¬i<x:=by omega
    simp[this]
   .simp at hx;subst hx;simp
  simp only[Ycw,this];simp
theorem Zbkp(f:Int->Int):∀l2 l1:List Int,List.Pairwise (·<·) (l1++l2)->l2.foldl (λout i=>(out.filter λk=>decide (k<f i))++[i]) (Zgw f l1)=Zgw f (l1++l2)
 |[],l1,_=>by simp
 |i::l2,l1,h=>by
  have e:l1++i::l2=(l1++[i])++l2:=by simp
  rw[e]at h|-;rw[Ydt,<-Zb15 f l1 i (λx hx=>(List.pairwise_append.mp (List.pairwise_append.mp h).1).2.2 x hx i (by simp))];exact Zbkp f l2 (l1++[i]) h
theorem keep_eq(f:Int->Int)(l:List Int)(h:List.Pairwise (·<·) l):keepS f l=Zgw f l:=Zbkp f l [] h
theorem Zb16(n:Int)(h0:0<=n)(h1:n<=4096):Zqm n 0=some (I (Zee n),[]):=by
 unfold Zee;rw[if_neg (by omega:¬n<0)];refine Zi4 ⟨_,Zgr 0,?_⟩;rw[show Zbj 0=0 from by decide];by_cases c0:n<=0
 .rw[if_pos c0,if_pos c0]
 rw[if_neg c0,if_neg c0,show w (0+1)=1 from by decide];refine Zi4 ⟨_,Zgr 1,?_⟩;rw[show Zbj 1=1 from by decide];by_cases c1:n<=1
 .rw[if_pos c1,if_pos c1]
 rw[if_neg c1,if_neg c1,show w (1+1)=2 from by decide];refine Zi4 ⟨_,Zgr 2,?_⟩;rw[show Zbj 2=4 from by decide];by_cases c2:n<=4
 .rw[if_pos c2,if_pos c2]
 rw[if_neg c2,if_neg c2,show w (2+1)=3 from by decide];refine Zi4 ⟨_,Zgr 3,?_⟩;rw[show Zbj 3=16 from by decide];by_cases c3:n<=16
 .rw[if_pos c3,if_pos c3]
 rw[if_neg c3,if_neg c3,show w (3+1)=4 from by decide];refine Zi4 ⟨_,Zgr 4,?_⟩;rw[show Zbj 4=64 from by decide];by_cases c4:n<=64
 .rw[if_pos c4,if_pos c4]
 rw[if_neg c4,if_neg c4,show w (4+1)=5 from by decide];refine Zi4 ⟨_,Zgr 5,?_⟩;rw[show Zbj 5=256 from by decide];by_cases c5:n<=256
 .rw[if_pos c5,if_pos c5]
 rw[if_neg c5,if_neg c5,show w (5+1)=6 from by decide];refine Zi4 ⟨_,Zgr 6,?_⟩;rw[show Zbj 6=1024 from by decide];by_cases c6:n<=1024
 .rw[if_pos c6,if_pos c6]
 rw[if_neg c6,if_neg c6,show w (6+1)=7 from by decide];refine Zi4 ⟨_,Zgr 7,?_⟩;rw[show Zbj 7=4096 from by decide];rw[if_pos h1,if_pos h1]
theorem Zjb{c a b:Prop}[Decidable c](h:c)(ha:a):if c then a else b:=by rw[if_pos h];exact ha
theorem Zb17(n:Int)(h0:0<=n)(h1:n<=4096):Zrg n 0=some (I (Zee n),[]):=by
 unfold Zee;rw[if_neg (by omega:¬n<0)];refine Zi5 (Zjb (by decide) ⟨_,Zgs 0,?_⟩);rw[show Zbj 0=0 from by decide];by_cases c0:n<=0
 .rw[if_pos c0,if_pos c0]
 rw[if_neg c0,if_neg c0,show w (0+1)=1 from by decide];refine Zi5 (Zjb (by decide) ⟨_,Zgs 1,?_⟩);rw[show Zbj 1=1 from by decide];by_cases c1:n<=1
 .rw[if_pos c1,if_pos c1]
 rw[if_neg c1,if_neg c1,show w (1+1)=2 from by decide];refine Zi5 (Zjb (by decide) ⟨_,Zgs 2,?_⟩);rw[show Zbj 2=4 from by decide];by_cases c2:n<=4
 .rw[if_pos c2,if_pos c2]
 rw[if_neg c2,if_neg c2,show w (2+1)=3 from by decide];refine Zi5 (Zjb (by decide) ⟨_,Zgs 3,?_⟩);rw[show Zbj 3=16 from by decide];by_cases c3:n<=16
 .rw[if_pos c3,if_pos c3]
 rw[if_neg c3,if_neg c3,show w (3+1)=4 from by decide];refine Zi5 (Zjb (by decide) ⟨_,Zgs 4,?_⟩);rw[show Zbj 4=64 from by decide];by_cases c4:n<=64
 .rw[if_pos c4,if_pos c4]
 rw[if_neg c4,if_neg c4,show w (4+1)=5 from by decide];refine Zi5 (Zjb (by decide) ⟨_,Zgs 5,?_⟩);rw[show Zbj 5=256 from by decide];by_cases c5:n<=256
 .rw[if_pos c5,if_pos c5]
 rw[if_neg c5,if_neg c5,show w (5+1)=6 from by decide];refine Zi5 (Zjb (by decide) ⟨_,Zgs 6,?_⟩);rw[show Zbj 6=1024 from by decide];by_cases c6:n<=1024
 .rw[if_pos c6,if_pos c6]
 rw[if_neg c6,if_neg c6,show w (6+1)=7 from by decide];refine Zi5 (Zjb (by decide) ⟨_,Zgs 7,?_⟩);rw[show Zbj 7=4096 from by decide];rw[if_pos h1,if_pos h1]
theorem Zb18{n:Int}(h:inR n 0 4096=false):Zee n=-1:=by
 simp[inR]at h;unfold Zee
 repeat' split
 all_goals omega
theorem Zsc(n:Int):Zev n=some (I (Zee n),[]):=by
 refine Zbww ⟨_,Zc2 _ _ _,?_⟩;rcases tf (inR n 0 4096)with e|e
 .rw[e,Zb18 e];simp
 .rw[if_pos e];simp[inR]at e;exact Zb16 n e.1 e.2
theorem Zlm(n:Int):Zcs n=some (I (Zef n),[]):=Zbwx ⟨_,Zsc n,_,Zgr _,rfl⟩
theorem Zsd(n:Int)(h1:n<=4096):Zgj n=some (I (Zee n),[]):=by
 refine Zbyh ?_;by_cases c:n<0
 .rw[if_pos c];unfold Zee;rw[if_pos c]
 .rw[if_neg c];exact Zb17 n (by omega) h1
theorem Zse(n:Int)(h1:n<=4096):Zck n=some (I (Zef n),[]):=Zbyi ⟨_,Zsd n h1,_,Zgs _,rfl⟩
def Zdu(m:Zi)(n:Int):Int:=if inR n 0 4096=true then Zdg m.Scan (Zef n) 0 (Zef n)else -1
theorem Z51(m:Zi)(hm:LeM m)(n:Int):Zhl m n=some (I (Zdu m n),[]):=by
 refine Zby0 ⟨_,Zlm n,?_⟩;unfold Zdu;rcases tf (inR n 0 4096)with e|e
 .rw[if_pos ((Z89 n).2 e),e];simp
 .have:¬Zef n<0:=λhc=>by rw[(Z89 n).1 hc]at e;cases e
  rw[if_neg this,if_pos e];exact⟨_,Zlg _ hm.1 _ _ _,rfl⟩
theorem Z52(m:Zi)(hm:LeM m)(n:Int):Zi2 m n=some (I (Zdu m n),[]):=by
 refine Zbzd ⟨_,Zdd _ _ _,?_⟩;unfold Zdu;rcases tf (inR n 0 4096)with e|e
 .rw[e];simp
 .rw[if_pos e,if_pos e];simp[inR]at e;exact⟨_,Zse n e.2,_,Zoc _ hm.1 _ _ _,rfl⟩
def Zff(m:Zi)(k n:Int):Bool:=decide (Zdu m n<=Zdg (mOp m k) 0 0 (Zef n))
theorem Zw0(m:Zi):Zd2 m=some (.bsl 1 5,[.box (m.c.map .t),.box [.ptr 0 0,.ptr 0 6,.ptr 0 12,.ptr 0 18,.ptr 0 24]]):=Zbfr rfl
open Classical in
theorem Zb19(m:Zi)(hm:LeM m)(k n:Int):Zrr m k n=some (Bo (inR k 3 5 && inR n 0 4096 && decide (Zcl m) && Zff m k n),[]):=by
 refine Zby6 ⟨_,Zc2 _ _ _,?_⟩;rcases tf (inR k 3 5)with e|e
 .rw[e];simp
 rw[if_pos e];refine⟨_,Zc2 _ _ _,?_⟩;rcases tf (inR n 0 4096)with e2|e2
 .rw[e,e2];simp
 rw[if_pos e2];refine⟨_,Z48 m hm,?_⟩;by_cases e3:Zcl m
 rotate_left
 .simp[e,e2,e3]
 rw[if_pos (by simp[e3])];refine⟨_,Z51 m hm n,Zw0 m,?_⟩;have q:=λj=>Zlg _ (hm.op j) 0 0 (Zef n)
 have h3:k=3\/k=4\/k=5:=by simp[inR]at e;omega
 have q3:=q 3;have q4:=q 4;have q5:=q 5;simp only[mOp,Int.reduceEq,if_false,if_true]at q3 q4 q5;rcases h3 with rfl|rfl|rfl
 .rw[if_neg (by decide),if_neg (by decide),if_pos (by decide)];exact⟨_,Zlm n,_,q3,by simp[e,e2,e3,Zff,mOp]⟩
 .rw[if_neg (by decide),if_neg (by decide),if_neg (by decide),if_pos (by decide)];exact⟨_,Zlm n,_,q4,by simp[e,e2,e3,Zff,mOp]⟩
 .rw[if_neg (by decide),if_neg (by decide),if_neg (by decide),if_neg (by decide),if_pos (by decide)];exact⟨_,Zlm n,_,q5,by simp[e,e2,e3,Zff,mOp]⟩
theorem Zb2a{qa:List Atom}{x:Zf}{info:List Za}{st:List Int}{y:Za}(hs:StOk info st)(h:Zc9 qa x info st=some y):y.Left<info.length/\(0<=y.Right->x.Kind<=5):=by
 unfold Zc9 at h;split at h
 .split at h
  .cases h;exact⟨by simp;omega,λhc=>absurd (show(0:Int)<=-1 from hc) (by decide)⟩
  .cases h
 .split at h
  .cases h
  .split at h
   .split at h
    .rename_i s y' ht;split at h
     .cases h;obtain⟨_,t2,t3,_⟩:=Zfk hs (Yc 1) ht;exact⟨by simp;omega,λhc=>absurd (show(0:Int)<=-1 from hc) (by decide)⟩
     .cases h
    .cases h
   .split at h
    .rename_i s y' t z ht hu;split at h
     .obtain⟨_,t2,t3,_⟩:=Zfk hs (by omega:1<=2) ht;obtain⟨o,ho,rfl⟩:=Yk.1 h;refine⟨by simp;omega,λ_=>?_⟩;unfold Zeg at ho;split at ho
      .omega
      .split at ho
       .omega
       .split at ho
        .omega
        .cases ho
     .cases h
    .cases h
theorem Zbkq{qa:List Atom}:∀{xs:List Zf} {i:Nat} {info:List Za} {st:List Int} {info':List Za} {st':List Int},Zca qa xs i info st=some (info',st')->
  StOk info st->info.length=i->∃tail,info'=info++tail/\tail.length=xs.length/\∀(j:Nat) (y:Za) (x:Zf),tail[j]?=some y->xs[j]?=some x->y.Left<(i:Int)+j/\(0<=y.Right->x.Kind<=5)
 |[],i,info,st,info',st',h,hs,hi=>by
  simp[Zca]at h;obtain⟨rfl,rfl⟩:=h
  exact⟨[],by simp,rfl,by intro j y x hj;simp at hj⟩
 |x::xs,i,info,st,info',st',h,hs,hi=>by
  rw[Zca]at h;split at h
  .cases h
  .rename_i y hy;have hn:=Zpp hs y (st.length-pops y);rw[hi]at hn;obtain⟨tail,g2,g3,g4⟩:=Zbkq h hn (by simp[hi]);refine⟨y::tail,by simp[g2],by simp[g3],?_⟩;intro j y' x' hj hx
   cases j with
   |zero =>
    simp at hj hx;subst hj;subst hx;have:=Zb2a hs hy
    exact⟨by omega,this.2⟩
   |succ j =>
    have:=g4 j y' x' (by simpa using hj) (by simpa using hx);exact⟨by omega,this.2⟩
def lw(info:List Za):Prop:=∀(i:Nat) (y:Za),info[i]?=some y->y.Left<(i:Int)
theorem Zoo{n:Int}{qa:List Atom}{steps:List Zf}{info:List Za}(h:Zby n qa steps=some info) :
  lw info/\∀(j:Nat) (y:Za) (x:Zf),info[j]?=some y->steps[j]?=some x->0<=y.Right->x.Kind<=5:=by
 have hl:=(Zpq h).2.1;unfold Zby at h;split at h
 .split at h
  .rename_i info' st hg;split at h
   .cases h;obtain⟨tail,g2,g3,g4⟩:=Zbkq hg (λs hs=>by cases hs) rfl;simp at g2;subst g2;refine⟨λi y hi=>?_,λj y x hj hx=>(g4 j y x hj hx).2⟩;have hi2:i<steps.length:=by
     have:=(Yy.1 hi).1;omega
    have:=(g4 i y _ hi (Yg hi2)).1;omega
   .cases h
  .cases h
 .cases h
def fst(info:List Za):Nat->Int->Int
 |0,i=>i
 |f+1,i=>match info[i.toNat]? with
  |some y=>if 0<=y.Left then fst info f y.Left else i
  |none=>i
def first(info:List Za)(i:Int):Int:=fst info (i.toNat+1) i
theorem Zbkr{info:List Za}(h:lw info):∀(f:Nat) (i:Int),0<=i->i.toNat<f->i.toNat<info.length->Zpy info i=some (I (fst info f i),[])
 |0,_,_,h1,_=>absurd h1 (Nat.not_lt_zero _)
 |f+1,i,h0,h1,h2=>by
  have e:=Yg h2;have hl:=h _ _ e;refine Zbvl ⟨h0,_,e,?_⟩;unfold fst;rw[e];by_cases c:0<=info[i.toNat].Left
  .simp only[if_pos c];exact Zbkr h f _ c (by omega) (by omega)
  .simp only[if_neg c]
theorem Zbks{info:List Za}(h:lw info):∀(f:Nat) (i:Int),0<=i->i.toNat<f->i.toNat<info.length->Zqs info i=some (I (fst info f i),[])
 |0,_,_,h1,_=>absurd h1 (Nat.not_lt_zero _)
 |f+1,i,h0,h1,h2=>by
  have e:=Yg h2;have hl:=h _ _ e;refine Zbxc ⟨h0,_,e,?_⟩;unfold fst;rw[e];by_cases c:0<=info[i.toNat].Left
  .simp only[if_pos c];exact Zbks h f _ c (by omega) (by omega)
  .simp only[if_neg c]
theorem x_begins{info:List Za}(h:lw info){i:Int}(h0:0<=i)(h2:i.toNat<info.length):Zpx info i=some (I (first info i),[]):=Zbvm (Zbkr h _ i h0 (by omega) h2)
theorem Zbkt{info:List Za}(h:lw info){i:Int}(h0:0<=i)(h2:i.toNat<info.length):Zm0 info i=some (I (first info i),[]):=Zbxd (Zbks h _ i h0 (by omega) h2)
def Zcm(info:List Za)(i k:Int):Bool:=decide (i<k) && decide (first info k<=i)
theorem Zbku{info:List Za}(h:lw info)(i:Int){k:Int}(h0:0<=k)(h2:k.toNat<info.length):Znx info i k=some (Bo (Zcm info i k),[]):=by
 refine Zby1 ?_;unfold Zcm;by_cases c:i<k
 .rw[if_pos c];exact⟨_,x_begins h h0 h2,by simp[c]⟩
 .rw[if_neg c];simp[c]
def inI(info:List Za)(js:List Int):Prop:=∀j∈js,0<=j/\j.toNat<info.length
theorem Zb2b{info:List Za}(h:lw info)(js:List Int)(hj:inI info js)(hl:js.length<=1000)(i:Int):∀n,n<=js.length->Zru js info i js.length n=some (I (Zbe (Zcm info i) (js.drop n) n),[]):=by
 refine down _ ?_ ?_
 .refine Zbho ?_;rw[if_neg (by omega),Ym];rfl
 .intro n hn ih;have h5:=Zbb (i:=n) (by omega);obtain⟨g1,g2⟩:=hj _ (Yd hn);refine Zbho ?_;rw[if_pos (by omega)];refine⟨by omega,_,Yg hn,_,Zby2 ⟨_,Zbku h i g1 g2,rfl⟩,?_⟩;rw[Zh9 _ hn];split
  .rfl
  .rw[show w ((n:Int)+1)=((n+1:Nat):Int)from h5];exact ih
theorem Zb2c{info:List Za}(h:lw info)(js:List Int)(hj:inI info js)(hl:js.length<=1000)(i:Int):Zvx js info i=some (Bo (js.any (Zcm info i)),[]):=by
 have q:=Zb2b h js hj hl i 0 (Yb _);refine Zby4 ⟨_,Zby3 q,?_⟩;rw[Yj];rcases tf (js.any (Zcm info i))with e|e
 .rw[Zpm _ _ _ e,e];rfl
 .have:=Ztv _ _ 0 e;rw[e];simp[this]
def okK(mask:Int)(x:Kept):Bool:=decide (x.Mask=mask) && inR x.Size 0 4096
def Zcp:List Kept->Int->Int
 |[],_=>-1
 |k::ks,mask=>if okK mask k=true then k.Size else Zcp ks mask
theorem Z53(mask:Int):∀(ks:List Kept) (i:Nat),(Zbe (okK mask) ks i=-1/\Zcp ks mask=-1)\/∃(j:Nat) (k:Kept),Zbe (okK mask) ks i=((i+j:Nat):Int)/\ks[j]?=some k/\okK mask k=true/\Zcp ks mask=k.Size
 |[],_=>.inl ⟨rfl,rfl⟩
 |k::ks,i=>by
  unfold Zbe Zcp;rcases tf (okK mask k)with e|e
  .rw[e];simp only[Y9,if_false];rcases Z53 mask ks (i+1)with⟨h1,h2⟩|⟨j,k',h1,h2,h3,h4⟩
   .exact .inl ⟨h1,h2⟩
   .refine .inr ⟨j+1,k',?_,by simpa using h2,h3,h4⟩;rw[h1];omega
  .rw[e];exact .inr ⟨0,k,rfl,rfl,e,rfl⟩
theorem Zb2d(ks:List Kept)(hl:Le ks)(info:List Za)(i:Int)(y:Za)(h0:0<=i)(hy:info[i.toNat]?=some y):∀n,n<=ks.length->Zrq ks info i ks.length n=some (I (Zbe (okK y.Mask) (ks.drop n) n),[]):=by
 refine down _ ?_ ?_
 .refine Zbhn ?_;rw[if_neg (by omega),Ym];rfl
 .intro n hn ih;have h5:=Zbb (i:=n) (by omega);have q:Zvv ks[n] info i=some (Bo (okK y.Mask ks[n]),[]):=by
   refine Zbyy ⟨h0,_,hy,?_⟩;unfold okK;by_cases c:ks[n].Mask=y.Mask
   .rw[if_pos c];exact⟨_,Zc2 _ _ _,by simp[c]⟩
   .rw[if_neg c];simp[c]
  refine Zbhn ?_;rw[if_pos (by omega)];refine⟨by omega,_,Yg hn,_,q,?_⟩;rw[Zh9 _ hn];split
  .rfl
  .rw[show w ((n:Int)+1)=((n+1:Nat):Int)from h5];exact ih
theorem Zb2e(ks:List Kept)(hl:Le ks)(info:List Za)(i:Int)(y:Za)(h0:0<=i)(hy:info[i.toNat]?=some y):Zvw ks info i=some (I (Zbe (okK y.Mask) ks 0),[]):=Zbyz (Zb2d ks hl info i y h0 hy 0 (Yb _))
theorem Zb2f(ks:List Kept)(hl:Le ks)(mask:Int):∀n,n<=ks.length->Zn0 ks mask n=some (I (Zcp (ks.drop n) mask),[]):=by
 refine down _ ?_ ?_
 .refine Zbhv ?_;rw[if_neg (by omega),Ym];rfl
 .intro n hn ih;have h5:=Zbb (i:=n) (by omega);refine Zbhv ?_;rw[if_pos (by omega)];refine⟨by omega,_,Yg hn,?_⟩;rw[Yh hn,Zcp,show w ((n:Int)+1)=((n+1:Nat):Int)from h5];unfold okK;by_cases c:ks[n].Mask=mask
  .rw[if_pos c];refine⟨_,Zdd _ _ _,?_⟩;rcases tf (inR ks[n].Size 0 4096)with e|e
   .rw[e];simp only[Y9,if_false,Bool.and_false];exact ih
   .rw[e];simp[c]
  .rw[if_neg c];simp only[c,decide_false,Ydn,Y9,if_false];exact ih
theorem Zb2g(ks:List Kept)(hl:Le ks)(mask:Int):Zvz ks mask=some (I (Zcp ks mask),[]):=Zbzc (Zb2f ks hl mask 0 (Yb _))
theorem Zb2h(steps:List Zf)(hl:steps.length<=100):∀i,i<=steps.length->∀out,out.length<=i->Zmg out steps steps.length i=some (.own 0,[.arr Zb1 1 true ((out++jst (steps.drop i) i).map ic)]):=by
 refine down _ ?_ ?_
 .intro out ho;refine Zbes ?_;rw[if_neg (by omega),Ym];simp[jst]
 .intro i hi ih out ho;have h5:=Zbb (i:=i) (by omega);refine Zbes ?_;rw[if_pos (by omega),Z9l hi];refine⟨by omega,_,Yg hi,?_⟩;rw[show w ((i:Int)+1)=((i+1:Nat):Int)from h5];by_cases c:3<=(steps[i]).Kind
  .rw[if_pos (by simpa using c),if_pos c];refine⟨by omega,?_⟩;rw[ih _ (by simp;omega)];simp
  .rw[if_neg (by simpa using c),if_neg c];exact ih _ (by omega)
theorem Zb2i(p:Plan)(hl:p.Steps.length<=100):Zpw p=some (.own 0,[.arr Zb1 1 true ((jst p.Steps 0).map ic)]):=by
 have:=Zb2h p.Steps hl 0 (Yb _) [] (Yb _);exact Zbvk (by simpa using this)
theorem Z54:∀(xs:List Zf) (i:Nat),List.Pairwise (·<·) (jst xs i)
 |[],_=>by simp[jst]
 |x::xs,i=>by
  unfold jst;split
  .refine Ybe.2 ⟨λj hj=>?_,Z54 xs (i+1)⟩;have:=Zju hj;omega
  .exact Z54 xs (i+1)
def rdB(m:Zi)(steps:List Zf)(info:List Za)(kept:List Kept)(i:Int):Bool:=match steps[i.toNat]?,info[i.toNat]? with
 |some x,some y=>decide (0<=Zcp kept y.Mask) && Zff m x.Kind (Zcp kept y.Mask)
 |_,_=>false
def rdL(m:Zi)(steps:List Zf)(info:List Za)(kept:List Kept)(i:Nat):List Int:=(jst (steps.drop i) i).filter (rdB m steps info kept)
theorem l_rs1{info:List Za}(h:lw info)(rd:List Int)(hj:inI info rd)(hl:rd.length<=1000):∀i,i<=rd.length->∀out,out.length<=i->
  Zlb info rd out rd.length i=some (.own 0,[.arr Zb1 1 true ((out++(rd.drop i).filter λi=>!(rd.any (Zcm info i))).map ic)]):=by
 refine down _ ?_ ?_
 .intro out ho;refine Zbhq ?_;rw[if_neg (by omega),Ym];simp
 .intro i hi ih out ho;have h5:=Zbb (i:=i) (by omega);refine Zbhq ?_;rw[if_pos (by omega)];refine⟨by omega,_,Yg hi,_,Zb2c h rd hj hl _,?_⟩;rw[show w ((i:Int)+1)=((i+1:Nat):Int)from h5,Yh hi,Ycw];rcases tf (rd.any (Zcm info rd[i]))with e|e
  .rw[e,if_neg (by decide),if_pos (by decide)];refine⟨by omega,?_⟩;rw[ih _ (by simp;omega)];simp
  .rw[e,if_pos rfl,if_neg (by decide)];exact ih _ (by omega)
theorem l_rs0{m:Zi}(hm:LeM m)(ha:Zcl m){p:Plan}{info:List Za}{kept:List Kept}(hk:Le kept)(hil:info.length=p.Steps.length)
  (hK:∀(j:Nat) (y:Za) (x:Zf),info[j]?=some y->p.Steps[j]?=some x->(0<=y.Right↔3<=x.Kind)/\(0<=y.Right->x.Kind<=5))
  (js:List Int) (hj:∀j∈js,0<=j/\∃x,p.Steps[j.toNat]?=some x/\3<=x.Kind) (hl:js.length<=1000) (r:AV×List Blk):∀i,i<=js.length->∀rd,rd.length<=i->
  (∀l,l=rd++(js.drop i).filter (rdB m p.Steps info kept)->Zlb info l [] l.length 0=some r)->Zla m p info rd js kept js.length i=some r:=by
 refine down _ ?_ ?_
 .intro rd ho hr;refine Zbhp ?_;rw[if_neg (by omega)];exact hr rd (by simp)
 .intro i hi ih rd ho hr;have h5:=Zbb (i:=i) (by omega);obtain⟨j0,x,hx,h3⟩:=hj _ (Yd hi);have hlt:js[i].toNat<info.length:=by
   have:=(Yy.1 hx).1;omega
  have hy:=Yg hlt;generalize hy0:info[js[i].toNat]=y at hy;have hkk:=hK _ _ _ hy hx;have h35:inR x.Kind 3 5=true:=by
   have:=hkk.2 (hkk.1.2 h3);simp[inR];omega
  have hb:rdB m p.Steps info kept js[i]=(decide (0<=Zcp kept y.Mask) && Zff m x.Kind (Zcp kept y.Mask)):=by
   unfold rdB;rw[hx,hy]
  refine Zbhp ?_;rw[if_pos (by omega)];refine⟨by omega,_,Yg hi,_,Zb2e kept hk info _ y j0 hy,?_⟩;rw[show w ((i:Int)+1)=((i+1:Nat):Int)from h5];rw[Yh hi,Ycw,hb]at hr;rcases Z53 y.Mask kept 0 with⟨f1,f2⟩|⟨j,k,f1,f2,f3,f4⟩
  .rw[f1,if_neg (by decide)];rw[f2]at hr;exact ih _ (by omega) (by simpa using hr)
  .rw[f1,if_pos (by omega)];have f5:=f3;simp only[okK,Yf,decide_eq_true_eq]at f5;have f6:=f5.2;simp[inR]at f6;refine⟨j0,_,hx,k,by simpa using f2,_,Zb19 m hm _ _,?_⟩;rw[f4,show decide (0<=k.Size)=true by simp[f6.1],Yx]at hr;rcases tf (Zff m x.Kind k.Size)with e|e
   .rw[h35,f5.2,e];rw[e]at hr;simp only[Bool.and_false,Y9,if_false]at hr|-;exact ih _ (by omega) hr
   .rw[h35,f5.2,e];rw[e]at hr;simp only[ha,decide_true,Bool.and_self,if_true]at hr|-;refine⟨by omega,ih _ (by simp;omega) (by simpa using hr)⟩
open Classical in
noncomputable def Zht(m:Zi)(q:Ze)(p:Plan)(kept:List Kept):Option (List Int):=match Zby q.Zm q.Atoms p.Steps with
 |some info=>if decide (Zcl m)=true then some (Zgw (first info) (rdL m p.Steps info kept 0))else none
 |none=>none
theorem jst_at:∀(xs:List Zf) (i:Nat) (j:Int),j∈jst xs i->∃x,xs[(j-i).toNat]?=some x/\3<=x.Kind
 |[],_,_,h=>by cases h
 |x::xs,i,j,h=>by
  unfold jst at h;have go:j∈jst xs (i+1)->∃y,(x::xs)[(j-i).toNat]?=some y/\3<=y.Kind:=λh=>by
   have:=Zju h;obtain⟨y,h1,h2⟩:=jst_at xs (i+1) j h;refine⟨y,?_,h2⟩;rw[show(j-(i:Int)).toNat=(j-((i+1:Nat):Int)).toNat+1 by omega];simpa using h1
  split at h
  .rename_i c
   cases h with
   |head=>exact⟨x,by simp,c⟩
   |tail _ h=>exact go h
  .exact go h
theorem rdL_in(m:Zi)(steps:List Zf)(info:List Za)(kept:List Kept)(hl:info.length=steps.length):inI info (rdL m steps info kept 0):=by
 intro j hj;unfold rdL at hj;have:=Zju (Y7.1 hj).1;simp at this;omega
open Classical in
theorem Zb2j(m:Zi)(hm:LeM m)(q:Ze)(hq:LeQ q)(p:Plan)(kept:List Kept)(hk:Le kept):Zny m q p kept=some (match Zht m q p kept with
  |some l=>(.own 0,[.arr Zb1 1 true (l.map ic)])
  |none=>(.t .nil,[])):=by
 have q1:=Z43 q p hq;refine Zby5 ?_;unfold Zht
 cases he:Zby q.Zm q.Atoms p.Steps with
 |none=>rw[he]at q1;exact .inl ⟨q1,rfl⟩
 |some info =>
  rw[he]at q1;obtain⟨l1,l2,l3,l4⟩:=Zpq he;obtain⟨lf,l5⟩:=Zoo he;have l6:=(Zy3 he).2;refine .inr ⟨info,q1,_,Z48 m hm,?_⟩;by_cases ha:Zcl m
  rotate_left
  .simp[ha]
  .rw[if_pos (by simp[ha])];refine⟨_,Zb2i p (by omega),?_⟩;have hjl:=Ztx p.Steps 0;refine l_rs0 hm ha hk l2 (λj y x h1 h2=>⟨l6 j y x h1 h2,l5 j y x h1 h2⟩) _ (λj hj=>?_) (by omega) _ 0 (Yb _) [] (Yb _) (λl hl=>?_)
   .have h1:=Zju hj;obtain⟨x,h2,h3⟩:=jst_at _ _ _ hj;exact⟨by omega,x,by simpa using h2,h3⟩
   .have e:l=rdL m p.Steps info kept 0:=by simpa[rdL]using hl
    subst e;have hrl:(rdL m p.Steps info kept 0).length<=1000:=by
     unfold rdL;have:=Ycb (rdB m p.Steps info kept) (jst (p.Steps.drop 0) 0);have:=Ztx (p.Steps.drop 0) 0;simp at this;simp at *
     omega
    have b:=l_rs1 lf _ (rdL_in m p.Steps info kept l2) hrl 0 (Yb _) [] (Yb _);rw[Yj,Ybl]at b;rw[show((0:Nat):Int)=0 from rfl]at b;rw[b];simp[ha];rfl
theorem l_sr0(m:Zi)(p:Plan)(out:List Int)(info:List Za)(kept:List Kept)(i f:Int)(hl:out.length<=1000)(r:AV×List Blk)(hr:Zhn m p ((out.filter λk=>decide (k<f))++[i]) info kept (w (i+1))=some r):∀k,k<=out.length->∀next,next.length<=k->next++(out.drop k).filter (λk=>decide (k<f))=out.filter (λk=>decide (k<f))->
  Zn1 m p out info next kept i f k=some r:=by
 refine down _ ?_ ?_
 .intro next ho hn
  refine Zbhx ?_;rw[if_neg (by omega)];rw[Ym,List.filter_nil,Y6]at hn;subst hn;exact⟨by omega,hr⟩
 .intro k hk ih next ho hn
  have h5:=Zbb (i:=k) (by omega);refine Zbhx ?_;rw[if_pos (by omega)];refine⟨by omega,_,Yg hk,?_⟩;rw[show w ((k:Int)+1)=((k+1:Nat):Int)from h5];rw[Yh hk,Ycw]at hn;by_cases c:out[k]<f
  .rw[if_pos (by simpa using c)]at hn|-;exact⟨by omega,ih _ (by simp;omega) (by simpa using hn)⟩
  .rw[if_neg (by simpa using c)]at hn|-;exact ih _ (by omega) hn
theorem l_sr1{m:Zi}(hm:LeM m){p:Plan}{info:List Za}{kept:List Kept}(hk:Le kept)(hil:info.length=p.Steps.length)(hl:p.Steps.length<=14)(lf:lw info)
  (hK:∀(j:Nat) (y:Za) (x:Zf),info[j]?=some y->p.Steps[j]?=some x->(0<=y.Right↔3<=x.Kind)):∀i,i<=p.Steps.length->∀out,out.length<=i->
  Zhn m p out info kept i=some (.own 0,[.arr Zb1 1 true (((rdL m p.Steps info kept i).foldl (λout i=>(out.filter λk=>decide (k<first info i))++[i]) out).map ic)]):=by
 refine down _ ?_ ?_
 .intro out ho;refine Zbhw ?_;rw[if_neg (by omega)];simp[rdL,jst]
 .intro i hi ih out ho;have h5:=Zbb (i:=i) (by omega);have hi':i<info.length:=by omega
  have hx:=Yg hi;have hy:=Yg hi';generalize hx0:p.Steps[i]=x at hx;generalize hy0:info[i]=y at hy;have hkk:=hK _ _ _ hy hx;have hb:rdB m p.Steps info kept i=(decide (0<=Zcp kept y.Mask) && Zff m x.Kind (Zcp kept y.Mask)):=by
   unfold rdB;rw[show(i:Int).toNat=i by omega,hx,hy]
  have hd:rdL m p.Steps info kept i=if 3<=x.Kind/\rdB m p.Steps info kept i=true then(i:Int)::rdL m p.Steps info kept (i+1)else rdL m p.Steps info kept (i+1):=by
   unfold rdL;rw[Z9l hi,hx0];by_cases c:3<=x.Kind
   .rw[if_pos c,Ycw];simp only[c,true_and]
   .rw[if_neg c];simp only[c,false_and,if_false]
  refine Zbhw ?_;rw[if_pos (by omega)];refine⟨by omega,y,hy,_,Zb2g kept hk _,?_⟩;have h6:w ((i:Int)+1)=((i+1:Nat):Int):=h5;by_cases c1:y.Right<0
  .rw[if_pos c1,h6];have:¬3<=x.Kind:=λhc=>by have:=hkk.2 hc;omega
   rw[hd,if_neg (λhc=>this hc.1)];exact ih _ (by omega)
  rw[if_neg c1];have c3:3<=x.Kind:=hkk.1 (by omega);by_cases c2:Zcp kept y.Mask<0
  .rw[if_pos c2,h6];have:¬0<=Zcp kept y.Mask:=by omega
   rw[hd,hb,if_neg (λhc=>by have h8:=hc.2;simp only[Yf,decide_eq_true_eq]at h8;exact this h8.1)];exact ih _ (by omega)
  rw[if_neg c2];have hn:Zcp kept y.Mask<=4096:=by
   rcases Z53 y.Mask kept 0 with⟨f1,f2⟩|⟨j,k,f1,f2,f3,f4⟩
   .omega
   .simp only[okK,Yf,inR,decide_eq_true_eq]at f3;omega
  refine⟨_,Z52 m hm _,x,by simpa using hx,_,Zwd m _,_,Zse _ hn,_,Zoc _ (hm.op _) _ _ _,?_⟩;by_cases c4:Zdg (mOp m x.Kind) 0 0 (Zef (Zcp kept y.Mask))<Zdu m (Zcp kept y.Mask)
  .rw[if_pos c4,h6];have:¬Zff m x.Kind (Zcp kept y.Mask)=true:=by unfold Zff;simp;omega
   rw[hd,hb,if_neg (λhc=>this (by have:=hc.2;simp only[Yf]at this;exact this.2))];exact ih _ (by omega)
  .rw[if_neg c4];have:Zff m x.Kind (Zcp kept y.Mask)=true:=by unfold Zff;simp;omega
   refine⟨_,Zbkt lf (by omega) (by omega),?_⟩;refine l_sr0 _ _ _ _ _ _ _ (by omega) _ ?_ 0 (Yb _) [] (Yb _) (by simp);rw[hd,hb,if_pos ⟨c3,by simp[this];omega⟩,h6];have fl:=Ycb (λk=>decide (k<first info i)) out;rw[ih _ (by simp;omega)];rfl
open Classical in
theorem Zb2k(m:Zi)(hm:LeM m)(q:Ze)(hq:LeQ q)(p:Plan)(kept:List Kept)(hk:Le kept):Zv2 m q p kept=some (.own 0,[.arr Zb1 1 true (((Zht m q p kept).getD []).map ic)]):=by
 have q1:=Z42 q p hq;refine Zbze ?_;unfold Zht
 cases he:Zby q.Zm q.Atoms p.Steps with
 |none=>rw[he]at q1;exact⟨[],false,q1,by simp⟩
 |some info =>
  rw[he]at q1;obtain⟨l1,l2,l3,l4⟩:=Zpq he;obtain⟨lf,l5⟩:=Zoo he;have l6:=(Zy3 he).2;refine⟨info,true,q1,?_⟩;rw[if_pos rfl];refine⟨_,Z47 m hm,?_⟩;by_cases ha:Zcl m
  rotate_left
  .simp[ha]
  .rw[if_pos (by simp[ha])];have b:=l_sr1 hm hk l2 l4 lf l6 0 (Yb _) [] (Yb _);have k:=keep_eq (first info) (rdL m p.Steps info kept 0) (by unfold rdL;exact(Z54 _ _).filter _);unfold keepS at k;rw[k]at b;rw[show((0:Nat):Int)=0 from rfl]at b;rw[b];simp[ha]
def ruS(l:List Zb)(i:Int):Int:=Zef ((l.getD i.toNat ⟨[],[]⟩).Rows.length:Int)
def lfC(l:List Zb)(y:Za)(i:Nat):Int:=if 0<=y.Left then ruS l y.Left else ruS l i
def rtC(l:List Zb)(y:Za):Int:=if 0<=y.Right then ruS l y.Right else 0
def stC(m:Zi)(l:List Zb)(x:Zf)(y:Za)(i:Nat):Int:=Zdg (mOp m x.Kind) (lfC l y i) (rtC l y) (ruS l i)
def alwF(o:Zk)(l r b:Int)(k:Nat):Int:=match(List.range' k (8-k)).find? (λj:Nat=>decide (b<Zdg o l r (Zbj j)))with
 |some j=>(j:Int)
 |none=>8
def obs1(m:Zi)(l:List Zb)(x:Zf)(y:Za)(b:Int):Zh:=⟨y.Mask,alwF (mOp m x.Kind) (ruS l y.Left) (ruS l y.Right) b 0,false⟩
def obs2(l:List Zb)(y:Za)(i:Nat):Zh:=⟨y.Mask,Zee ((l.getD i ⟨[],[]⟩).Rows.length:Int),true⟩
def runF(m:Zi)(l:List Zb)(bud:Int):List Zf->List Za->Nat->Int->Int->List Zh->Bool×Int×Int×List Zh
 |x::xs,y::ys,i,c,st,seen =>
  if w (bud-c)<stC m l x y i then(false,bud,st,if 3<=x.Kind then seen++[obs1 m l x y (w (bud-c))]else seen)
  else runF m l bud xs ys (i+1) (w (c+stC m l x y i)) (w (st+1)) (if 3<=x.Kind then seen++[obs2 l y i]else seen)
 |_,_,_,c,st,seen=>(true,c,st,seen)
theorem Zop{m:Zi}(hm:LeM m)(k:Int):Le (mOp m k).Steps:=by
 obtain⟨h1,h2,h3,h4,h5⟩:=hm;unfold mOp;split
 .exact h1
 .split
  .exact h2
  .split
   .exact h3
   .split
    .exact h4
    .exact h5
theorem adm_op{m:Zi}(h:Zcl m)(k:Int):Zbs (mOp m k)=true:=by
 obtain⟨h1,h2,h3,h4,h5⟩:=h;unfold mOp;split
 .exact h1.1
 .split
  .exact h2.1
  .split
   .exact h3.1
   .split
    .exact h4.1
    .exact h5.1
theorem ru_in{n:Nat}(h:n<=4096):inR (Zef (n:Int)) 0 4096=true:=by
 unfold Zef Zee;rw[if_neg (by omega)]
 repeat' split
 all_goals first|decide|omega
theorem cls_in{k:Nat}(h:k<=7):inR (Zbj (k:Int)) 0 4096=true:=by
 have:∀k:Fin 8,inR (Zbj (k.1:Int)) 0 4096=true:=by decide
 exact this ⟨k,by omega⟩
theorem opc_eq{o:Zk}(h:Zbs o=true){l r n:Int}(hl:inR l 0 4096=true)(hr:inR r 0 4096=true)(hn:inR n 0 4096=true):Zob o l r n=Zdg o l r n:=by
 unfold Zdg;rw[if_pos (by rw[h,hl,hr,hn];rfl)]
theorem Zbkv{o:Zk}{l r b:Int}{k:Nat}(h:k<8):alwF o l r b k=if b<Zdg o l r (Zbj k)then(k:Int)else alwF o l r b (k+1):=by
 unfold alwF;rw[show 8-k=(8-(k+1))+1 by omega,Yc7,List.find?_cons];by_cases e:b<Zdg o l r (Zbj k)
 .rw[if_pos e];simp[e]
 .rw[if_neg e];simp[e]
theorem Zb2l{o:Zk}(hs:Le o.Steps)(hv:Zbs o=true){l r b:Int}(hl:inR l 0 4096=true)(hr:inR r 0 4096=true):∀k:Nat,k<=8->Zqn o l r b k=some (I (alwF o l r b k),[]):=by
 refine down 8 ?_ ?_
 .refine Zbf4 ?_;rw[if_neg (by decide)];rfl
 .intro k hk ih;refine Zbf4 ?_;rw[if_pos (by omega),wS hk (by omega),Zbkv hk];refine⟨_,Zgr _,_,Zbz2 o hs _ _ _,?_⟩;rw[opc_eq hv hl hr (cls_in (by omega))];by_cases e:b<Zdg o l r (Zbj k)
  .rw[if_neg (by omega),if_pos e]
  .rw[if_pos (by omega),if_neg e];exact ih
theorem Zbkw{o:Zk}(hs:Le o.Steps)(hv:Zbs o=true){l r b:Int}(hl:inR l 0 4096=true)(hr:inR r 0 4096=true):Zb3 o l r b=some (I (alwF o l r b 0),[]) :=
 Zbw0 (Zb2l hs hv hl hr 0 (by omega))
theorem Zb2m{m:Zi}(hm:LeM m)(kd:Int){l r b:Int}:∀k:Nat,k<=8->Znw m kd l r b k=some (I (alwF (mOp m kd) l r b k),[]):=by
 refine down 8 ?_ ?_
 .refine Zbhg ?_;rw[if_neg (by decide)];rfl
 .intro k hk ih;refine Zbhg ?_;rw[if_pos (by omega),wS hk (by omega),Zbkv hk];refine⟨_,Zwd m kd,_,Zgs _,_,Zoc _ (Zop hm kd) _ _ _,?_⟩;by_cases e:b<Zdg (mOp m kd) l r (Zbj k)
  .rw[if_neg (by omega),if_pos e]
  .rw[if_pos (by omega),if_neg e];exact ih
theorem Zbkx{m:Zi}(hm:LeM m)(ha:Zcl m){kd:Int}(hk:inR kd 1 5=true){l r b:Int}(hl:inR l 0 4096=true)(hr:inR r 0 4096=true):Zk9 m kd l r b=some (I (alwF (mOp m kd) l r b 0),[]):=by
 refine Zbyk ⟨_,Z47 m hm,?_⟩;rw[if_pos (by simpa using ha)];refine⟨_,Zdd _ _ _,?_⟩;rw[hk,if_pos rfl];refine⟨_,Zdd _ _ _,?_⟩;rw[hl,if_pos rfl];refine⟨_,Zdd _ _ _,?_⟩;rw[hr,if_pos rfl];exact Zb2m hm kd 0 (by omega)
structure RunI (q:Ze) (p:Plan) (info:List Za) (l:List Zb):Prop where
 P:PI q p info
 G:GSs q info l
 len:l.length=p.Steps.length
section
variable{q:Ze}{p:Plan}{info:List Za}{l:List Zb}(R:RunI q p info l)
include R
theorem RunI.n4096(i:Int):(l.getD i.toNat ⟨[],[]⟩).Rows.length<=4096:=by
 by_cases h:i.toNat<l.length
 .obtain⟨y,_,g⟩:=R.G _ _ (Zgv h);have:=g.len;have:=Zwj y.Mask;omega
 .rw[Ybo,Ybt (by omega)];simp
theorem RunI.ru(i:Int):inR (ruS l i) 0 4096=true:=ru_in (R.n4096 i)
theorem RunI.at_{i:Nat}(hi:i<p.Steps.length):∃x y,p.Steps[i]?=some x/\info[i]?=some y/\p.Steps[i]=x/\(1<=x.Kind/\x.Kind<=5)/\(0<=y.Right↔3<=x.Kind)/\(0<=y.Right->0<=y.Left)/\(0<=y.Left->y.Left.toNat<i)/\(0<=y.Right->y.Right.toNat<i):=by
 have hl:=R.P.val.2.1;have hx:p.Steps[i]?=some p.Steps[i]:=Yg hi;have hy:info[i]?=some info[i]:=Yg (by omega);have F:=Zwl R.P.eq i _ _ hy hx;refine⟨_,_,hx,hy,rfl,?_⟩;generalize p.Steps[i]=x at *
 generalize info[i]=y at *
 have hlt:∀{s:Int} {u:Za},(info.take i)[s.toNat]?=some u->s.toNat<i:=by
  intro s u h;rw[Ybc]at h;split at h
  .assumption
  .cases h
 by_cases k1:x.Kind=1
 .obtain⟨-,rfl⟩:=F.scan k1;refine⟨by omega,?_,?_,?_,?_⟩<;>simp<;>omega
 .by_cases k2:x.Kind=2
  .obtain⟨s,u,f1,f2,-,rfl⟩:=F.sort k2;have:=hlt f2;refine⟨by omega,?_,?_,?_,?_⟩<;>simp<;>omega
  .obtain⟨s,u,t,z,o,f1,f2,f3,f4,-,rfl,f6⟩:=F.join k1 k2;have h1:=hlt f2;have h2:=hlt f4;have k3:3<=x.Kind/\x.Kind<=5:=by rcases f6 with⟨k,_⟩|⟨k,_⟩|⟨k,_⟩<;>omega
   refine⟨by omega,?_,?_,?_,?_⟩<;>simp<;>omega
theorem RunI.lf{y:Za}(i:Nat):inR (lfC l y i) 0 4096=true:=by unfold lfC;split<;>exact R.ru _
theorem RunI.rt{y:Za}:inR (rtC l y) 0 4096=true:=by
 unfold rtC;split
 .exact R.ru _
 .decide
theorem Z55{i:Nat}{x:Zf}{y:Za}(hi:i<p.Steps.length)(hy:info[i]?=some y)(hL:0<=y.Left->y.Left.toNat<i)(hR:0<=y.Right->y.Right.toNat<i)(hRL:0<=y.Right->0<=y.Left):Zhh info l i=some (.tup [I (lfC l y i),I (rtC l y),I (ruS l i)],[]):=by
 have hl:=R.len;have h0:l[(i:Int).toNat]?=some (l.getD (i:Int).toNat ⟨[],[]⟩):=Zgv (by omega);refine Zbwy ⟨by omega,_,h0,_,Zlm _,y,by rw[Ye];exact hy,?_⟩;unfold lfC rtC;by_cases h1:0<=y.Left
 .rw[if_pos h1,if_pos h1];refine⟨_,Zgv (by have:=hL h1;omega),_,Zlm _,?_⟩;by_cases h2:0<=y.Right
  .rw[if_pos h2,if_pos h2];exact⟨_,Zgv (by have:=hR h2;omega),_,Zlm _,rfl⟩
  .rw[if_neg h2,if_neg h2];rfl
 .have h2:¬0<=y.Right:=λh=>h1 (hRL h)
  rw[if_neg h1,if_neg h1,if_neg h2,if_neg h2];rfl
theorem Zbky{m:Zi}(hm:LeM m){i:Nat}{x:Zf}{y:Za}(hi:i<p.Steps.length)(hx:p.Steps[i]?=some x)(hy:info[i]?=some y)(hk:1<=x.Kind/\x.Kind<=5)(hL:0<=y.Left->y.Left.toNat<i)(hR:0<=y.Right->y.Right.toNat<i)(hRL:0<=y.Right->0<=y.Left):Zkm m p info l i=some (I (stC m l x y i),[]):=by
 refine Zbw1 ⟨_,_,_,Z55 R (x:=x) hi hy hL hR hRL,Zw0 m,by omega,x,by rw[Ye];exact hx,?_⟩;unfold stC mOp;rw[wA (by omega) (by omega)];obtain⟨a1,a2,a3,a4,a5⟩:=hm;by_cases h1:x.Kind=1
 .rw[if_pos (by omega),if_pos h1];exact⟨_,Zlg _ a1 _ _ _,rfl⟩
 .rw[if_neg (by omega),if_neg h1];by_cases h2:x.Kind=2
  .rw[if_pos (by omega),if_pos h2];exact⟨_,Zlg _ a2 _ _ _,rfl⟩
  .rw[if_neg (by omega),if_neg h2];by_cases h3:x.Kind=3
   .rw[if_pos (by omega),if_pos h3];exact⟨_,Zlg _ a3 _ _ _,rfl⟩
   .rw[if_neg (by omega),if_neg h3];by_cases h4:x.Kind=4
    .rw[if_pos (by omega),if_pos h4];exact⟨_,Zlg _ a4 _ _ _,rfl⟩
    .rw[if_neg (by omega),if_neg h4,if_pos (by omega)];exact⟨_,Zlg _ a5 _ _ _,rfl⟩
theorem RunI.last:l[((p.Steps.length-1:Nat):Int).toNat]?=some (l.getD (p.Steps.length-1) ⟨[],[]⟩)/\VS (l.getD (p.Steps.length-1) ⟨[],[]⟩):=by
 have h:=R.P.val;have hl:=R.len;have h1:l[((p.Steps.length-1:Nat):Int).toNat]?=some (l.getD ((p.Steps.length-1:Nat):Int).toNat ⟨[],[]⟩):=Zgv (by omega);rw[Ye]at h1|-;obtain⟨y,_,g⟩:=R.G _ _ h1;exact⟨h1,g.vs h.1⟩
end
section
variable{q:Ze}{p:Plan}{info:List Za}{l:List Zb}(R:RunI q p info l){m:Zi}(hm:LeM m)(ha:Zcl m)(fr:Bool)(bud:Int)
include R hm ha
omit R hm ha in
theorem Zgx{i:Nat}{k:Int}(hi:i<l.length)(h0:0<=k)(hk:k.toNat<=i):((l.take i).map (λs:Zb=>(s.Rows.length:Int))++[((l.getD i ⟨[],[]⟩).Rows.length:Int)])[k.toNat]?=some ((l.getD k.toNat ⟨[],[]⟩).Rows.length:Int):=by
 have e:(l.take i).map (λs:Zb=>(s.Rows.length:Int))++[((l.getD i ⟨[],[]⟩).Rows.length:Int)]=(l.take (i+1)).map λs:Zb=>(s.Rows.length:Int):=by
  rw[Ybn hi,Ybm,Ybo,Yg hi];rfl
 rw[e,Ycg,Ybc,if_pos (by omega),Zgv (by omega)];rfl
omit ha in
theorem x_l28{i:Nat}{x:Zf}{y:Za}(hi:i<p.Steps.length)(hx:p.Steps[i]?=some x)(hy:info[i]?=some y)(hL:0<=y.Left->y.Left.toNat<i)(hR:0<=y.Right->y.Right.toNat<i)(hRL:0<=y.Right->0<=y.Left):Zk8 m p info ((l.take i).map (λs:Zb=>(s.Rows.length:Int))++[((l.getD i ⟨[],[]⟩).Rows.length:Int)]) i=some (I (stC m l x y i),[]):=by
 have hl:=R.len;have ru:∀k:Int,Zck ((l.getD k.toNat ⟨[],[]⟩).Rows.length:Int)=some (I (ruS l k),[]):=λk=>Zse _ (by have:=R.n4096 k;omega)
 have h0:=Zgx (l:=l) (i:=i) (k:=(i:Int)) (by omega) (by omega) (by omega);refine Zbyj ⟨by omega,x,by rw[Ye];exact hx,_,Zwd m x.Kind,y,by rw[Ye];exact hy,?_⟩;unfold stC lfC rtC;by_cases h1:0<=y.Left
 .rw[if_neg (by omega),if_pos h1];have hk:=hL h1;by_cases h2:0<=y.Right
  .have hk2:=hR h2;rw[if_neg (by omega),if_pos h2];exact⟨h1,_,Zgx (l:=l) (by omega) h1 (by omega),_,ru y.Left,h2,_,Zgx (l:=l) (by omega) h2 (by omega),_,ru y.Right,_,h0,_,ru i,_,Zoc _ (Zop hm x.Kind) _ _ _,rfl⟩
  .rw[if_pos (by omega),if_neg h2];exact⟨h1,_,Zgx (l:=l) (by omega) h1 (by omega),_,ru y.Left,_,h0,_,ru i,_,Zoc _ (Zop hm x.Kind) _ _ _,rfl⟩
 .have h2:¬0<=y.Right:=λh=>h1 (hRL h)
  rw[if_pos (by omega),if_neg h1,if_neg h2];exact⟨_,h0,_,ru i,_,Zoc _ (Zop hm x.Kind) _ _ _,rfl⟩
omit R hm ha in
theorem n_next{i:Nat}(hi:i<l.length):(l.take i).map (λs:Zb=>(s.Rows.length:Int))++[((l.getD i ⟨[],[]⟩).Rows.length:Int)]=(l.take (i+1)).map λs:Zb=>(s.Rows.length:Int):=by
 rw[Ybn hi,Ybm,Ybo,Yg hi];rfl
end
open Classical in
noncomputable def rwbF(m:Zi)(d:Zl)(q:Ze)(p:Plan)(bud:Int):Option (Zb×(Bool×Int×Int×List Zh)) :=
 match Zby q.Zm q.Atoms p.Steps with
 |none=>none
 |some info=>if qFor d q=true/\Zcl m/\inR bud 0 1000000000000=true then some ((strm d q p.Steps info).getD (p.Steps.length-1) ⟨[],[]⟩,runF m (strm d q p.Steps info) bud p.Steps info 0 0 0 [])else none
def kpF(x:Kept):Bool->List Kept->List Kept
 |true,[]=>[]
 |false,[]=>[x]
 |true,e::es=>if e.Mask=x.Mask then kpF x true es else e::kpF x true es
 |false,e::es=>if x.Mask<=e.Mask then(if e.Mask=x.Mask then x::kpF x true es else x::e::kpF x true es)else(if e.Mask=x.Mask then kpF x false es else e::kpF x false es)
def kp(x:Kept)(l:List Kept):List Kept:=kpF x false l
theorem Zbkz(x:Kept)(b:Bool){l:List Kept}{i:Nat}(hi:i<l.length):kpF x b (l.drop i)=match b with
  |true=>if l[i].Mask=x.Mask then kpF x true (l.drop (i+1))else l[i]::kpF x true (l.drop (i+1))
  |false=>if x.Mask<=l[i].Mask then(if l[i].Mask=x.Mask then x::kpF x true (l.drop (i+1))else x::l[i]::kpF x true (l.drop (i+1)))else(if l[i].Mask=x.Mask then kpF x false (l.drop (i+1))else l[i]::kpF x false (l.drop (i+1))):=by
 rw[Yh hi];cases b<;>rw[kpF]
theorem app1{α:Type}(a:List α)(x:α)(b:List α):a++x::b=(a++[x])++b:=by simp
theorem Zb2n(x:Kept)(l:List Kept)(hl:l.length<=1000):∀i,i<=l.length->∀(out:List Kept) (b:Bool),out.length<=2*i->Zgk x out b l l.length i=some (.own 0,[.arr 106 2 true ((out++kpF x b (l.drop i)).map Kept.c)]):=by
 refine down _ ?_ ?_
 .intro out b ho;refine Zbhs ?_;rw[if_neg (by omega),Ym];cases b
  .rw[if_neg (by simp)];exact⟨by omega,by simp[kpF]⟩
  .rw[if_pos rfl];simp[kpF]
 .intro i hi ih out b ho;refine Zbhs ?_;rw[if_pos (by omega),wS hi (by omega)];refine⟨by omega,_,Yg (by rw[Ye];exact hi),?_⟩;simp only[Ye];rw[Zbkz x b hi];cases b
  .rw[if_neg (by simp)];dsimp only;by_cases h1:x.Mask<=l[i].Mask
   .rw[if_pos h1,if_pos h1];refine⟨by omega,?_⟩;by_cases h2:l[i].Mask=x.Mask
    .rw[if_pos h2,if_pos h2,app1 out x (kpF _ _ _)];exact ih _ _ (by simp;omega)
    .rw[if_neg h2,if_neg h2,app1 out x (l[i]::kpF _ _ _),app1 (out++[x]) l[i] (kpF _ _ _)];exact⟨by omega,ih _ _ (by simp;omega)⟩
   .rw[if_neg h1,if_neg h1];by_cases h2:l[i].Mask=x.Mask
    .rw[if_pos h2,if_pos h2];exact ih _ _ (by omega)
    .rw[if_neg h2,if_neg h2,app1 out l[i] (kpF _ _ _)];exact⟨by omega,ih _ _ (by simp;omega)⟩
  .rw[if_pos rfl];dsimp only;by_cases h2:l[i].Mask=x.Mask
   .rw[if_pos h2,if_pos h2];exact ih _ _ (by omega)
   .rw[if_neg h2,if_neg h2,app1 out l[i] (kpF _ _ _)];exact⟨by omega,ih _ _ (by simp;omega)⟩
theorem Zb2o(x:Kept)(l:List Kept)(hl:l.length<=1000):∀i,i<=l.length->∀(out:List Kept) (b:Bool),out.length<=2*i->Zgl x out l b i=some (.own 0,[.arr 106 2 true ((out++kpF x b (l.drop i)).map Kept.c)]):=by
 refine down _ ?_ ?_
 .intro out b ho;refine Zbhz ?_;rw[if_neg (by omega),Ym];cases b
  .rw[if_neg (by simp)];exact⟨by omega,by simp[kpF]⟩
  .rw[if_pos rfl];simp[kpF]
 .intro i hi ih out b ho;refine Zbhz ?_;rw[if_pos (by omega),wS hi (by omega),Zbkz x b hi];cases b
  .rw[if_neg (by simp)];refine⟨by omega,_,Yg (by rw[Ye];exact hi),?_⟩;simp only[Ye];by_cases h1:x.Mask<=l[i].Mask
   .rw[if_pos h1,if_pos h1];refine⟨by omega,?_⟩;by_cases h2:l[i].Mask=x.Mask
    .rw[if_pos h2,if_pos h2,app1 out x (kpF _ _ _)];exact ih _ _ (by simp;omega)
    .rw[if_neg h2,if_neg h2,app1 out x (l[i]::kpF _ _ _),app1 (out++[x]) l[i] (kpF _ _ _)];exact⟨by omega,ih _ _ (by simp;omega)⟩
   .rw[if_neg h1,if_neg h1];by_cases h2:l[i].Mask=x.Mask
    .rw[if_pos h2,if_pos h2];exact ih _ _ (by omega)
    .rw[if_neg h2,if_neg h2,app1 out l[i] (kpF _ _ _)];exact⟨by omega,ih _ _ (by simp;omega)⟩
  .rw[if_pos rfl];refine⟨by omega,_,Yg (by rw[Ye];exact hi),?_⟩;simp only[Ye];by_cases h2:l[i].Mask=x.Mask
   .rw[if_pos h2,if_pos h2];exact ih _ _ (by omega)
   .rw[if_neg h2,if_neg h2,app1 out l[i] (kpF _ _ _)];exact⟨by omega,ih _ _ (by simp;omega)⟩
theorem Zw1(l:List Kept)(x:Kept)(hl:l.length<=1000):Zfw l x=some (.own 0,[.arr 106 2 true ((kp x l).map Kept.c)]) :=
 Zbza (Zb2n x l hl 0 (Yb _) [] false (Yb _))
theorem Zw2(l:List Kept)(x:Kept)(hl:l.length<=1000):Zho l x=some (.own 0,[.arr 106 2 true ((kp x l).map Kept.c)]) :=
 Zbzg (Zb2o x l hl 0 (Yb _) [] false (Yb _))
theorem Zb2p{info:List Za}(h:lw info)(js:List Int)(hj:inI info js)(hl:js.length<=1000)(i:Int):∀n,n<=js.length->Zrv js info i js.length n=some (I (Zbe (Zcm info i) (js.drop n) n),[]):=by
 refine down _ ?_ ?_
 .refine Zbhr ?_;rw[if_neg (by omega),Ym];rfl
 .intro n hn ih;have h5:=Zbb (i:=n) (by omega);obtain⟨g1,g2⟩:=hj _ (Yd hn);refine Zbhr ?_;rw[if_pos (by omega)];refine⟨by omega,_,Yg hn,_,Zby7 ⟨_,Zbku h i g1 g2,rfl⟩,?_⟩;rw[Zh9 _ hn];split
  .rfl
  .rw[show w ((n:Int)+1)=((n+1:Nat):Int)from h5];exact ih
theorem Zbk0{info:List Za}(h:lw info)(js:List Int)(hj:inI info js)(hl:js.length<=1000)(i:Int):Zlc js info i=some (Bo (js.any (Zcm info i)),[]):=by
 have q:=Zb2p h js hj hl i 0 (Yb _);refine Zby9 ⟨_,Zby8 q,?_⟩;rw[Yj];rcases tf (js.any (Zcm info i))with e|e
 .rw[Zpm _ _ _ e,e];rfl
 .have:=Ztv _ _ 0 e;rw[e];simp[this]
theorem Zb2q{info:List Za}(h:lw info)(hi:info.length<=1000)(js:List Int)(hj:inI info js)(hl:js.length<=1000)(i:Int):∀n,n<=js.length->Zrw info js i n=some (Bo ((js.drop n).any (Zcm info i)),[]):=by
 refine down _ ?_ ?_
 .refine Zbhy ?_;rw[if_neg (by omega),Ym];rfl
 .intro n hn ih;obtain⟨g1,g2⟩:=hj _ (Yd hn);refine Zbhy ?_;rw[if_pos (by omega),wS hn (by omega)];refine⟨by omega,_,Yg hn,_,Zbkt h g1 g2,_,Zdd _ _ _,?_⟩;rw[wA (by omega) (by omega),Yh hn,Ydm];have e:inR i (first info js[n]) (js[n]-1)=Zcm info i js[n]:=by
   unfold inR Zcm;by_cases a:i<js[n]<;>by_cases b:first info js[n]<=i<;>simp[a,b]<;>omega
  rw[e];cases Zcm info i js[n]
  .rw[if_neg (by simp)];simpa using ih
  .rw[if_pos rfl];rfl
theorem Zbk1{info:List Za}(h:lw info)(hi:info.length<=1000)(js:List Int)(hj:inI info js)(hl:js.length<=1000)(i:Int):Zld info js i=some (Bo (js.any (Zcm info i)),[]) :=
 Zbzf (by have:=Zb2q h hi js hj hl i 0 (Yb _);rwa [Yj]at this)
def szRw(l:List Zb)(i:Nat):Int:=((l.getD i ⟨[],[]⟩).Rows.length:Int)
def kpU(x:Kept)(l:List Kept):List Kept:=if((kp x l).length:Int)<=8 then kp x l else l
theorem Zhu(x:Kept){l:List Kept}(h:l.length<=8):(kpU x l).length<=8:=by
 unfold kpU;split<;>omega
def coK(m:Zi)(l:List Zb)(rs:List Int)(x:Zf)(y:Za)(i:Nat):Int:=if has rs i=true then Zdu m (szRw l i)else stC m l x y i
def runK(m:Zi)(l:List Zb)(info:List Za)(rs:List Int)(bud:Int):List Zf->List Za->Nat->Int->Int->List Zh->List Kept->Bool×Int×Int×List Zh×List Kept
 |x::xs,y::ys,i,c,st,seen,kl =>
  if rs.any (Zcm info i)=true then runK m l info rs bud xs ys (i+1) c st seen kl
  else if w (bud-c)<coK m l rs x y i then(false,bud,st,(if 3<=x.Kind then(if has rs i=true then seen else seen++[obs1 m l x y (w (bud-c))])else seen),kl)
  else if 3<=x.Kind then runK m l info rs bud xs ys (i+1) (w (c+coK m l rs x y i)) (w (st+1)) (seen++[obs2 l y i]) (kpU ⟨y.Mask,szRw l i⟩ kl)
  else runK m l info rs bud xs ys (i+1) (w (c+coK m l rs x y i)) (w (st+1)) seen kl
 |_,_,_,c,st,seen,kl=>(true,c,st,seen,kl)
def Z9(nl:Bool)(s:Zb):Bool×Int×Int×List Zh×List Kept->AV×List Blk
 |(false,c,st,seen,kl)=>if seen=[]then(.tup [.agg [Bo false,I c,I st,.t .nil,.t .nil,.t .nil],.own 0,Bo true],[.arr 106 2 true (kl.map Kept.c)])else(.tup [.agg [Bo false,I c,I st,.own 0,.t .nil,.t .nil],.own 1,Bo true],[.arr 211 3 true (seen.map Zh.c),.arr 106 2 true (kl.map Kept.c)])
 |(true,c,st,seen,kl)=>if nl=true/\s.Rows=[]then
   (if seen=[]then(.tup [.agg [Bo true,I c,I st,.t .nil,.own 0,.t .nil],.own 1,Bo true],[.arr 3 1 true (s.Vars.map ic),.arr 106 2 true (kl.map Kept.c)])else(.tup [.agg [Bo true,I c,I st,.own 0,.own 1,.t .nil],.own 2,Bo true],[.arr 211 3 true (seen.map Zh.c),.arr 3 1 true (s.Vars.map ic),.arr 106 2 true (kl.map Kept.c)]))
  else(if seen=[]then(.tup [.agg [Bo true,I c,I st,.t .nil,.own 0,.own 1],.own 2,Bo true],[.arr 3 1 true (s.Vars.map ic),.arr 30 1 true ((ansR s.Rows).map isc),.arr 106 2 true (kl.map Kept.c)])else(.tup [.agg [Bo true,I c,I st,.own 0,.own 1,.own 2],.own 3,Bo true],[.arr 211 3 true (seen.map Zh.c),.arr 3 1 true (s.Vars.map ic),.arr 30 1 true ((ansR s.Rows).map isc),.arr 106 2 true (kl.map Kept.c)]))
section
variable{q:Ze}{p:Plan}{info:List Za}{l:List Zb}(R:RunI q p info l){m:Zi}(hm:LeM m)(ha:Zcl m)(fr:Bool)(bud:Int){rs:List Int}(hr:inI info rs)(hrl:rs.length<=14)
include R
theorem Zw3{i:Nat}{x:Zf}{y:Za}(hi:i<p.Steps.length)(hx:p.Steps[i]?=some x)(hy:info[i]?=some y)(c st:Int)(seen:List Zh)(kl:List Kept) :
  runK m l info rs bud (p.Steps.drop i) (info.drop i) i c st seen kl=if rs.any (Zcm info i)=true then runK m l info rs bud (p.Steps.drop (i+1)) (info.drop (i+1)) (i+1) c st seen kl
   else if w (bud-c)<coK m l rs x y i then(false,bud,st,(if 3<=x.Kind then(if has rs i=true then seen else seen++[obs1 m l x y (w (bud-c))])else seen),kl)
   else if 3<=x.Kind then runK m l info rs bud (p.Steps.drop (i+1)) (info.drop (i+1)) (i+1) (w (c+coK m l rs x y i)) (w (st+1)) (seen++[obs2 l y i]) (kpU ⟨y.Mask,szRw l i⟩ kl)
   else runK m l info rs bud (p.Steps.drop (i+1)) (info.drop (i+1)) (i+1) (w (c+coK m l rs x y i)) (w (st+1)) seen kl:=by
 have hl:=R.P.val.2.1;have hx':p.Steps[i]=x:=by rw[Yg hi]at hx;exact Ycj hx
 have hy':info[i]'(by omega)=y:=by rw[Yg (by omega)]at hy;exact Ycj hy
 rw[Yh hi,Yh (show i<info.length by omega),hx',hy',runK]
omit R in
theorem Zw4(c st:Int)(seen:List Zh)(kl:List Kept):runK m l info rs bud (p.Steps.drop p.Steps.length) (info.drop p.Steps.length) p.Steps.length c st seen kl=(true,c,st,seen,kl):=by rw[Ym];rfl
include hm ha hr hrl
theorem Zw5:∀i,i<=p.Steps.length->∀(c st:Int) (seen:List Zh) (kl:List Kept),seen≠[]->seen.length<=i->kl.length<=8->Zb4 m p false 0 0 kl info fr l rs false c st seen bud p.Steps p.Steps.length i=some (Z9 false (l.getD (p.Steps.length-1) ⟨[],[]⟩) (runK m l info rs bud (p.Steps.drop i) (info.drop i) i c st seen kl)):=by
 have hv:=R.P.val;have hl:=R.len;have lf:=(Zoo R.P.eq).1;refine down _ ?_ ?_
 .intro c st seen kl h0 hs hk;obtain⟨e1,e2⟩:=R.last;refine Zbhu ?_;rw[if_neg (by omega),Zw4,hl,show w ((p.Steps.length:Int)-1)=((p.Steps.length-1:Nat):Int) by rw[wA (by omega) (by omega)];omega];refine⟨by omega,_,e1,.inl ⟨_,_,Zbkj e2,?_⟩⟩;simp[Z9,h0]
 .intro i hi ih c st seen kl h0 hs hk;obtain⟨x,y,hx,hy,hxi,k15,kr,krl,hL,hR⟩:=R.at_ hi;refine Zbhu ?_;rw[if_pos (by omega),Zw3 R bud hi hx hy,wS hi (by omega)];refine⟨by omega,x,by rw[Ye];exact hx,_,Zbk0 lf rs hr (by omega) _,?_⟩;by_cases hs1:rs.any (Zcm info i)=true
  .rw[if_pos hs1,if_pos hs1];exact ih _ _ seen kl h0 (by omega) hk
  rw[if_neg hs1,if_neg hs1];refine⟨_,Zle _ _ (by omega),_,Zgv (by omega),_,_,_,Z55 R (x:=x) hi hy hL hR krl,_,Zbky R hm hi hx hy k15 hL hR krl,?_⟩;have hy2:info[(i:Int).toNat]?=some y:=by rw[Ye];exact hy
  by_cases hh:has rs i=true
  .have ec:coK m l rs x y i=Zdu m ((l.getD (i:Int).toNat ⟨[],[]⟩).Rows.length:Int):=by unfold coK;rw[if_pos hh];rfl
   rw[if_pos hh];refine⟨_,Z51 m hm _,?_⟩;rw[ec];by_cases hc:w (bud-c)<Zdu m ((l.getD (i:Int).toNat ⟨[],[]⟩).Rows.length:Int)
   .rw[if_pos hc,if_pos hc];by_cases h3:3<=x.Kind
    .rw[if_pos h3,if_pos h3,if_pos hh];simp[Z9,h0]
    .rw[if_neg h3,if_neg h3];simp[Z9,h0]
   .rw[if_neg hc,if_neg hc];by_cases h3:3<=x.Kind
    .rw[if_pos h3,if_pos h3];refine⟨y,hy2,_,Zsc _,(by omega),_,Zw1 _ _ (by omega),?_⟩;have hK:=Zhu ⟨y.Mask,szRw l i⟩ hk;have e0:(⟨y.Mask,((l.getD (i:Int).toNat ⟨[],[]⟩).Rows.length:Int)⟩:Kept)=⟨y.Mask,szRw l i⟩:=rfl;rw[e0];by_cases h8:((kp ⟨y.Mask,szRw l i⟩ kl).length:Int)<=8
     .have e9:kpU ⟨y.Mask,szRw l i⟩ kl=kp ⟨y.Mask,szRw l i⟩ kl:=by unfold kpU;rw[if_pos h8]
      rw[if_pos h8,e9];exact ih _ _ _ _ (by simp) (by simp;omega) (by omega)
     .have e9:kpU ⟨y.Mask,szRw l i⟩ kl=kl:=by unfold kpU;rw[if_neg h8]
      rw[if_neg h8,e9];exact ih _ _ _ _ (by simp) (by simp;omega) hk
    .rw[if_neg h3,if_neg h3];exact ih _ _ seen kl h0 (by omega) hk
  .have ec:coK m l rs x y i=stC m l x y i:=by unfold coK;rw[if_neg hh]
   rw[if_neg hh,ec];by_cases hc:w (bud-c)<stC m l x y i
   .rw[if_pos hc,if_pos hc];by_cases h3:3<=x.Kind
    .rw[if_pos h3,if_pos h3,if_neg hh];have h5:0<=y.Right:=kr.2 h3;have e1:lfC l y i=ruS l y.Left:=by unfold lfC;rw[if_pos (krl h5)]
     have e2:rtC l y=ruS l y.Right:=by unfold rtC;rw[if_pos h5]
     rw[e1,e2];have hA:∀o,mOp m x.Kind=o->Zb3 o (ruS l y.Left) (ruS l y.Right) (w (bud-c))=some (I (obs1 m l x y (w (bud-c))).Class,[]):=by
      intro o ho;have:=Zbkw (Zop hm x.Kind) (adm_op ha x.Kind) (b:=w (bud-c)) (R.ru y.Left) (R.ru y.Right);rw[ho]at this;rw[this];simp only[obs1,ho]
     have res:Z9 false (l.getD (p.Steps.length-1) ⟨[],[]⟩) (false,bud,st,seen++[obs1 m l x y (w (bud-c))],kl)=(.tup [.agg [Bo false,I bud,I st,.own 0,.t .nil,.t .nil],.own 1,Bo true],[.arr 211 3 true ((seen++[(⟨y.Mask,(obs1 m l x y (w (bud-c))).Class,false⟩:Zh)]).map Zh.c),.arr 106 2 true (kl.map Kept.c)]):=by
      simp[Z9,obs1]
     rw[res];refine⟨Zw0 m,?_⟩;rw[wA (by omega) (by omega),if_neg (by omega),if_neg (by omega)];by_cases g3:x.Kind=3
     .rw[if_pos (by omega)];exact⟨_,hA m.Hash (by simp[mOp,g3]),y,hy2,(by omega),rfl⟩
     .rw[if_neg (by omega)];by_cases g4:x.Kind=4
      .rw[if_pos (by omega)];exact⟨_,hA m.Merge (by simp[mOp,g4]),y,hy2,(by omega),rfl⟩
      .rw[if_neg (by omega),if_pos (by omega)];exact⟨_,hA m.Nested (by simp[mOp,show x.Kind=5 by omega]),y,hy2,(by omega),rfl⟩
    .rw[if_neg h3,if_neg h3];simp[Z9,h0]
   .rw[if_neg hc,if_neg hc];by_cases h3:3<=x.Kind
    .rw[if_pos h3,if_pos h3];refine⟨y,hy2,_,Zsc _,(by omega),_,Zw1 _ _ (by omega),?_⟩;have hK:=Zhu ⟨y.Mask,szRw l i⟩ hk;have e0:(⟨y.Mask,((l.getD (i:Int).toNat ⟨[],[]⟩).Rows.length:Int)⟩:Kept)=⟨y.Mask,szRw l i⟩:=rfl;rw[e0];by_cases h8:((kp ⟨y.Mask,szRw l i⟩ kl).length:Int)<=8
     .have e9:kpU ⟨y.Mask,szRw l i⟩ kl=kp ⟨y.Mask,szRw l i⟩ kl:=by unfold kpU;rw[if_pos h8]
      rw[if_pos h8,e9];exact ih _ _ _ _ (by simp) (by simp;omega) (by omega)
     .have e9:kpU ⟨y.Mask,szRw l i⟩ kl=kl:=by unfold kpU;rw[if_neg h8]
      rw[if_neg h8,e9];exact ih _ _ _ _ (by simp) (by simp;omega) hk
    .rw[if_neg h3,if_neg h3];exact ih _ _ seen kl h0 (by omega) hk
theorem Zb2r:∀i,i<=p.Steps.length->∀(c st:Int) (kl:List Kept),kl.length<=8->Zfx m p false 0 0 kl info fr l rs false c st bud p.Steps p.Steps.length i=some (Z9 false (l.getD (p.Steps.length-1) ⟨[],[]⟩) (runK m l info rs bud (p.Steps.drop i) (info.drop i) i c st [] kl)):=by
 have hv:=R.P.val;have hl:=R.len;have lf:=(Zoo R.P.eq).1;refine down _ ?_ ?_
 .intro c st kl hk;obtain⟨e1,e2⟩:=R.last;refine Zbht ?_;rw[if_neg (by omega),Zw4,hl,show w ((p.Steps.length:Int)-1)=((p.Steps.length-1:Nat):Int) by rw[wA (by omega) (by omega)];omega];refine⟨by omega,_,e1,.inl ⟨_,_,Zbkj e2,?_⟩⟩;simp[Z9]
 .intro i hi ih c st kl hk;obtain⟨x,y,hx,hy,hxi,k15,kr,krl,hL,hR⟩:=R.at_ hi;refine Zbht ?_;rw[if_pos (by omega),Zw3 R bud hi hx hy,wS hi (by omega)];refine⟨by omega,x,by rw[Ye];exact hx,_,Zbk0 lf rs hr (by omega) _,?_⟩;by_cases hs1:rs.any (Zcm info i)=true
  .rw[if_pos hs1,if_pos hs1];exact ih _ _ kl hk
  rw[if_neg hs1,if_neg hs1];refine⟨_,Zle _ _ (by omega),_,Zgv (by omega),_,_,_,Z55 R (x:=x) hi hy hL hR krl,_,Zbky R hm hi hx hy k15 hL hR krl,?_⟩;have hy2:info[(i:Int).toNat]?=some y:=by rw[Ye];exact hy
  by_cases hh:has rs i=true
  .have ec:coK m l rs x y i=Zdu m ((l.getD (i:Int).toNat ⟨[],[]⟩).Rows.length:Int):=by unfold coK;rw[if_pos hh];rfl
   rw[if_pos hh];refine⟨_,Z51 m hm _,?_⟩;rw[ec];by_cases hc:w (bud-c)<Zdu m ((l.getD (i:Int).toNat ⟨[],[]⟩).Rows.length:Int)
   .rw[if_pos hc,if_pos hc];by_cases h3:3<=x.Kind
    .rw[if_pos h3,if_pos h3,if_pos hh];simp[Z9]
    .rw[if_neg h3,if_neg h3];simp[Z9]
   .rw[if_neg hc,if_neg hc];by_cases h3:3<=x.Kind
    .rw[if_pos h3,if_pos h3];refine⟨y,hy2,_,Zsc _,_,Zw1 _ _ (by omega),?_⟩;have hK:=Zhu ⟨y.Mask,szRw l i⟩ hk;have e0:(⟨y.Mask,((l.getD (i:Int).toNat ⟨[],[]⟩).Rows.length:Int)⟩:Kept)=⟨y.Mask,szRw l i⟩:=rfl;rw[e0];by_cases h8:((kp ⟨y.Mask,szRw l i⟩ kl).length:Int)<=8
     .have e9:kpU ⟨y.Mask,szRw l i⟩ kl=kp ⟨y.Mask,szRw l i⟩ kl:=by unfold kpU;rw[if_pos h8]
      rw[if_pos h8,e9];exact Zw5 R hm ha fr bud hr hrl (i+1) hi _ _ _ _ (by simp) (by simp) (by omega)
     .have e9:kpU ⟨y.Mask,szRw l i⟩ kl=kl:=by unfold kpU;rw[if_neg h8]
      rw[if_neg h8,e9];exact Zw5 R hm ha fr bud hr hrl (i+1) hi _ _ _ _ (by simp) (by simp) hk
    .rw[if_neg h3,if_neg h3];exact ih _ _ kl hk
  .have ec:coK m l rs x y i=stC m l x y i:=by unfold coK;rw[if_neg hh]
   rw[if_neg hh,ec];by_cases hc:w (bud-c)<stC m l x y i
   .rw[if_pos hc,if_pos hc];by_cases h3:3<=x.Kind
    .rw[if_pos h3,if_pos h3,if_neg hh];have h5:0<=y.Right:=kr.2 h3;have e1:lfC l y i=ruS l y.Left:=by unfold lfC;rw[if_pos (krl h5)]
     have e2:rtC l y=ruS l y.Right:=by unfold rtC;rw[if_pos h5]
     rw[e1,e2];have hA:∀o,mOp m x.Kind=o->Zb3 o (ruS l y.Left) (ruS l y.Right) (w (bud-c))=some (I (obs1 m l x y (w (bud-c))).Class,[]):=by
      intro o ho;have:=Zbkw (Zop hm x.Kind) (adm_op ha x.Kind) (b:=w (bud-c)) (R.ru y.Left) (R.ru y.Right);rw[ho]at this;rw[this];simp only[obs1,ho]
     have res:Z9 false (l.getD (p.Steps.length-1) ⟨[],[]⟩) (false,bud,st,[]++[obs1 m l x y (w (bud-c))],kl)=(.tup [.agg [Bo false,I bud,I st,.own 0,.t .nil,.t .nil],.own 1,Bo true],[.arr 211 3 true (([(⟨y.Mask,(obs1 m l x y (w (bud-c))).Class,false⟩:Zh)]).map Zh.c),.arr 106 2 true (kl.map Kept.c)]):=by
      simp[Z9,obs1]
     rw[res];refine⟨Zw0 m,?_⟩;rw[wA (by omega) (by omega),if_neg (by omega),if_neg (by omega)];by_cases g3:x.Kind=3
     .rw[if_pos (by omega)];exact⟨_,hA m.Hash (by simp[mOp,g3]),y,hy2,rfl⟩
     .rw[if_neg (by omega)];by_cases g4:x.Kind=4
      .rw[if_pos (by omega)];exact⟨_,hA m.Merge (by simp[mOp,g4]),y,hy2,rfl⟩
      .rw[if_neg (by omega),if_pos (by omega)];exact⟨_,hA m.Nested (by simp[mOp,show x.Kind=5 by omega]),y,hy2,rfl⟩
    .rw[if_neg h3,if_neg h3];simp[Z9]
   .rw[if_neg hc,if_neg hc];by_cases h3:3<=x.Kind
    .rw[if_pos h3,if_pos h3];refine⟨y,hy2,_,Zsc _,_,Zw1 _ _ (by omega),?_⟩;have hK:=Zhu ⟨y.Mask,szRw l i⟩ hk;have e0:(⟨y.Mask,((l.getD (i:Int).toNat ⟨[],[]⟩).Rows.length:Int)⟩:Kept)=⟨y.Mask,szRw l i⟩:=rfl;rw[e0];by_cases h8:((kp ⟨y.Mask,szRw l i⟩ kl).length:Int)<=8
     .have e9:kpU ⟨y.Mask,szRw l i⟩ kl=kp ⟨y.Mask,szRw l i⟩ kl:=by unfold kpU;rw[if_pos h8]
      rw[if_pos h8,e9];exact Zw5 R hm ha fr bud hr hrl (i+1) hi _ _ _ _ (by simp) (by simp) (by omega)
     .have e9:kpU ⟨y.Mask,szRw l i⟩ kl=kl:=by unfold kpU;rw[if_neg h8]
      rw[if_neg h8,e9];exact Zw5 R hm ha fr bud hr hrl (i+1) hi _ _ _ _ (by simp) (by simp) hk
    .rw[if_neg h3,if_neg h3];exact ih _ _ kl hk
theorem Zw6:∀i,i<=p.Steps.length->∀(c st:Int) (seen:List Zh) (kl:List Kept),seen≠[]->seen.length<=i->kl.length<=8->Zdc m p false 0 0 l info kl rs ((l.take i).map λs:Zb=>(s.Rows.length:Int)) false c st seen bud i=some (Z9 true (l.getD (p.Steps.length-1) ⟨[],[]⟩) (runK m l info rs bud (p.Steps.drop i) (info.drop i) i c st seen kl)):=by
 have hv:=R.P.val;have hl:=R.len;have lf:=(Zoo R.P.eq).1;refine down _ ?_ ?_
 .intro c st seen kl h0 hs hk;obtain⟨e1,e2⟩:=R.last;have hA:=Zbko e2;refine Zbh1 ?_;rw[if_neg (by omega),Zw4,hl,show w ((p.Steps.length:Int)-1)=((p.Steps.length-1:Nat):Int) by rw[wA (by omega) (by omega)];omega];refine⟨by omega,_,e1,?_⟩;unfold ansF at hA;by_cases e:(l.getD (p.Steps.length-1) ⟨[],[]⟩).Rows=[]
  .rw[if_pos e]at hA;refine .inr (.inl ⟨_,hA,?_⟩);simp[Z9,e,h0,-List.getD_eq_getElem?_getD]
  .rw[if_neg e]at hA;refine .inr (.inr ⟨_,_,hA,?_⟩);simp[Z9,e,h0,-List.getD_eq_getElem?_getD]
 .intro i hi ih c st seen kl h0 hs hk;obtain⟨x,y,hx,hy,hxi,k15,kr,krl,hL,hR⟩:=R.at_ hi;have hnl:((l.take i).map λs:Zb=>(s.Rows.length:Int)).length<=14:=by simp;omega
  have h46:((l.getD (i:Int).toNat ⟨[],[]⟩).Rows.length:Int)<=4096:=by have:=R.n4096 i;omega
  have ru:∀k:Int,Zck ((l.getD k.toNat ⟨[],[]⟩).Rows.length:Int)=some (I (ruS l k),[]):=λk=>Zse _ (by have:=R.n4096 k;omega)
  refine Zbh1 ?_;rw[if_pos (by omega),Zw3 R bud hi hx hy,wS hi (by omega)];refine⟨by omega,_,Zgv (by omega),by omega,_,Zbk1 lf (by omega) rs hr (by omega) _,?_⟩;have hg:=Zgx (l:=l) (i:=i) (k:=(i:Int)) (by omega) (by omega) (by omega);have hn:=n_next (l:=l) (i:=i) (by omega);have hy2:info[(i:Int).toNat]?=some y:=by rw[Ye];exact hy
  by_cases hs1:rs.any (Zcm info i)=true
  .rw[if_pos hs1,if_pos hs1];simp only[Ye];rw[hn];exact ih _ _ seen kl h0 (by omega) hk
  rw[if_neg hs1,if_neg hs1];refine⟨_,x_l28 R hm hi hx hy hL hR krl,_,Zr3 _ _ (by omega),?_⟩;by_cases hh:has rs i=true
  .have ec:coK m l rs x y i=Zdu m ((l.getD (i:Int).toNat ⟨[],[]⟩).Rows.length:Int):=by unfold coK;rw[if_pos hh];rfl
   rw[if_pos hh];refine⟨_,hg,_,Z52 m hm _,?_⟩;rw[ec];by_cases hc:w (bud-c)<Zdu m ((l.getD (i:Int).toNat ⟨[],[]⟩).Rows.length:Int)
   .rw[if_pos hc,if_pos hc];refine⟨y,hy2,?_⟩;by_cases h3:3<=x.Kind
    .rw[if_pos (kr.2 h3),if_pos h3,if_pos hh];simp[Z9,h0]
    .rw[if_neg (λh=>h3 (kr.1 h)),if_neg h3];simp[Z9,h0]
   .rw[if_neg hc,if_neg hc];refine⟨y,hy2,?_⟩;by_cases h3:3<=x.Kind
    .rw[if_pos (kr.2 h3),if_pos h3];simp only[Ye]at hn|-;rw[hn];refine⟨_,Zsd _ h46,(by omega),_,Zw2 _ _ (by omega),?_⟩;have hK:=Zhu ⟨y.Mask,szRw l i⟩ hk;have e0:(⟨y.Mask,((l.getD i ⟨[],[]⟩).Rows.length:Int)⟩:Kept)=⟨y.Mask,szRw l i⟩:=rfl;rw[e0];by_cases h8:((kp ⟨y.Mask,szRw l i⟩ kl).length:Int)<=8
     .have e9:kpU ⟨y.Mask,szRw l i⟩ kl=kp ⟨y.Mask,szRw l i⟩ kl:=by unfold kpU;rw[if_pos h8]
      rw[if_pos h8,e9];exact ih _ _ _ _ (by simp) (by simp;omega) (by omega)
     .have e9:kpU ⟨y.Mask,szRw l i⟩ kl=kl:=by unfold kpU;rw[if_neg h8]
      rw[if_neg h8,e9];exact ih _ _ _ _ (by simp) (by simp;omega) hk
    .rw[if_neg (λh=>h3 (kr.1 h)),if_neg h3];simp only[Ye];rw[hn];exact ih _ _ seen kl h0 (by omega) hk
  .have ec:coK m l rs x y i=stC m l x y i:=by unfold coK;rw[if_neg hh]
   rw[if_neg hh,ec];by_cases hc:w (bud-c)<stC m l x y i
   .rw[if_pos hc,if_pos hc];refine⟨y,hy2,?_⟩;by_cases h3:3<=x.Kind
    .have h5:0<=y.Right:=kr.2 h3;have h6:=krl h5;rw[if_pos h5,if_pos h3,if_neg hh];refine⟨x,by rw[Ye];exact hx,h6,_,Zgx (l:=l) (by omega) h6 (by have:=hL h6;omega),_,ru y.Left,_,Zgx (l:=l) (by omega) h5 (by have:=hR h5;omega),_,ru y.Right,_,Zbkx hm ha (by simp[inR];omega) (R.ru _) (R.ru _),(by omega),?_⟩;simp[Z9,obs1]
    .rw[if_neg (λh=>h3 (kr.1 h)),if_neg h3];simp[Z9,h0]
   .rw[if_neg hc,if_neg hc];refine⟨y,hy2,?_⟩;by_cases h3:3<=x.Kind
    .rw[if_pos (kr.2 h3),if_pos h3];refine⟨_,hg,?_⟩;simp only[Ye]at hn|-;rw[hn];refine⟨_,Zsd _ h46,(by omega),_,Zw2 _ _ (by omega),?_⟩;have hK:=Zhu ⟨y.Mask,szRw l i⟩ hk;have e0:(⟨y.Mask,((l.getD i ⟨[],[]⟩).Rows.length:Int)⟩:Kept)=⟨y.Mask,szRw l i⟩:=rfl;rw[e0];by_cases h8:((kp ⟨y.Mask,szRw l i⟩ kl).length:Int)<=8
     .have e9:kpU ⟨y.Mask,szRw l i⟩ kl=kp ⟨y.Mask,szRw l i⟩ kl:=by unfold kpU;rw[if_pos h8]
      rw[if_pos h8,e9];exact ih _ _ _ _ (by simp) (by simp;omega) (by omega)
     .have e9:kpU ⟨y.Mask,szRw l i⟩ kl=kl:=by unfold kpU;rw[if_neg h8]
      rw[if_neg h8,e9];exact ih _ _ _ _ (by simp) (by simp;omega) hk
    .rw[if_neg (λh=>h3 (kr.1 h)),if_neg h3];simp only[Ye];rw[hn];exact ih _ _ seen kl h0 (by omega) hk
theorem Zb2s:∀i,i<=p.Steps.length->∀(c st:Int) (kl:List Kept),kl.length<=8->Zhp m p false 0 0 l info kl rs ((l.take i).map λs:Zb=>(s.Rows.length:Int)) false c st bud i=some (Z9 true (l.getD (p.Steps.length-1) ⟨[],[]⟩) (runK m l info rs bud (p.Steps.drop i) (info.drop i) i c st [] kl)):=by
 have hv:=R.P.val;have hl:=R.len;have lf:=(Zoo R.P.eq).1;refine down _ ?_ ?_
 .intro c st kl hk;obtain⟨e1,e2⟩:=R.last;have hA:=Zbko e2;refine Zbh0 ?_;rw[if_neg (by omega),Zw4,hl,show w ((p.Steps.length:Int)-1)=((p.Steps.length-1:Nat):Int) by rw[wA (by omega) (by omega)];omega];refine⟨by omega,_,e1,?_⟩;unfold ansF at hA;by_cases e:(l.getD (p.Steps.length-1) ⟨[],[]⟩).Rows=[]
  .rw[if_pos e]at hA;refine .inr (.inl ⟨_,hA,?_⟩);simp[Z9,e,-List.getD_eq_getElem?_getD]
  .rw[if_neg e]at hA;refine .inr (.inr ⟨_,_,hA,?_⟩);simp[Z9,e,-List.getD_eq_getElem?_getD]
 .intro i hi ih c st kl hk;obtain⟨x,y,hx,hy,hxi,k15,kr,krl,hL,hR⟩:=R.at_ hi;have hnl:((l.take i).map λs:Zb=>(s.Rows.length:Int)).length<=14:=by simp;omega
  have h46:((l.getD (i:Int).toNat ⟨[],[]⟩).Rows.length:Int)<=4096:=by have:=R.n4096 i;omega
  have ru:∀k:Int,Zck ((l.getD k.toNat ⟨[],[]⟩).Rows.length:Int)=some (I (ruS l k),[]):=λk=>Zse _ (by have:=R.n4096 k;omega)
  refine Zbh0 ?_;rw[if_pos (by omega),Zw3 R bud hi hx hy,wS hi (by omega)];refine⟨by omega,_,Zgv (by omega),by omega,_,Zbk1 lf (by omega) rs hr (by omega) _,?_⟩;have hg:=Zgx (l:=l) (i:=i) (k:=(i:Int)) (by omega) (by omega) (by omega);have hn:=n_next (l:=l) (i:=i) (by omega);have hy2:info[(i:Int).toNat]?=some y:=by rw[Ye];exact hy
  by_cases hs1:rs.any (Zcm info i)=true
  .rw[if_pos hs1,if_pos hs1];simp only[Ye];rw[hn];exact ih _ _ kl hk
  rw[if_neg hs1,if_neg hs1];refine⟨_,x_l28 R hm hi hx hy hL hR krl,_,Zr3 _ _ (by omega),?_⟩;by_cases hh:has rs i=true
  .have ec:coK m l rs x y i=Zdu m ((l.getD (i:Int).toNat ⟨[],[]⟩).Rows.length:Int):=by unfold coK;rw[if_pos hh];rfl
   rw[if_pos hh];refine⟨_,hg,_,Z52 m hm _,?_⟩;rw[ec];by_cases hc:w (bud-c)<Zdu m ((l.getD (i:Int).toNat ⟨[],[]⟩).Rows.length:Int)
   .rw[if_pos hc,if_pos hc];refine⟨y,hy2,?_⟩;by_cases h3:3<=x.Kind
    .rw[if_pos (kr.2 h3),if_pos h3,if_pos hh];simp[Z9]
    .rw[if_neg (λh=>h3 (kr.1 h)),if_neg h3];simp[Z9]
   .rw[if_neg hc,if_neg hc];refine⟨y,hy2,?_⟩;by_cases h3:3<=x.Kind
    .rw[if_pos (kr.2 h3),if_pos h3];simp only[Ye]at hn|-;rw[hn];refine⟨_,Zsd _ h46,_,Zw2 _ _ (by omega),?_⟩;have hK:=Zhu ⟨y.Mask,szRw l i⟩ hk;have e0:(⟨y.Mask,((l.getD i ⟨[],[]⟩).Rows.length:Int)⟩:Kept)=⟨y.Mask,szRw l i⟩:=rfl;rw[e0];by_cases h8:((kp ⟨y.Mask,szRw l i⟩ kl).length:Int)<=8
     .have e9:kpU ⟨y.Mask,szRw l i⟩ kl=kp ⟨y.Mask,szRw l i⟩ kl:=by unfold kpU;rw[if_pos h8]
      rw[if_pos h8,e9];exact Zw6 R hm ha bud hr hrl (i+1) hi _ _ _ _ (by simp) (by simp) (by omega)
     .have e9:kpU ⟨y.Mask,szRw l i⟩ kl=kl:=by unfold kpU;rw[if_neg h8]
      rw[if_neg h8,e9];exact Zw6 R hm ha bud hr hrl (i+1) hi _ _ _ _ (by simp) (by simp) hk
    .rw[if_neg (λh=>h3 (kr.1 h)),if_neg h3];simp only[Ye];rw[hn];exact ih _ _ kl hk
  .have ec:coK m l rs x y i=stC m l x y i:=by unfold coK;rw[if_neg hh]
   rw[if_neg hh,ec];by_cases hc:w (bud-c)<stC m l x y i
   .rw[if_pos hc,if_pos hc];refine⟨y,hy2,?_⟩;by_cases h3:3<=x.Kind
    .have h5:0<=y.Right:=kr.2 h3;have h6:=krl h5;rw[if_pos h5,if_pos h3,if_neg hh];refine⟨x,by rw[Ye];exact hx,h6,_,Zgx (l:=l) (by omega) h6 (by have:=hL h6;omega),_,ru y.Left,_,Zgx (l:=l) (by omega) h5 (by have:=hR h5;omega),_,ru y.Right,_,Zbkx hm ha (by simp[inR];omega) (R.ru _) (R.ru _),?_⟩;simp[Z9,obs1]
    .rw[if_neg (λh=>h3 (kr.1 h)),if_neg h3];simp[Z9]
   .rw[if_neg hc,if_neg hc];refine⟨y,hy2,?_⟩;by_cases h3:3<=x.Kind
    .rw[if_pos (kr.2 h3),if_pos h3];refine⟨_,hg,?_⟩;simp only[Ye]at hn|-;rw[hn];refine⟨_,Zsd _ h46,_,Zw2 _ _ (by omega),?_⟩;have hK:=Zhu ⟨y.Mask,szRw l i⟩ hk;have e0:(⟨y.Mask,((l.getD i ⟨[],[]⟩).Rows.length:Int)⟩:Kept)=⟨y.Mask,szRw l i⟩:=rfl;rw[e0];by_cases h8:((kp ⟨y.Mask,szRw l i⟩ kl).length:Int)<=8
     .have e9:kpU ⟨y.Mask,szRw l i⟩ kl=kp ⟨y.Mask,szRw l i⟩ kl:=by unfold kpU;rw[if_pos h8]
      rw[if_pos h8,e9];exact Zw6 R hm ha bud hr hrl (i+1) hi _ _ _ _ (by simp) (by simp) (by omega)
     .have e9:kpU ⟨y.Mask,szRw l i⟩ kl=kl:=by unfold kpU;rw[if_neg h8]
      rw[if_neg h8,e9];exact Zw6 R hm ha bud hr hrl (i+1) hi _ _ _ _ (by simp) (by simp) hk
    .rw[if_neg (λh=>h3 (kr.1 h)),if_neg h3];simp only[Ye];rw[hn];exact ih _ _ kl hk
end
open Classical in
noncomputable def rrF(m:Zi)(d:Zl)(q:Ze)(p:Plan)(bud:Int)(kept:List Kept):Option (Zb×(Bool×Int×Int×List Zh×List Kept)) :=
 match Zby q.Zm q.Atoms p.Steps with
 |none=>none
 |some info=>if qFor d q=true/\Zcl m/\inR bud 0 1000000000000=true/\kept.length<=8 then some ((strm d q p.Steps info).getD (p.Steps.length-1) ⟨[],[]⟩,runK m (strm d q p.Steps info) info ((Zht m q p kept).getD []) bud p.Steps info 0 0 0 [] kept)else none
def noKR(kept:List Kept):AV×List Blk:=(.tup [.agg [Bo false,I 0,I 0,.t .nil,.t .nil,.t .nil],.own 0,Bo false],[.arr 106 2 true (kept.map Kept.c)])
def rrR(nl:Bool)(kept:List Kept):Option (Zb×(Bool×Int×Int×List Zh×List Kept))->AV×List Blk
 |none=>noKR kept
 |some (s,r)=>Z9 nl s r
open Classical in
theorem Zbk2{m:Zi}(ha:Zcl m){q:Ze}{p:Plan}{info:List Za}(P:PI q p info)(kept:List Kept):∃rs,Zht m q p kept=some rs/\inI info rs/\rs.length<=14:=by
 have hv:=P.val;have e:Zht m q p kept=some (Zgw (first info) (rdL m p.Steps info kept 0)):=by
  unfold Zht;rw[P.eq];simp[ha]
 refine⟨_,e,?_,?_⟩
 .intro j hj;unfold Zgw rdL at hj;have:=Zju (Y7.1 (Y7.1 hj).1).1;simp only[Yj]at this;omega
 .unfold Zgw;have h1:=Ycb (λi=>!((rdL m p.Steps info kept 0).any λk=>decide (i<k) && decide (first info k<=i))) (rdL m p.Steps info kept 0);have h2:(rdL m p.Steps info kept 0).length<=p.Steps.length:=by
   unfold rdL;have:=Ycb (rdB m p.Steps info kept) (jst (p.Steps.drop 0) 0);have:=Ztx (p.Steps.drop 0) 0;simp only[Yj]at *
   omega
  omega
theorem Zb2t{m:Zi}(hm:LeM m){d:Zl}(hd:LeD d){q:Ze}(hq:LeQ q)(p:Plan)(bud:Int)(kept:List Kept)(hk:kept.length<=4294967296):Zvy m d q p bud kept=some (rrR false kept (rrF m d q p bud kept)):=by
 unfold rrF
 cases e:Zby q.Zm q.Atoms p.Steps with
 |none=>exact Z4y ⟨by omega,.inl ⟨Zbkd hd hq (.inl e),rfl⟩⟩
 |some info =>
  dsimp only;have P:PI q p info:=⟨e⟩;by_cases h:qFor d q=true
  .obtain⟨fr,hx⟩:=Zb10 hd hq h P;have hg:=Z50 h P;have R:RunI q p info (strm d q p.Steps info):=⟨P,hg.1,hg.2⟩;refine Z4y ⟨by omega,.inr ⟨_,_,_,hx,_,Z48 m hm,?_⟩⟩;by_cases ha:Zcl m
   .rw[if_pos (by simpa using ha)];refine⟨_,Zc2 _ _ _,?_⟩;rcases tf (inR bud 0 1000000000000)with hb|hb
    .rw[hb,if_neg (by decide),if_neg (by simp)];rfl
    .rw[hb,if_pos rfl];by_cases h8:kept.length<=8
     .obtain⟨rs,r1,r2,r3⟩:=Zbk2 ha P kept;have hr:=Zb2j m hm q hq p kept (by omega);rw[r1]at hr|-;rw[if_neg (by omega),if_pos ⟨h,ha,rfl,h8⟩];refine .inr ⟨rs,hr,?_⟩;have:=Zb2r R hm ha fr bud r2 r3 0 (Yb _) 0 0 kept h8;simpa[rrR]using this
     .rw[if_pos (by omega),if_neg (λhh=>h8 hh.2.2.2)];rfl
   .rw[if_neg (by simpa using ha),if_neg (λhh=>ha hh.2.1)];rfl
  .rw[if_neg (λhh=>h hh.1)];exact Z4y ⟨by omega,.inl ⟨Zbkd hd hq (.inr (by simpa using h)),rfl⟩⟩
theorem Zb2u{m:Zi}(hm:LeM m){d:Zl}(hd:LeD d){q:Ze}(hq:LeQ q)(p:Plan)(bud:Int)(kept:List Kept)(hk:kept.length<=4294967296):Zv3 m d q p bud kept=some (rrR true kept (rrF m d q p bud kept)):=by
 unfold rrF
 cases e:Zby q.Zm q.Atoms p.Steps with
 |none =>
  obtain⟨info,hx⟩:=Zbke hd hq (p:=p) (.inl e);refine Z4z ⟨_,_,_,hx,by omega,?_⟩
  rw[if_neg (by decide)];rfl
 |some info =>
  dsimp only;have P:PI q p info:=⟨e⟩;by_cases h:qFor d q=true
  .have hx:=Zb11 hd hq h P;have hg:=Z50 h P;have R:RunI q p info (strm d q p.Steps info):=⟨P,hg.1,hg.2⟩;refine Z4z ⟨_,_,_,hx,by omega,?_⟩;rw[if_pos rfl];refine⟨_,Z47 m hm,?_⟩;by_cases ha:Zcl m
   .rw[if_pos (by simpa using ha)];refine⟨_,Zdd _ _ _,?_⟩;rcases tf (inR bud 0 1000000000000)with hb|hb
    .rw[hb,if_neg (by decide),if_neg (by simp)];rfl
    .rw[hb,if_pos rfl];by_cases h8:kept.length<=8
     .obtain⟨rs,r1,r2,r3⟩:=Zbk2 ha P kept;have hr:=Zb2k m hm q hq p kept (by omega);rw[r1]at hr|-;rw[if_neg (by omega),if_pos ⟨h,ha,rfl,h8⟩];refine⟨rs,hr,?_⟩;have:=Zb2s R hm ha bud r2 r3 0 (Yb _) 0 0 kept h8;simpa[rrR]using this
     .rw[if_pos (by omega),if_neg (λhh=>h8 hh.2.2.2)];rfl
   .rw[if_neg (by simpa using ha),if_neg (λhh=>ha hh.2.1)];rfl
  .obtain⟨info',hx⟩:=Zbke hd hq (p:=p) (.inr (by simpa using h));rw[if_neg (λhh=>h hh.1)];refine Z4z ⟨_,_,_,hx,by omega,?_⟩;rw[if_neg (by decide)];rfl
end Go.Proofs.YtgnfoghkbpkgjaaGreat
