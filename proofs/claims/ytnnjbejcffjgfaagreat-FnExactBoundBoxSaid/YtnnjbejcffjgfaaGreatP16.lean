/-
  Parts of the proofs for this seat: G16 G17 G18 G19.
-/
import Derived.Test.YtnnjbejcffjgfaaGreatP11
import Derived.Test.YtnnjbejcffjgfaaGreatP12
set_option linter.unusedSectionVars false
set_option linter.unusedSimpArgs false
set_option linter.unusedVariables false
set_option maxRecDepth 100000
set_option maxHeartbeats 4000000
namespace Go.Proofs.YtnnjbejcffjgfaaGreat
open Go.AM
theorem Zdi:((((∀a a1 a2 r,Im (Zfs a a1 a2=some r) (qG a1.Atoms a2 (λe1=>∃(v5:List Zg),∃v6,∃v7,∃v8,∃v9,Zwn a.Zl e1.Name=some (.tup [.agg [.t (.str v6),I v7,I v8,.own 0],Bo v9],[.arr 200 3 true (v5.map Zg.c)])/\some (.agg [.t (.str v6),I v7,I v8,.own 0],[.arr 200 3 true (v5.map Zg.c)])=some r)))/\
 (∀s q cc n i r,Im (Zqv s q cc n i=some r) (if i<(q.Atoms.length:Int)then ¬i<0/\if(andI (shrI cc i) 1)=1 then ∃(v1:List Zg),∃v2,∃v3,∃v4,Zfs s q i=some (.agg [.t (.str v2),I v3,I v4,.own 0],[.arr 200 3 true (v1.map Zg.c)])/\Zqv s q cc (w (n*v4)) (w (i+1))=some r else Zqv s q cc n (w (i+1))=some r else qi n r)))/\
 ((∀a a1 a2 r,Im (Zwo a a1 a2=some r) (qB (Zct a a1 a2) (Zqv a a1 a2 1 0=some r) (qi (-1) r)))/\
 (∀q cc x i r,Im (Zm6 q cc x i=some r) (if i<(q.Atoms.length:Int)then Zqw q cc x i 0=some r else qi x r))))/\
 (((∀q cc x i k r,Im (Zqw q cc x i k=some r) (qG q.Atoms i (λe1=>if k<(e1.Vars.length:Int)then ¬i<0/\if(andI (shrI cc i) 1)=1 then qG e1.Vars k (λe2=>¬e2<0/\Zqw q cc (orI x (shlI 1 e2)) i (w (k+1))=some r)else Zm6 q cc x (w (i+1))=some r else Zm6 q cc x (w (i+1))=some r)))/\
 (∀a a1 r,Im (Ziu a a1=some r) (Zm6 a a1 0 0=some r)))/\
 ((∀cd co v r,Im (Zqy cd co v=some r) (if v<4 then ¬v<0/\if(andI (shrI co v) 1)=1 then cd.length+1<=68719476736/\Zqy (cd++[v]) co (w (v+1))=some r else Zqy cd co (w (v+1))=some r else some (.own 0,[.arr 3 1 true (cd.map ic)])=some r))/\
 ((∀a r,Im (Zqx a=some r) (Zqy ([]:List Int) a 0=some r))/\
 (∀a cd cp i r,Im (Zqz a cd cp i=some r) (if i<(a.Vars.length:Int)then qG a.Vars i (λe1=>qB (Zer cp e1) (cd.length+1<=68719476736/\Zqz a (cd++[i]) cp (w (i+1))=some r) (Zqz a cd cp (w (i+1))=some r))else some (.own 0,[.arr 3 1 true (cd.map ic)])=some r))))))/\
 ((((∀a a1 r,Im (Zm7 a a1=some r) (Zqz a ([]:List Int) a1 0=some r))/\
 (∀cd l i r,Im (Ziv cd l i=some r) (if i<(l.length:Int)then Zm8 cd l i (cd.length:Int)=some r else some (.own 0,[.arr 3 1 true (cd.map ic)])=some r)))/\
 ((∀a r,Im (Z3j a=some r) (Ziv ([]:List Int) a 0=some r))/\
 (∀s cu i r,Im (Zwq s cu i=some r) (if i<(s.Groups.length:Int)then qG s.Groups i (λe1=>qI (Zd1 e1.Columns cu) (λv5=>if v5=0 then qO 3 1 ic (Z3j e1.Counts) (λv10=>some (.own 0,[.arr 3 1 true (v10.map ic)])=some r)else Zwq s cu (w (i+1))=some r))else some (.own 0,[.arr 3 1 true (([]:List Int).map ic)])=some r))))/\
 (((∀a a1 r,Im (Zq1 a a1=some r) (if(a1.length:Int)=0 then if a.RowCount=0 then some (.own 0,[.arr 3 1 true (([]:List Int).map ic)])=some r else some (.own 0,[.arr 3 1 true (([a.RowCount]).map ic)])=some r else Zwq a a1 0=some r))/\
 (∀q s cc cl cn i r,Im (Ziw q s cc cl cn i=some r) (if i<(q.Atoms.length:Int)then ¬i<0/\if(andI (shrI cc i) 1)=1 then if(andI (shrI cl i) 1)=0 then qG s i (λe1=>qH q.Atoms i (λe2=>qI (Ziu q cl) (λv10=>qO 3 1 ic (Zqx v10) (λv11=>qO 3 1 ic (Zm7 e2 v11) (λv12=>qO 3 1 ic (Zq1 e1 v12) (λv13=>v13.length+1<=68719476736/\∃e7,(v13++[0])[0]?=some e7/\qI (Zq2 s q cc (orI cl (shlI 1 i))) (λv14=>if cn<0 then Ziw q s cc cl (w (e7*v14)) (w (i+1))=some r else if(w (e7*v14))<cn then Ziw q s cc cl (w (e7*v14)) (w (i+1))=some r else Ziw q s cc cl cn (w (i+1))=some r)))))))else Ziw q s cc cl cn (w (i+1))=some r else Ziw q s cc cl cn (w (i+1))=some r else qi cn r)))/\
 ((∀a a1 a2 a3 r,Im (Zq2 a a1 a2 a3=some r) (if a3=a2 then qi 1 r else Ziw a1 a a2 a3 (-1) 0=some r))/\
 ((∀s q l cc i r,Im (Zws s q l cc i=some r) (if i<(q.Atoms.length:Int)then ∃(v1:List Zg),∃v2,∃v3,∃v4,Zfs s q i=some (.agg [.t (.str v2),I v3,I v4,.own 0],[.arr 200 3 true (v1.map Zg.c)])/\l.length+1<=68719476736/\Zws s q (l++[(⟨v2,v3,v4,v1⟩:Zf)]) cc (w (i+1))=some r else qI (Zq2 l q cc 0) (λv5=>qi v5 r)))/\
 (∀a a1 a2 r,Im (Zwr a a1 a2=some r) (qB (Zct a a1 a2) (Zws a a1 ([]:List Zf) a2 0=some r) (qi (-1) r))))))):=by
 and_intros
 all_goals(intros;unfold Im;(try simp only[Zfs,Zqv,Zwo,Zm6,Zqw,Ziu,Zqy,Zqx,Zqz,Zm7,Ziv,Z3j,Zwq,Zq1,Ziw,Zq2,Zws,Zwr,Zwn,Zl.c_def,Zi.c_def,Zc.c_def,Zh.c_def,Zct,Zer,Zd1,Atom.c_def,Zf.c_def,Zm8,mpl,dfs,qs]);(try simp only[itb]);(try simp only[itf,gS,kk]))
 all_goals(repeat' first|refine exI λ_=>?_|refine anJ λ_ _=>?_|refine anI λ_=>?_|refine orE2 ?_ ?_|exact False.elim)
 all_goals(intro h;first|refine run Zci1 rfl ?_|rw[Zd Zbfa.eq_1]|refine run Zci2 rfl ?_|rw[Zd Z3b.eq_1]|rw[Zd Zbfc.eq_1]|refine run Zci3 rfl ?_|rw[Zd Zbfe.eq_1]|refine run Zci4 rfl ?_|rw[Zd Zbfg.eq_1]|refine run Zci5 rfl ?_|rw[Zd Z3h.eq_1]|refine run Zci6 rfl ?_|rw[Zd Zbfk.eq_1]|refine run Zci7 rfl ?_|rw[Zd Zbfm.eq_1]|refine run Zci8 rfl ?_|rw[Zd Zbfp.eq_1]|refine run Zci9 rfl ?_)
 all_goals (refine Yf ?_ h;clear h;simp +decide[*,kk,tI,tII,Zbus,Zbut,Zbfb,Zbuu,Z3c,Zbfd,Zbuv,Zbuw,Zbff,Zbux,Zbuy,Zbfh,Zbuz,Z3i,Zbu0,Zbfl,Zbu1,Zbu2,Zbfn,Zbu3,Zbfq,Zbu4])
abbrev Zcp2:=uq Zdi.1.1.1.1
abbrev Zb1q:=uq Zdi.1.1.1.2
abbrev Zcp3:=uq Zdi.1.1.2.1
abbrev Zb1r:=uq Zdi.1.1.2.2
abbrev Zbjf:=uq Zdi.1.2.1.1
abbrev Zcp4:=uq Zdi.1.2.1.2
abbrev Zb1s:=uq Zdi.1.2.2.1
abbrev Zb1t:=uq Zdi.1.2.2.2.1
abbrev Zb1u:=uq Zdi.1.2.2.2.2
abbrev Zcp5:=uq Zdi.2.1.1.1
abbrev Zb1v:=uq Zdi.2.1.1.2
abbrev Zcp6:=uq Zdi.2.1.2.1
abbrev Zcp7:=uq Zdi.2.1.2.2
abbrev Zcp8:=uq Zdi.2.2.1.1
abbrev Zb1w:=uq Zdi.2.2.1.2
abbrev Zb1x:=uq Zdi.2.2.2.1
abbrev Zb1y:=uq Zdi.2.2.2.2.1
abbrev Zcp9:=uq Zdi.2.2.2.2.2
theorem Zi4:(((∀c cc i r,Im (Zq4 c cc i=some r) (if i<4 then qB (Z0 cc 0 15) (¬i<0/\if(andI (shrI cc i) 1)=1 then c.length+1<=68719476736/\Zq4 (c++[i]) cc (w (i+1))=some r else Zq4 c cc (w (i+1))=some r) (some (.own 0,[.arr 3 1 true (c.map ic)])=some r)else some (.own 0,[.arr 3 1 true (c.map ic)])=some r))/\
 (∀a r,Im (Zq3 a=some r) (Zq4 ([]:List Int) a 0=some r)))/\
 ((∀a a1 r,Im (Zq5 a a1=some r) (qB (Zm2 a) (¬(a.Atoms.length:Int)<0/\qV (Z0 a1 0 (w ((shlI 1 (a.Atoms.length:Int))-1))) (λv1=>qb v1 r)) (qb false r)))/\
 (∀a a1 r,Im (Zm9 a a1=some r) (qB (Zq5 a a1) (qI (Ziu a a1) (λv1=>qO 3 1 ic (Zqx v1) (λv2=>some (.own 0,[.arr 3 1 true (v2.map ic)])=some r))) (some (.own 0,[.arr 3 1 true (([]:List Int).map ic)])=some r)))))/\
 (((∀c x y i r,Im (Zq6 c x y i=some r) (if i<(x.length:Int)then qG x i (λe1=>qB (Zer y e1) (c.length+1<=68719476736/\Zq6 (c++[e1]) x y (w (i+1))=some r) (Zq6 c x y (w (i+1))=some r))else some (.own 0,[.arr 3 1 true (c.map ic)])=some r))/\
 (∀a a1 a2 r,Im (Zna a a1 a2=some r) (qO 3 1 ic (Zm9 a a1) (λv=>qO 3 1 ic (Zm9 a a2) (λv1=>Zq6 ([]:List Int) v v1 0=some r)))))/\
 ((∀a a1 r,Im (Znb a a1=some r) (qB (Zit a) (qO 3 1 ic (Zq1 a a1) (λv1=>some (.own 0,[.arr 3 1 true (v1.map ic)])=some r)) (some (.own 0,[.arr 3 1 true (([]:List Int).map ic)])=some r)))/\
 ((∀l n i r,Im (Zq8 l n i=some r) (if i<(l.length:Int)then qG l i (λe1=>qB (Z0 e1 1 (w (8-n))) (if 0<i then 0<=(w (i-1))/\∃e3,l[(w (i-1)).toNat]?=some e3/\if e3<e1 then qb false r else Zq8 l (w (n+e1)) (w (i+1))=some r else Zq8 l (w (n+e1)) (w (i+1))=some r) (qb false r))else qb true r))/\
 (∀a r,Im (Zq7 a=some r) (Zq8 a 0 0=some r))))):=by
 and_intros
 all_goals(intros;unfold Im;(try simp only[Zq4,Zq3,Zq5,Zm9,Zq6,Zna,Znb,Zq8,Zq7,Z0,Zm2,Zc.c_def,Ziu,Zqx,Zer,Zit,Zq1,Zf.c_def,mpl,dfs,qs]);(try simp only[itb]);(try simp only[itf,gS,kk]))
 all_goals(repeat' first|refine exI λ_=>?_|refine anJ λ_ _=>?_|refine anI λ_=>?_|refine orE2 ?_ ?_|exact False.elim)
 all_goals(intro h;first|rw[Zd Zbfr.eq_1]|refine run Zcja rfl ?_|refine run Zcjb rfl ?_|refine run Zcjc rfl ?_|rw[Zd Zbft.eq_1]|refine run Zcjd rfl ?_|refine run Zcje rfl ?_|rw[Zd Zbfw.eq_1]|refine run Zcjf rfl ?_)
 all_goals (refine Yf ?_ h;clear h;simp +decide[*,kk,tI,tII,Zbu5,Zbfs,Zbu6,Zbu7,Zbu8,Zbu9,Zbfu,Zbva,Zbvb,Zbfx,Zbvc])
abbrev Zb1z:=uq Zi4.1.1.1
abbrev Zcqa:=uq Zi4.1.1.2
abbrev Zcqb:=uq Zi4.1.2.1
abbrev Zcqc:=uq Zi4.1.2.2
abbrev Zb10:=uq Zi4.2.1.1
abbrev Zcqd:=uq Zi4.2.1.2
abbrev Zcqe:=uq Zi4.2.2.1
abbrev Zb11:=uq Zi4.2.2.2.1
abbrev Zcqf:=uq Zi4.2.2.2.2
theorem Zb12{c l:List Int}{i k:Int}{r:AV×List Blk}(h:(if 0<k then(0<=(w (k-1))/\(∃(e1:Int),c[(w (k-1)).toNat]?=some e1/\(0<=i/\(∃(e2:Int),l[i.toNat]?=some e2/\(if e1<e2 then(Zm8 c l i (w (k-1))=some r)else(0<=k/\(k.toNat<=c.length/\((c.take k.toNat).length<=68719476736/\((c.take k.toNat).length+1<=68719476736/\((c.take k.toNat).length+1+(c.drop k.toNat).length<=68719476736/\(Ziv (((c.take k.toNat)++[e2])++(c.drop k.toNat)) l (w (i+1))=some r)))))))))))else(0<=k/\(k.toNat<=c.length/\((c.take k.toNat).length<=68719476736/\(0<=i/\(∃(e3:Int),l[i.toNat]?=some e3/\((c.take k.toNat).length+1<=68719476736/\((c.take k.toNat).length+1+(c.drop k.toNat).length<=68719476736/\(Ziv (((c.take k.toNat)++[e3])++(c.drop k.toNat)) l (w (i+1))=some r)))))))))):Zm8 c l i k=some r:=by
 unfold Zm8;rw[Zd Zbfi.eq_1];by_cases q1:0<k
 .rw[if_pos q1]at h;obtain⟨q2,h⟩:=h;obtain⟨e1,q3,h⟩:=h;have gq3:=Zii q3;have kq3:=Zj4 q3;obtain⟨q4,h⟩:=h;obtain⟨e2,q5,h⟩:=h;have gq5:=Zii q5;have kq5:=Zj4 q5;by_cases q6:e1<e2
  .rw[if_pos q6]at h;refine Yf ?_ h;clear h;simp +decide[*,tI,tII,Zm8]
  .rw[if_neg q6]at h;obtain⟨q7,h⟩:=h;obtain⟨q8,h⟩:=h;have zq8:=q8;try simp at zq8
   obtain⟨q9,h⟩:=h;have rq9:=Zfm (b:=8) q9 (by omega);have sq9:=Zfn q9
   try simp[*]at rq9
   try simp[*]at sq9
   obtain⟨q10,h⟩:=h;have rq10:=Zfm (b:=8) q10 (by omega);have sq10:=Zfn q10
   try simp[*]at rq10
   try simp[*]at sq10
   obtain⟨q11,h⟩:=h;have rq11:=Zfm (b:=8) q11 (by omega);have sq11:=Zfn q11
   try simp[*]at rq11
   try simp[*]at sq11
   refine Yf ?_ h;clear h;simp +decide[*,tI,tII,Ziv,Z3g,Z3f]
 .rw[if_neg q1]at h;obtain⟨q12,h⟩:=h;obtain⟨q13,h⟩:=h;have zq13:=q13;try simp at zq13
  obtain⟨q14,h⟩:=h;have rq14:=Zfm (b:=8) q14 (by omega);have sq14:=Zfn q14
  try simp[*]at rq14
  try simp[*]at sq14
  obtain⟨q15,h⟩:=h;obtain⟨e3,q16,h⟩:=h;have gq16:=Zii q16;have kq16:=Zj4 q16;obtain⟨q17,h⟩:=h;have rq17:=Zfm (b:=8) q17 (by omega);have sq17:=Zfn q17
  try simp[*]at rq17
  try simp[*]at sq17
  obtain⟨q18,h⟩:=h;have rq18:=Zfm (b:=8) q18 (by omega);have sq18:=Zfn q18
  try simp[*]at rq18
  try simp[*]at sq18
  refine Yf ?_ h;clear h;simp +decide[*,tI,tII,Ziv,Z3g,Z3f]
theorem Zdj:((((∀a b n i r,Im (Zwt a b n i=some r) (if i<(a.length:Int)then if i<(b.length:Int)then qB (Zq7 a) (qB (Zq7 b) (qG a i (λe3=>qH b i (λe4=>Zwt a b (w (n+(w (e3*e4)))) (w (i+1))=some r))) (qi n r)) (qi n r)else qi n r else qi n r))/\
 (∀a a1 r,Im (Z3n a a1=some r) (Zwt a a1 0 0=some r)))/\
 ((∀a a1 a2 a3 r,Im (Zq9 a a1 a2 a3=some r) (qI (Zfr a1) (λv=>qB (Zct a a1 v) (qB (Z0 a2 0 (w ((a1.Atoms.length:Int)-1))) (qB (Z0 a3 0 (w ((a1.Atoms.length:Int)-1))) (if a2=a3 then qi (-1) r else ¬a2<0/\¬a3<0/\qO 3 1 ic (Zna a1 (shlI 1 a2) (shlI 1 a3)) (λv7=>∃(v8:List Zg),∃v9,∃v10,∃v11,Zfs a a1 a2=some (.agg [.t (.str v9),I v10,I v11,.own 0],[.arr 200 3 true (v8.map Zg.c)])/\qG a1.Atoms a2 (λe7=>qO 3 1 ic (Zm7 e7 v7) (λv12=>qO 3 1 ic (Znb (⟨v9,v10,v11,v8⟩:Zf) v12) (λv13=>∃(v14:List Zg),∃v15,∃v16,∃v17,Zfs a a1 a3=some (.agg [.t (.str v15),I v16,I v17,.own 0],[.arr 200 3 true (v14.map Zg.c)])/\qG a1.Atoms a3 (λe11=>qO 3 1 ic (Zm7 e11 v7) (λv18=>qO 3 1 ic (Znb (⟨v15,v16,v17,v14⟩:Zf) v18) (λv19=>qI (Z3n v13 v19) (λv20=>qi v20 r))))))))) (qi (-1) r)) (qi (-1) r)) (qi (-1) r))))/\
 (∀a m x k r,Im (Znc a m x k=some r) (if k<(a.Vars.length:Int)then if k<3 then ¬k<0/\if(andI (shrI m k) 1)=1 then qG a.Vars k (λe1=>qB (Z0 e1 0 3) (¬e1<0/\Znc a m (orI x (shlI 1 e1)) (w (k+1))=some r) (Znc a m x (w (k+1))=some r))else Znc a m x (w (k+1))=some r else qi x r else qi x r))))/\
 (((∀a a1 r,Im (Z3p a a1=some r) (Znc a a1 0 0=some r))/\
 (∀l m i r,Im (Zra l m i=some r) (if i<(l.length:Int)then qG l i (λe1=>qB (Z0 e1 0 3) (¬e1<0/\Zra l (orI m (shlI 1 e1)) (w (i+1))=some r) (Zra l m (w (i+1))=some r))else qi m r)))/\
 ((∀a r,Im (Z3r a=some r) (Zra a 0 0=some r))/\
 ((∀a a1 r,Im (Z3s a a1=some r) (qO 3 1 ic (Znb a a1) (λv=>if(v.length:Int)=0 then qi 0 r else ∃e2,v[0]?=some e2/\qi e2 r)))/\
 (∀n b r,Im (Zwu n b=some r) (¬b<0/\if(shlI 1 b)<n then Zwu n (w (b+1))=some r else qi b r))))))/\
 ((((∀a r,Im (Z3t a=some r) (qB (Z0 a 1 4096) (Zwu a 0=some r) (qi (-1) r)))/\
 (∀s a cc m r,Im (Zww s a cc m=some r) (¬s.Arity<0/\if m<(w ((shlI 1 s.Arity)-1))then qI (Z3p a m) (λv=>qI (Z3r a.Vars) (λv4=>qO 3 1 ic (Zeq m) (λv5=>qI (Z3s s v5) (λv6=>qI (Z3t v6) (λv7=>cc.length+1<=68719476736/\Zww s a (cc++[(⟨v,v4,v7⟩:Zo)]) (w (m+1))=some r)))))else some (.own 0,[.arr 251 3 true (cc.map Zo.c)])=some r)))/\
 ((∀a a1 r,Im (Zwv a a1=some r) (qB (Zit a) (if a.RowCount=0 then some (.own 0,[.arr 251 3 true (([]:List Zo).map Zo.c)])=some r else if(a1.Vars.length:Int)=a.Arity then Zww a a1 ([]:List Zo) 0=some r else some (.own 0,[.arr 251 3 true (([]:List Zo).map Zo.c)])=some r) (some (.own 0,[.arr 251 3 true (([]:List Zo).map Zo.c)])=some r)))/\
 (∀s q cc cl i r,Im (Zrb s q cc cl i=some r) (if i<(q.Atoms.length:Int)then ¬i<0/\if(andI (shrI cl i) 1)=0 then Zrb s q cc cl (w (i+1))=some r else ∃(v:List Zg),∃v1,∃v2,∃v3,Zfs s q i=some (.agg [.t (.str v1),I v2,I v3,.own 0],[.arr 200 3 true (v.map Zg.c)])/\qG q.Atoms i (λe2=>qO 251 3 Zo.c (Zwv (⟨v1,v2,v3,v⟩:Zf) e2) (λv5=>if(v5.length:Int)=0 then some (.own 0,[.arr 251 3 true (([]:List Zo).map Zo.c)])=some r else cc.length+v5.length<=68719476736/\Zrb s q (cc++v5) cl (w (i+1))=some r))else some (.own 0,[.arr 251 3 true (cc.map Zo.c)])=some r))))/\
 (((∀a a1 a2 r,Im (Zwx a a1 a2=some r) (qB (Zct a a1 a2) (Zrb a a1 ([]:List Zo) a2 0=some r) (some (.own 0,[.arr 251 3 true (([]:List Zo).map Zo.c)])=some r)))/\
 (∀m cd x i r,Im (Znd m cd x i=some r) (if i<(cd.length:Int)then if i<4 then qG cd i (λe1=>qB (Z0 e1 0 3) (¬e1<0/\if(andI (shrI m e1) 1)=1 then ¬i<0/\Znd m cd (orI x (shlI 1 i)) (w (i+1))=some r else Znd m cd x (w (i+1))=some r) (Znd m cd x (w (i+1))=some r))else qi x r else qi x r)))/\
 ((∀a a1 r,Im (Zwy a a1=some r) (Znd a a1 0 0=some r))/\
 ((∀cc l cd i r,Im (Zw0 cc l cd i=some r) (if i<(l.length:Int)then qG l i (λe1=>qI (Zwy e1.From cd) (λv4=>qI (Zwy e1.To cd) (λv5=>cc.length+1<=68719476736/\Zw0 (cc++[(⟨v4,v5,e1.Bits⟩:Zo)]) l cd (w (i+1))=some r)))else some (.own 0,[.arr 251 3 true (cc.map Zo.c)])=some r))/\
 (∀a a1 r,Im (Zwz a a1=some r) (Zw0 ([]:List Zo) a a1 0=some r)))))):=by
 and_intros
 all_goals(intros;unfold Im;(try simp only[Zwt,Z3n,Zq9,Znc,Z3p,Zra,Z3r,Z3s,Zwu,Z3t,Zww,Zwv,Zrb,Zwx,Znd,Zwy,Zw0,Zwz,Zq7,Zfr,Zct,Z0,Zna,Zfs,Zm7,Znb,Atom.c_def,Zl.c_def,Zi.c_def,Zc.c_def,Zh.c_def,Zf.c_def,Zeq,Zit,mpl,dfs,qs]);(try simp only[itb]);(try simp only[itf,gS,kk]))
 all_goals(repeat' first|refine exI λ_=>?_|refine anJ λ_ _=>?_|refine anI λ_=>?_|refine orE2 ?_ ?_|exact False.elim)
 all_goals(intro h;first|rw[Zd Zbfz.eq_1]|refine run Zcjg rfl ?_|refine run Zcjh rfl ?_|rw[Zd Zbf1.eq_1]|refine run Zcji rfl ?_|rw[Zd Zbf3.eq_1]|refine run Zcjj rfl ?_|refine run Zcjk rfl ?_|rw[Zd Zbf6.eq_1]|refine run Zcjl rfl ?_|rw[Zd Zbf9.eq_1]|refine run Zcjm rfl ?_|rw[Zd Zbgb.eq_1]|refine run Zcjn rfl ?_|rw[Zd Zbgd.eq_1]|refine run Zcjo rfl ?_|rw[Zd Zbgg.eq_1]|refine run Zcjp rfl ?_)
 all_goals (refine Yf ?_ h;clear h;simp +decide[*,kk,tI,tII,Zbf0,Zbvd,Zbve,Zbvf,Zbf2,Zbvg,Zbvh,Zbf4,Zbvi,Zbvj,Zbf7,Zbvk,Zbga,Zbvl,Zbvm,Zbgc,Zbvn,Zbvo,Zbge,Zbvp,Zbgh,Zbvq])
abbrev Zbjg:=uq Zdj.1.1.1.1
abbrev Zcqg:=uq Zdj.1.1.1.2
abbrev Zcqh:=uq Zdj.1.1.2.1
abbrev Zb13:=uq Zdj.1.1.2.2
abbrev Zcqi:=uq Zdj.1.2.1.1
abbrev Zb14:=uq Zdj.1.2.1.2
abbrev Zcqj:=uq Zdj.1.2.2.1
abbrev Zcqk:=uq Zdj.1.2.2.2.1
abbrev Zb15:=uq Zdj.1.2.2.2.2
abbrev Zcql:=uq Zdj.2.1.1.1
abbrev Zb16:=uq Zdj.2.1.1.2
abbrev Zcqm:=uq Zdj.2.1.2.1
abbrev Zb17:=uq Zdj.2.1.2.2
abbrev Zcqn:=uq Zdj.2.2.1.1
abbrev Zb18:=uq Zdj.2.2.1.2
abbrev Zcqo:=uq Zdj.2.2.2.1
abbrev Zb19:=uq Zdj.2.2.2.2.1
abbrev Zcqp:=uq Zdj.2.2.2.2.2
theorem Znv:((∀cl cn cd i r,Im (Znf cl cn cd i=some r) (if i<(cn.length:Int)then qG cn i (λe1=>if 0<e1 then 0<=(w (e1-1))/\∃e2,cl[(w (e1-1)).toNat]?=some e2/\Znf (cl.set ((w (e1-1)).toNat) 1) cn cd (w (i+1))=some r else Znf cl cn cd (w (i+1))=some r)else Zrc cl cd 0=some r))/\
 ((∀cl cd i r,Im (Zrc cl cd i=some r) (if i<(cd.length:Int)then qG cd i (λe1=>if 0<e1 then 0<=(w (e1-1))/\∃e2,cl[(w (e1-1)).toNat]?=some e2/\Zrc (cl.set ((w (e1-1)).toNat) (-1)) cd (w (i+1))=some r else Zrc cl cd (w (i+1))=some r)else some (.own 0,[.arr 3 1 true (cl.map ic)])=some r))/\
 (∀cc n c i r,Im (Zw4 cc n c i=some r) (if i<n then ¬i<0/\qO 3 1 ic (Zht n ([(w (c-(shlI 1 i)))]) ([c])) (λv=>cc.length+1<=68719476736/\Zw4 (cc++[v]) n c (w (i+1))=some r)else Zrd cc n c 0=some r))))/\
 (((∀cc n c i r,Im (Zrd cc n c i=some r) (if i<n then Zre cc n c i (w (i+1))=some r else some (.own 0,[.arr 56 1 true (cc.map isc)])=some r))/\
 (∀cc n c i j r,Im (Zre cc n c i j=some r) (if j<n then Zng cc n c i j 0=some r else Zrd cc n c (w (i+1))=some r)))/\
 ((∀cc n c i j s r,Im (Zng cc n c i j s=some r) (if s<=c then ¬i<0/\if(andI (shrI s i) 1)=0 then ¬j<0/\if(andI (shrI s j) 1)=0 then qO 3 1 ic (Zht n ([s,(orI (orI s (shlI 1 i)) (shlI 1 j))]) ([(orI s (shlI 1 i)),(orI s (shlI 1 j))])) (λv=>cc.length+1<=68719476736/\Zng (cc++[v]) n c i j (w (s+1))=some r)else Zng cc n c i j (w (s+1))=some r else Zng cc n c i j (w (s+1))=some r else Zre cc n c i (w (j+1))=some r))/\
 (∀a r,Im (Zw3 a=some r) (qB (Z0 a 1 4) (¬a<0/\Zw4 ([]:List (List Int)) a (w ((shlI 1 a)-1)) 0=some r) (some (.own 0,[.arr 56 1 true (([]:List (List Int)).map isc)])=some r))))):=by
 and_intros
 all_goals(intros;unfold Im;(try simp only[Znf,Zrc,Zw4,Zrd,Zre,Zng,Zw3,Zht,Z0,mpl,dfs,qs]);(try simp only[itb]);(try simp only[itf,gS,kk]))
 all_goals(repeat' first|refine exI λ_=>?_|refine anJ λ_ _=>?_|refine anI λ_=>?_|refine orE2 ?_ ?_|exact False.elim)
 all_goals(intro h;first|rw[Zd Zbgi.eq_1]|rw[Zd Zbgj.eq_1]|rw[Zd Zbgm.eq_1]|rw[Zd Zw1.eq_1]|rw[Zd Z3w.eq_1]|rw[Zd Zbgn.eq_1]|refine run Zcjr rfl ?_)
 all_goals (refine Yf ?_ h;clear h;simp +decide[*,kk,tI,tII,Zbvr,Zbgl,Zbvs,Zbgk,Zbgp,Zw2,Z3x,Zbvu,Zbgo,Zbvv])
abbrev Zb2a:=uq Znv.1.1
abbrev Zb2b:=uq Znv.1.2.1
abbrev Zb2c:=uq Znv.1.2.2
abbrev Zb2d:=uq Znv.2.1.1
abbrev Zb2e:=uq Znv.2.1.2
abbrev Zb2f:=uq Znv.2.2.1
abbrev Zcqq:=uq Znv.2.2.2
theorem Zcqr{a:Int}{a1 a2:List Int}{r:AV×List Blk}(h:(¬a<0/\(0<=(w ((shlI 1 a)-1))/\((w ((shlI 1 a)-1))<=(w ((shlI 1 a)-1))/\((w ((shlI 1 a)-1)).toNat*8<=room/\((w ((shlI 1 a)-1))<=140737488355328/\(Znf (List.replicate ((w ((shlI 1 a)-1))).toNat 0) a1 a2 0=some r))))))):Zht a a1 a2=some r:=by
 unfold Zht;refine run Zcjq rfl ?_;obtain⟨q1,h⟩:=h;obtain⟨q2,h⟩:=h;obtain⟨q3,h⟩:=h;obtain⟨q4,h⟩:=h;have zq4:=q4;try simp at zq4
 obtain⟨q5,h⟩:=h;refine Yf ?_ h;clear h;simp +decide[*,Zbvt,tI,tII,Znf]
theorem Zds:((((∀p n k r,Im (Zw6 p n k=some r) (if k<n then qG p.Objective k (λe1=>qB (Z0 e1 (-9) 9) (Zw6 p n (w (k+1))=some r) (qb false r))else Zrf p n 0=some r))/\
 (∀p n i r,Im (Zrf p n i=some r) (if i<(p.Rows.length:Int)then qG p.Rows i (λe1=>if(e1.length:Int)=n then qH p.Limits i (λe2=>qB (Z0 e2 0 99) (Zw7 p n i 0=some r) (qb false r))else qb false r)else qb true r)))/\
 ((∀p n i k r,Im (Zw7 p n i k=some r) (if k<n then qG p.Rows i (λe1=>qG e1 k (λe2=>qB (Z0 e2 (-9) 9) (Zw7 p n i (w (k+1))=some r) (qb false r)))else Zrf p n (w (i+1))=some r))/\
 (∀a r,Im (Zw5 a=some r) (qB (Z0 (a.Objective.length:Int) 1 15) (if 64<(a.Rows.length:Int)then qb false r else if(a.Rows.length:Int)=(a.Limits.length:Int)then Zw6 a (a.Objective.length:Int) 0=some r else qb false r) (qb false r)))))/\
 (((∀x x1 x2 l n cn i r,Im (Zrg x x1 x2 l n cn i=some r) (if i<(l.length:Int)then qG l i (λe1=>qB (Z0 e1.To 1 cn) (qB (Z0 e1.From 0 cn) (if(andI e1.From e1.To)=e1.From then if e1.From=e1.To then some (.tup [.agg [.own 0,.own 1,.own 2],Bo false],[.arr 3 1 true (([]:List Int).map ic),.arr 56 1 true (([]:List (List Int)).map isc),.arr 3 1 true (([]:List Int).map ic)])=some r else if 64<=i then some (.tup [.agg [.own 0,.own 1,.own 2],Bo false],[.arr 3 1 true (([]:List Int).map ic),.arr 56 1 true (([]:List (List Int)).map isc),.arr 3 1 true (([]:List Int).map ic)])=some r else qO 3 1 ic (Zht n ([e1.To]) ([e1.From])) (λv3=>x1.length+1<=68719476736/\x2.length+1<=68719476736/\Zrg x (x1++[v3]) (x2++[e1.Bits]) l n cn (w (i+1))=some r)else some (.tup [.agg [.own 0,.own 1,.own 2],Bo false],[.arr 3 1 true (([]:List Int).map ic),.arr 56 1 true (([]:List (List Int)).map isc),.arr 3 1 true (([]:List Int).map ic)])=some r) (some (.tup [.agg [.own 0,.own 1,.own 2],Bo false],[.arr 3 1 true (([]:List Int).map ic),.arr 56 1 true (([]:List (List Int)).map isc),.arr 3 1 true (([]:List Int).map ic)])=some r)) (some (.tup [.agg [.own 0,.own 1,.own 2],Bo false],[.arr 3 1 true (([]:List Int).map ic),.arr 56 1 true (([]:List (List Int)).map isc),.arr 3 1 true (([]:List Int).map ic)])=some r))else qB (Zw5 (⟨x,x1,x2⟩:Program)) (some (.tup [.agg [.own 0,.own 1,.own 2],Bo true],[.arr 3 1 true (x.map ic),.arr 56 1 true (x1.map isc),.arr 3 1 true (x2.map ic)])=some r) (some (.tup [.agg [.own 0,.own 1,.own 2],Bo false],[.arr 3 1 true (([]:List Int).map ic),.arr 56 1 true (([]:List (List Int)).map isc),.arr 3 1 true (([]:List Int).map ic)])=some r)))/\
 (∀a a1 a2 r,Im (Z30 a a1 a2=some r) (qO 251 3 Zo.c (Zwx a a1 a2) (λv=>if(v.length:Int)=0 then some (.tup [.agg [.own 0,.own 1,.own 2],Bo false],[.arr 3 1 true (([]:List Int).map ic),.arr 56 1 true (([]:List (List Int)).map isc),.arr 3 1 true (([]:List Int).map ic)])=some r else qO 3 1 ic (Zm9 a1 a2) (λv1=>qO 251 3 Zo.c (Zwz v v1) (λv2=>∃(v3:List Int),∃(v4:List (List Int)),∃(v5:List Int),∃v6,Zni v2 (v1.length:Int)=some (.tup [.agg [.own 0,.own 1,.own 2],Bo v6],[.arr 3 1 true (v3.map ic),.arr 56 1 true (v4.map isc),.arr 3 1 true (v5.map ic)])/\some (.tup [.agg [.own 0,.own 1,.own 2],Bo v6],[.arr 3 1 true (v3.map ic),.arr 56 1 true (v4.map isc),.arr 3 1 true (v5.map ic)])=some r))))))/\
 ((∀a r,Im (Zca a=some r) (some (.agg [I a,I 1],[])=some r))/\
 (∀p cd cc n k r,Im (Zbgy p cd cc n k=some r) (if k<n then qG p.Objective k (λe1=>qA Za.c (Zca e1) (λv1=>Zw9 p cd cc ([k]) ([v1]) n (w (k+1))=some r))else Zbv0 p cd cc n 0=some r)))))/\
 ((((∀p cd cc x x1 n k r,Im (Zw9 p cd cc x x1 n k=some r) (if k<n then x.length+1<=68719476736/\qG p.Objective k (λe1=>qA Za.c (Zca e1) (λv1=>x1.length+1<=68719476736/\Zw9 p cd cc (x++[k]) (x1++[v1]) n (w (k+1))=some r))else Zbgz p cd cc x x1 n 0=some r))/\
 (∀p cd cc x x1 n i r,Im (Zbgz p cd cc x x1 n i=some r) (if i<(p.Rows.length:Int)then Zxa p cd cc x x1 ([]:List Za) n i 0=some r else some (.tup [.agg [.own 0,.own 1,.own 2,.own 3,.own 4,I cc.Num,I cc.Den],Bo true],[.arr 3 1 true (([]:List Int).map ic),.arr 3 1 true (x.map ic),.arr 179 1 true (([]:List (List Za)).map (lc 2 Za.c)),.arr 149 2 true (([]:List Za).map Za.c),.arr 149 2 true (x1.map Za.c)])=some r)))/\
 ((∀p cd cc x x1 cl n i k r,Im (Zxa p cd cc x x1 cl n i k=some r) (if k<n then qG p.Rows i (λe1=>qG e1 k (λe2=>qA Za.c (Zca e2) (λv2=>cl.length+1<=68719476736/\Zxa p cd cc x x1 (cl++[v2]) n i (w (k+1))=some r)))else qG p.Limits i (λe4=>qA Za.c (Zca e4) (λv7=>Znl p cd cc ([(w (n+i))]) x ([cl]) ([v7]) x1 n (w (i+1))=some r))))/\
 (∀p cd cc x x1 x2 x3 x4 n i r,Im (Znl p cd cc x x1 x2 x3 x4 n i=some r) (if i<(p.Rows.length:Int)then Zxb p cd cc x x1 x2 x3 x4 ([]:List Za) n i 0=some r else some (.tup [.agg [.own 0,.own 1,.own 2,.own 3,.own 4,I cc.Num,I cc.Den],Bo true],[.arr 3 1 true (x.map ic),.arr 3 1 true (x1.map ic),.arr 179 1 true (x2.map (lc 2 Za.c)),.arr 149 2 true (x3.map Za.c),.arr 149 2 true (x4.map Za.c)])=some r))))/\
 (((∀p cd cc x x1 x2 x3 x4 cl n i k r,Im (Zxb p cd cc x x1 x2 x3 x4 cl n i k=some r) (if k<n then qG p.Rows i (λe1=>qG e1 k (λe2=>qA Za.c (Zca e2) (λv2=>cl.length+1<=68719476736/\Zxb p cd cc x x1 x2 x3 x4 (cl++[v2]) n i (w (k+1))=some r)))else x.length+1<=68719476736/\x2.length+1<=68719476736/\qG p.Limits i (λe4=>qA Za.c (Zca e4) (λv7=>x3.length+1<=68719476736/\Znl p cd cc (x++[(w (n+i))]) x1 (x2++[cl]) (x3++[v7]) x4 n (w (i+1))=some r))))/\
 (∀a r,Im (Zw8 a=some r) (qB (Zw5 a) (qA Za.c (Zca 0) (λv1=>Zbgy a (⟨0,0⟩:Za) v1 (a.Objective.length:Int) 0=some r)) (some (.tup [.agg [.own 0,.own 1,.own 2,.own 3,.own 4,I 0,I 0],Bo false],[.arr 3 1 true (([]:List Int).map ic),.arr 3 1 true (([]:List Int).map ic),.arr 179 1 true (([]:List (List Za)).map (lc 2 Za.c)),.arr 149 2 true (([]:List Za).map Za.c),.arr 149 2 true (([]:List Za).map Za.c)])=some r))))/\
 ((∀a r,Im (Zkq a=some r) (if a<0 then qi (w (0-a)) r else qi a r))/\
 ((∀a b r,Im (Zxc a b=some r) (if b=0 then qi a r else ¬b=0/\Zxc b (Int.tmod a b)=some r))/\
 (∀a a1 r,Im (Zkr a a1=some r) (Zxc a a1=some r)))))):=by
 and_intros
 all_goals(intros;unfold Im;(try simp only[Zw6,Zrf,Zw7,Zw5,Zrg,Z30,Zca,Zbgy,Zw9,Zbgz,Zxa,Znl,Zxb,Zw8,Zkq,Zxc,Zkr,Z0,Zht,Program.c_def,Zwx,Zm9,Zwz,Zni,Zl.c_def,Zi.c_def,Zc.c_def,Zo.c_def,Zh.c_def,Za.c_def,Zbv0,mpl,dfs,qs]);(try simp only[itb]);(try simp only[itf,gS,kk]))
 all_goals(repeat' first|refine exI λ_=>?_|refine anJ λ_ _=>?_|refine anI λ_=>?_|refine orE2 ?_ ?_|exact False.elim)
 all_goals(intro h;first|rw[Zd Zbgq.eq_1]|rw[Zd Z3y.eq_1]|rw[Zd Zbgr.eq_1]|refine run Zcjs rfl ?_|rw[Zd Zbgv.eq_1]|refine run Zcju rfl ?_|refine run Zcjv rfl ?_|rw[Zd Z31.eq_1]|rw[Zd Znj.eq_1]|rw[Zd Z32.eq_1]|refine run Zcjw rfl ?_|refine run Zcjx rfl ?_|rw[Zd Zbg1.eq_1]|refine run Zcjy rfl ?_)
 all_goals (refine Yf ?_ h;clear h;simp +decide[*,kk,tI,tII,Zbgt,Z3z,Zbgs,Zbvw,Zbgw,Zbvx,Zbvy,Z35,Znk,Z34,Z33,Zbvz,Zbv1,Zbg2,Zbv2])
abbrev Zb2g:=uq Zds.1.1.1.1
abbrev Zb2h:=uq Zds.1.1.1.2
abbrev Zb2i:=uq Zds.1.1.2.1
abbrev Zcqs:=uq Zds.1.1.2.2
abbrev Zb2j:=uq Zds.1.2.1.1
abbrev Zbjh:=uq Zds.1.2.1.2
abbrev Zcqt:=uq Zds.1.2.2.1
abbrev Zcqu:=uq Zds.1.2.2.2
abbrev Zb2k:=uq Zds.2.1.1.1
abbrev Zcqv:=uq Zds.2.1.1.2
abbrev Zb2l:=uq Zds.2.1.2.1
abbrev Zb2m:=uq Zds.2.1.2.2
abbrev Zb2n:=uq Zds.2.2.1.1
abbrev Zcqw:=uq Zds.2.2.1.2
abbrev Zcqx:=uq Zds.2.2.2.1
abbrev Zb2o:=uq Zds.2.2.2.2.1
abbrev Zcqy:=uq Zds.2.2.2.2.2
theorem Zb2p{a:List Zo}{a1:Int}{r:AV×List Blk}(h:(∃(v:Bool),Z0 a1 1 4=some (Bo v,[])/\(if v=true then(¬a1<0/\(∃(v1:List Int),Zht a1 ([(w ((shlI 1 a1)-1))]) ([]:List Int)=some (.own 0,[.arr 3 1 true (v1.map ic)])/\(∃(v2:List (List Int)),Zw3 a1=some (.own 0,[.arr 56 1 true (v2.map isc)])/\(0<=(v2.length:Int)/\((v2.length:Int)<=(v2.length:Int)/\((v2.length:Int).toNat*8<=room/\((v2.length:Int)<=140737488355328/\(Zrg v1 v2 (List.replicate ((v2.length:Int)).toNat 0) a a1 (w ((shlI 1 a1)-1)) 0=some r))))))))else(some (.tup [.agg [.own 0,.own 1,.own 2],Bo false],[.arr 3 1 true (([]:List Int).map ic),.arr 56 1 true (([]:List (List Int)).map isc),.arr 3 1 true (([]:List Int).map ic)])=some r)))):Zni a a1=some r:=by
 unfold Zni;refine run Zcjt rfl ?_;obtain⟨v,q1,h⟩:=h;unfold Z0 at q1
 try simp at q1
 by_cases q2:v=true
 .rw[if_pos q2]at h;obtain⟨q3,h⟩:=h;obtain⟨v1,q4,h⟩:=h;unfold Zht at q4
  try simp at q4
  obtain⟨v2,q5,h⟩:=h;unfold Zw3 at q5
  try simp at q5
  obtain⟨q6,h⟩:=h;have zq6:=q6;try simp at zq6
  obtain⟨q7,h⟩:=h;have zq7:=q7;try simp at zq7
  obtain⟨q8,h⟩:=h;have zq8:=q8;try simp at zq8
  obtain⟨q9,h⟩:=h;have zq9:=q9;try simp at zq9
  refine Yf ?_ h;clear h;simp +decide[*,Zbgx,tI,tII,Zrg]
 .rw[if_neg q2]at h;refine Yf ?_ h;clear h;simp +decide[*,Zbgx,tI,tII]
theorem Zd2:((((∀a r,Im (Zcn a=some r) (qB (Z0 a.Den 1 2147483647) (qB (Z0 a.Num (-2147483647) 2147483647) (qI (Zkq a.Num) (λv4=>qI (Zkr v4 a.Den) (λv6=>qb (decide (v6=1)) r))) (qb false r)) (qb false r)))/\
 (∀l i r,Im (Zxd l i=some r) (if i<(l.length:Int)then qG l i (λe1=>qB (Zcn e1) (Zxd l (w (i+1))=some r) (qb false r))else qb true r)))/\
 ((∀a r,Im (Zrh a=some r) (Zxd a 0=some r))/\
 (∀d all m n i r,Im (Zxf d all m n i=some r) (if i<(w (m+n))then qB (Zer all i) (Zxf d all m n (w (i+1))=some r) (qb false r)else Zxg d m n 0=some r))))/\
 (((∀d m n i r,Im (Zxg d m n i=some r) (if i<m then qG d.Cells i (λe1=>if(e1.length:Int)=n then qB (Zrh e1) (Zxg d m n (w (i+1))=some r) (qb false r)else qb false r)else qB (Zrh d.Limits) (qB (Zrh d.Costs) (qV (Zcn d.Value) (λv8=>qb v8 r)) (qb false r)) (qb false r)))/\
 (∀a r,Im (Znm a=some r) (if 64<(a.Basic.length:Int)then qb false r else qB (Z0 (a.Free.length:Int) 1 15) (if(a.Cells.length:Int)=(a.Basic.length:Int)then if(a.Limits.length:Int)=(a.Basic.length:Int)then if(a.Costs.length:Int)=(a.Free.length:Int)then a.Basic.length<=68719476736/\a.Basic.length+a.Free.length<=68719476736/\Zxf a (a.Basic++a.Free) (a.Basic.length:Int) (a.Free.length:Int) 0=some r else qb false r else qb false r else qb false r) (qb false r))))/\
 ((∀d cc j r,Im (Zks d cc j=some r) (if j<(d.Free.length:Int)then qG d.Costs j (λe1=>if 0<e1.Num then if cc<0 then Zks d j (w (j+1))=some r else qH d.Free j (λe2=>qG d.Free cc (λe3=>if e2<e3 then Zks d j (w (j+1))=some r else Zks d cc (w (j+1))=some r))else Zks d cc (w (j+1))=some r)else qi cc r))/\
 (∀a r,Im (Zxh a=some r) (qB (Znm a) (Zks a (-1) 0=some r) (qi (-1) r))))))/\
 ((((∀a a1 r,Im (Zku a a1=some r) (qB (Zcn a) (qB (Zcn a1) (if a1.Num=0 then some (.tup [.agg [I 0,I 0],Bo false],[])=some r else qS Za.c (Zkt (w (a.Num*a1.Den)) (w (a.Den*a1.Num))) (λv4 v5=>some (.tup [.agg (v4.c.map .t),Bo v5],[])=some r)) (some (.tup [.agg [I 0,I 0],Bo false],[])=some r)) (some (.tup [.agg [I 0,I 0],Bo false],[])=some r)))/\
 (∀a a1 r,Im (Z37 a a1=some r) (qB (Zcn a) (qB (Zcn a1) (if(w (a.Num*a1.Den))<(w (a1.Num*a.Den))then qi (-1) r else if(w (a1.Num*a.Den))<(w (a.Num*a1.Den))then qi 1 r else qi 0 r) (qi 0 r)) (qi 0 r))))/\
 ((∀d cd j cc i r,Im (Zhv d cd j cc i=some r) (if i<(d.Basic.length:Int)then qG d.Cells i (λe1=>qG e1 j (λe2=>if e2.Num<=0 then Zhv d cd j cc (w (i+1))=some r else qH d.Limits i (λe3=>qS Za.c (Zku e3 e2) (λv6 v7=>if v7=true then qI (Z37 v6 cd) (λv8=>if cc<0 then Zhv d v6 j i (w (i+1))=some r else if v8<0 then Zhv d v6 j i (w (i+1))=some r else if v8=0 then qH d.Basic i (λe6=>qG d.Basic cc (λe7=>if e6<e7 then Zhv d v6 j i (w (i+1))=some r else Zhv d cd j cc (w (i+1))=some r))else Zhv d cd j cc (w (i+1))=some r)else qi (-1) r))))else qi cc r))/\
 (∀a a1 r,Im (Zxi a a1=some r) (qB (Znm a) (qB (Z0 a1 0 (w ((a.Free.length:Int)-1))) (Zhv a (⟨0,0⟩:Za) a1 (-1) 0=some r) (qi (-1) r)) (qi (-1) r)))))/\
 (((∀a a1 r,Im (Zix a a1=some r) (qB (Zcn a) (qB (Zcn a1) (qS Za.c (Zkt (w (a.Num*a1.Num)) (w (a.Den*a1.Den))) (λv4 v5=>some (.tup [.agg (v4.c.map .t),Bo v5],[])=some r)) (some (.tup [.agg [I 0,I 0],Bo false],[])=some r)) (some (.tup [.agg [I 0,I 0],Bo false],[])=some r)))/\
 (∀a a1 r,Im (Z39 a a1=some r) (qB (Zcn a) (qB (Zcn a1) (qS Za.c (Zkt (w ((w (a.Num*a1.Den))-(w (a1.Num*a.Den)))) (w (a.Den*a1.Den))) (λv4 v5=>some (.tup [.agg (v4.c.map .t),Bo v5],[])=some r)) (some (.tup [.agg [I 0,I 0],Bo false],[])=some r)) (some (.tup [.agg [I 0,I 0],Bo false],[])=some r))))/\
 ((∀a a1 a2 r,Im (Zco a a1 a2=some r) (if a1.Num=0 then some (.tup [.agg (a.c.map .t),Bo true],[])=some r else if a2.Num=0 then some (.tup [.agg (a.c.map .t),Bo true],[])=some r else qS Za.c (Zix a1 a2) (λv v1=>qS Za.c (Z39 a v) (λv2 v3=>if v1=true then some (.tup [.agg (v2.c.map .t),Bo v3],[])=some r else some (.tup [.agg (v2.c.map .t),Bo false],[])=some r))))/\
 (∀a a1 r,Im (Zkv a a1=some r) (qB (Zcn a) (qB (Zcn a1) (qS Za.c (Zkt (w ((w (a.Num*a1.Den))+(w (a1.Num*a.Den)))) (w (a.Den*a1.Den))) (λv4 v5=>some (.tup [.agg (v4.c.map .t),Bo v5],[])=some r)) (some (.tup [.agg [I 0,I 0],Bo false],[])=some r)) (some (.tup [.agg [I 0,I 0],Bo false],[])=some r)))))):=by
 and_intros
 all_goals(intros;unfold Im;(try simp only[Zcn,Zxd,Zrh,Zxf,Zxg,Znm,Zks,Zxh,Zku,Z37,Zhv,Zxi,Zix,Z39,Zco,Zkv,Z0,Zkq,Zkr,Za.c_def,Zer,Zm.c_def,Zkt,mpl,dfs,qs]);(try simp only[itb]);(try simp only[itf,gS,kk]))
 all_goals(repeat' first|refine exI λ_=>?_|refine anJ λ_ _=>?_|refine anI λ_=>?_|refine orE2 ?_ ?_|exact False.elim)
 all_goals(intro h;first|refine run Zcjz rfl ?_|rw[Zd Zbg4.eq_1]|refine run Zcj0 rfl ?_|rw[Zd Zbg6.eq_1]|rw[Zd Zbg7.eq_1]|refine run Zcj1 rfl ?_|rw[Zd Zbha.eq_1]|refine run Zcj2 rfl ?_|refine run Zcj4 rfl ?_|refine run Zcj5 rfl ?_|rw[Zd Zbhc.eq_1]|refine run Zcj6 rfl ?_|refine run Zcj7 rfl ?_|refine run Zcj8 rfl ?_|refine run Zcj9 rfl ?_|refine run Zcka rfl ?_)
 all_goals (refine Yf ?_ h;clear h;simp +decide[*,kk,tI,tII,Zbv3,Zbg5,Zbv4,Zbg9,Zbg8,Zbv5,Zbv6,Zbhb,Zbv7,Zbwb,Zbwc,Zbwd,Zbhd,Zbwe,Zbwf,Zbwg,Zbwh,Zbwi])
abbrev Zcqz:=uq Zd2.1.1.1.1
abbrev Zb2q:=uq Zd2.1.1.1.2
abbrev Zcq0:=uq Zd2.1.1.2.1
abbrev Zb2r:=uq Zd2.1.1.2.2
abbrev Zb2s:=uq Zd2.1.2.1.1
abbrev Zcq1:=uq Zd2.1.2.1.2
abbrev Zb2t:=uq Zd2.1.2.2.1
abbrev Zcq2:=uq Zd2.1.2.2.2
abbrev Zcq3:=uq Zd2.2.1.1.1
abbrev Zcq4:=uq Zd2.2.1.1.2
abbrev Zb2u:=uq Zd2.2.1.2.1
abbrev Zcq5:=uq Zd2.2.1.2.2
abbrev Zcq6:=uq Zd2.2.2.1.1
abbrev Zcq7:=uq Zd2.2.2.1.2
abbrev Zcq8:=uq Zd2.2.2.2.1
abbrev Zcq9:=uq Zd2.2.2.2.2
theorem Zcra{a a1:Int}{r:AV×List Blk}(h:(if a1=0 then(some (.tup [.agg [I 0,I 0],Bo false],[])=some r)else(if a<(-9223372036854775807)then(some (.tup [.agg [I 0,I 0],Bo false],[])=some r)else(if a1<(-9223372036854775807)then(some (.tup [.agg [I 0,I 0],Bo false],[])=some r)else(if a1<0 then(∃(v:Int),Zkq (w (0-a))=some (I v,[])/\(∃(v1:Int),Zkr v (w (0-a1))=some (I v1,[])/\(¬v1=0/\(∃(v2:Bool),Zcn (⟨(w (Int.tdiv (w (0-a)) v1)),(w (Int.tdiv (w (0-a1)) v1))⟩:Za)=some (Bo v2,[])/\(if v2=true then(some (.tup [.agg [I (w (Int.tdiv (w (0-a)) v1)),I (w (Int.tdiv (w (0-a1)) v1))],Bo true],[])=some r)else(some (.tup [.agg [I 0,I 0],Bo false],[])=some r))))))else(∃(v3:Int),Zkq a=some (I v3,[])/\(∃(v4:Int),Zkr v3 a1=some (I v4,[])/\(¬v4=0/\(∃(v5:Bool),Zcn (⟨(w (Int.tdiv a v4)),(w (Int.tdiv a1 v4))⟩:Za)=some (Bo v5,[])/\(if v5=true then(some (.tup [.agg [I (w (Int.tdiv a v4)),I (w (Int.tdiv a1 v4))],Bo true],[])=some r)else(some (.tup [.agg [I 0,I 0],Bo false],[])=some r))))))))))):Zkt a a1=some r:=by
 unfold Zkt;refine run Zcj3 rfl ?_;simp only[Zkq,Zkr,Zcn,Za.c_def,mpl,dfs]at h
 try simp only[itb]at h
 try simp only[itf,gS,kk]at h
 rcases h with⟨q1,h⟩|⟨q1,(⟨q2,h⟩|⟨q2,(⟨q3,h⟩|⟨q3,(⟨q4,v,q5,v1,q6,q7,v2,q8,(⟨q9,h⟩|⟨q9,h⟩)⟩|⟨q4,v3,q10,v4,q11,q12,v5,q13,(⟨q14,h⟩|⟨q14,h⟩)⟩)⟩)⟩)⟩
 all_goals (try simp only[Int.zero_sub]at *)
 all_goals (refine Yf ?_ h;clear h;simp +decide[*,kk,tI,tII,Zbwa,Zbv9])
end Go.Proofs.YtnnjbejcffjgfaaGreat
