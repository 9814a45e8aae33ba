/-
  Parts of the proofs for this seat: G27 G28 L25.
-/
import Derived.Test.YtcfaekfjkeobhaaGreatP11
import Derived.Test.YtcfaekfjkeobhaaGreatP26
set_option linter.unusedSectionVars false
set_option linter.unusedSimpArgs false
set_option linter.unusedVariables false
set_option maxRecDepth 100000
set_option maxHeartbeats 4000000
namespace Go.Proofs.YtcfaekfjkeobhaaGreat
open Go.AM
theorem Zboa:(∀m c q x x1 x2 x3 cd cn l x4 r,Im (Zx9 m c q x x1 x2 x3 cd cn l x4=some r) (∃(v:Ze),∃(v1:Zk),∃(v2:Zc),∃v3,∃(v4:Region),Zkb cd=some (.tup [.agg (v.c.map .t),.agg (v1.c.map .t),.agg (v2.c.map .t),I v3,.agg (v4.c.map .t)],[])/\∃(v5:List Zd),∃v6,∃v7,Zkc v v1 v2 v3 v4=some (.tup [.agg [I v6,.own 0],Bo v7],[.arr 63 8 true (v5.map Zd.c)])/\∃v8,∃(v9:List Zd),∃v10,∃v11,Zfj v v1 v2 v3 v4=some (.tup [.agg [I v10,.own 0],Bo v11],[.arr 63 8 v8 (v9.map Zd.c)])/\v7=v11/\qV (Zkd (⟨v6,v5⟩:Zk) (⟨v10,v9⟩:Zk)) (λv12=>v12=true/\qI (Ziw v1) (λv13=>qI (Zht v1) (λv14=>v13=v14/\if v7=true then qV (Zdg v (⟨v6,v5⟩:Zk)) (λv15=>v15=true/\qI (Zf8 (⟨v6,v5⟩:Zk) v2 v3 v4.Box.Low) (λv16=>¬(v16<0)/\¬(4<(v5.length:Int))/\∃(v17:Ze),∃(v18:Zk),∃v19,Zg4 cd=some (.tup [.agg (v17.c.map .t),.agg (v18.c.map .t),I v19],[])/\∃(v20:List Zd),∃v21,∃v22,Zgc v17 v18 v19=some (.tup [.agg [I v21,.own 0],I v22],[.arr 63 8 true (v20.map Zd.c)])/\Zgd v17 v18 v21 v20 v19 v22 0=some r))else ∃(v23:Ze),∃(v24:Zk),∃v25,Zg4 cd=some (.tup [.agg (v23.c.map .t),.agg (v24.c.map .t),I v25],[])/\∃(v26:List Zd),∃v27,∃v28,Zgc v23 v24 v25=some (.tup [.agg [I v27,.own 0],I v28],[.arr 63 8 true (v26.map Zd.c)])/\Zgd v23 v24 v27 v26 v25 v28 0=some r)))))/\
 (∀m3 c3 cl x cc n i r,Im (Zgd m3 c3 cl x cc n i=some r) (if i<(x.length:Int)then qB (Zfi m3 c3) (qG x i (λe2=>if e2.Version=cc then Zgd m3 c3 cl x cc n (w (i+1))=some r else qb false r)) (qb (decide (n=(w ((c3.Entries.length:Int)-(x.length:Int))))) r)else qb (decide (n=(w ((c3.Entries.length:Int)-(x.length:Int))))) r)):=by
 and_intros
 all_goals(intros;unfold Im;(try simp only[Zgd,Zkb,Zkc,Zfj,Zkd,Ziw,Zht,Zg4,Zgc,Zdg,Zf8,Box.c_def,Ze.c_def,Zm.c_def,Plan.c_def,Zk.c_def,Zc.c_def,Region.c_def,Zfi,Zx9,mpl,dfs,qs]);(try simp only[itb]);(try simp only[itf,gS,kk]))
 all_goals(repeat' first|refine exI λ_=>?_|refine anJ λ_ _=>?_|refine anI λ_=>?_|refine orE2 ?_ ?_|exact False.elim)
 all_goals(try subst_vars)
 all_goals(intro h;first|rw[Zhn Zx8.eq_1]|rw[Zl Z5u.eq_1])
 all_goals (refine Yb ?_ h;clear h;simp +decide[*,kk,tI,tII,Z5v])
abbrev Zb42:=uq Zboa.1
abbrev Zbob:=uq Zboa.2
theorem Zb43:∀a r,Im (Z5w a=some r) (qB (Zvx a) (qb true r) (∃(v:Ze),∃(v1:Zk),∃(v2:Zc),∃v3,∃(v4:List Int),Zsg a=some (.tup [.agg (v.c.map .t),.agg (v1.c.map .t),.agg (v2.c.map .t),I v3,L 1 (v4.map ic)],[])/\∃(v5:List Zd),∃(v6:List Zb),∃v7,∃v8,Zpb v v1 v2 v3 v4=some (.tup [.agg [I v7,.own 0],.agg [.own 1],Bo v8],[.arr 63 8 true (v5.map Zd.c),.arr 162 3 true (v6.map Zb.c)])/\∃v9,∃(v10:List Zd),∃(v11:List Zb),∃v12,∃v13,Zpd v v1 v2 v3 v4=some (.tup [.agg [I v12,.own 0],.agg [.own 1],Bo v13],[.arr 63 8 v9 (v10.map Zd.c),.arr 162 3 true (v11.map Zb.c)])/\v8=v13/\qV (Ztj (⟨v7,v5⟩:Zk) (⟨v12,v10⟩:Zk)) (λv14=>v14=true/\qV (Zdg v v1) (λv15=>qV (Zfi v v1) (λv16=>v15=v16/\qI (Zf8 v1 v2 v3 v4) (λv17=>qI (Zmf v1 v2 v3 v4) (λv18=>v17=v18/\if v8=true then qG v1.Entries v18 (λe16=>qV (Zdg v (⟨v7,v5⟩:Zk)) (λv19=>v19=true/\qI (Zoa v v2 (⟨v6⟩:Plan) v4) (λv20=>qI (Ztk v v2 v4) (λv21=>¬((w (e16.Region.Percent*v21))<(w (v20*100)))/\∃(v22:Ze),∃(v23:Zk),∃(v24:Zc),∃v25,∃(v26:Region),Zkb a=some (.tup [.agg (v22.c.map .t),.agg (v23.c.map .t),.agg (v24.c.map .t),I v25,.agg (v26.c.map .t)],[])/\∃(v27:List Zd),∃v28,∃v29,Zkc v22 v23 v24 v25 v26=some (.tup [.agg [I v28,.own 0],Bo v29],[.arr 63 8 true (v27.map Zd.c)])/\∃v30,∃(v31:List Zd),∃v32,∃v33,Zfj v22 v23 v24 v25 v26=some (.tup [.agg [I v32,.own 0],Bo v33],[.arr 63 8 v30 (v31.map Zd.c)])/\v29=v33/\qV (Zkd (⟨v28,v27⟩:Zk) (⟨v32,v31⟩:Zk)) (λv34=>v34=true/\qI (Ziw v23) (λv35=>qI (Zht v23) (λv36=>v35=v36/\if v29=true then qV (Zdg v22 (⟨v28,v27⟩:Zk)) (λv37=>v37=true/\qI (Zf8 (⟨v28,v27⟩:Zk) v24 v25 v26.Box.Low) (λv38=>¬(v38<0)/\¬(4<(v27.length:Int))/\∃(v39:Ze),∃(v40:Zk),∃v41,Zg4 a=some (.tup [.agg (v39.c.map .t),.agg (v40.c.map .t),I v41],[])/\∃(v42:List Zd),∃v43,∃v44,Zgc v39 v40 v41=some (.tup [.agg [I v43,.own 0],I v44],[.arr 63 8 true (v42.map Zd.c)])/\Zgd v39 v40 v43 v42 v41 v44 0=some r))else ∃(v45:Ze),∃(v46:Zk),∃v47,Zg4 a=some (.tup [.agg (v45.c.map .t),.agg (v46.c.map .t),I v47],[])/\∃(v48:List Zd),∃v49,∃v50,Zgc v45 v46 v47=some (.tup [.agg [I v49,.own 0],I v50],[.arr 63 8 true (v48.map Zd.c)])/\Zgd v45 v46 v49 v48 v47 v50 0=some r)))))))else Zx9 v v1 v2 v6 (⟨v7,v5⟩:Zk) v11 (⟨v12,v10⟩:Zk) a v3 v4 false=some r))))))):=by
 all_goals(intros;unfold Im;(try simp only[Z5w,Zvx,Zsg,Zpb,Zpd,Ztj,Zdg,Zfi,Zf8,Zmf,Zoa,Ztk,Zkb,Zkc,Zfj,Zkd,Ziw,Zht,Zg4,Zgc,Box.c_def,Ze.c_def,Zm.c_def,Plan.c_def,Zk.c_def,Zc.c_def,Region.c_def,Zx9,Zgd,mpl,dfs,qs]);(try simp only[itb]);(try simp only[itf,gS,kk]))
 all_goals(repeat' first|refine exI λ_=>?_|refine anJ λ_ _=>?_|refine anI λ_=>?_|refine orE2 ?_ ?_|exact False.elim)
 all_goals(try subst_vars)
 all_goals(intro h;first|refine run Zbvp rfl ?_)
 all_goals (refine Yb ?_ h;clear h;simp +decide[*,kk,tI,tII,Zbhm,Zx8])
abbrev Zb44:=uq Zb43
theorem dec_u8(ts:List T)(h:HasShs [.int .u8] ts):∃n:Int,ts=kc .u8 n/\True:=by
 obtain⟨t,us,rfl,h1,h2⟩:=Z8a h;cases dec_nil h2
 cases h1 with
 |int h=>exact⟨_,rfl,trivial⟩
theorem decB{t:T}(h:HasSh (.slice [.int .u8]) t):∃xs:List Int,t=.lst 1 (xs.map (kc .u8))/\OkL (λ_=>True) xs:=Zbqd dec_u8 h
theorem l_drop(m:Ze)(hm:LeM m)(c:Zk)(hc:SmC c.Entries)(k:Int)(es:List Zd)(v n:Int)(hl:es.length<=1000)(hv:Zbr m c=true->∀e∈es,e.Version=v)(hn:n=w ((c.Entries.length:Int)-(es.length:Int))):∀i,i<=es.length->Zgd m c k es v n i=some (Bo true,[]):=by
 refine down _ ?_ ?_
 .refine Zbob _ _ _ _ _ _ _ _ ?_;rw[if_neg (by omega)];simp[hn]
 .intro i hi ih;refine Zbob _ _ _ _ _ _ _ _ ?_;rw[if_pos (by omega)];refine⟨_,Zzh m hm c hc.lc.le,?_⟩;rcases tf (Zbr m c)with e|e
  .rw[e,if_neg (by decide)];simp[hn]
  .rw[if_pos e];refine⟨by omega,es[i],Ya hi,?_⟩;rw[if_pos (hv e _ (Yf hi)),wN i (by omega)];exact ih
theorem drop_ok(m:Ze)(hm:LeM m)(c:Zk)(hc:SmC c.Entries)(v:Int):∃(es:List Zd) (k n:Int),Zgc m c v=some (.tup [.agg [I k,.own 0],I n],[.arr 63 8 true (es.map Zd.c)])/\Zgd m c k es v n 0=some (Bo true,[]):=by
 have h:=Zb4s m hm c hc.lc v;have hx:=hc.1;rcases tf (Zbr m c)with e|e
 .rw[if_neg (by simp[e])]at h;exact⟨_,_,_,h,l_drop m hm c hc _ _ v 0 hx (λh=>by rw[e]at h;cases h) (by rw[show(c.Entries.length:Int)-c.Entries.length=0 by omega];rfl) 0 (by omega)⟩
 .rw[if_pos e]at h;have hs:=Zbnu v c.Entries;exact⟨_,_,_,h,l_drop m hm c hc _ _ v _ (by omega) (λ_ x hx=>by unfold stay at hx;simpa using(Y4.1 hx).2) (by rw[w_id (by omega) (by omega)]) 0 (by omega)⟩
theorem tailC(a:List Int)(ha:a.length<=1048576):(∃(v1:Ze) (v2:Zk) (v4:Zc) (v5:Int) (v6:Region),Zkb a=some (.tup [.agg (v1.c.map .t),.agg (v2.c.map .t),.agg (v4.c.map .t),I v5,.agg (v6.c.map .t)],[])/\(∃(v7:List Zd) (v8:Int) (v9:Bool),Zkc v1 v2 v4 v5 v6=some (.tup [.agg [I v8,.own 0],Bo v9],[.arr 63 8 true (v7.map Zd.c)])/\(∃(v10:Bool) (v11:List Zd) (v12:Int) (v13:Bool),Zfj v1 v2 v4 v5 v6=some (.tup [.agg [I v12,.own 0],Bo v13],[.arr 63 8 v10 (v11.map Zd.c)])/\(v9=v13/\(∃(v14:Bool),Zkd (⟨v8,v7⟩:Zk) (⟨v12,v11⟩:Zk)=some (Bo v14,[])/\(v14=true/\(∃(v15:Int),Ziw v2=some (I v15,[])/\(∃(v16:Int),Zht v2=some (I v16,[])/\(v15=v16/\(if v9=true then(∃(v17:Bool),Zdg v1 (⟨v8,v7⟩:Zk)=some (Bo v17,[])/\(v17=true/\(∃(v18:Int),Zf8 (⟨v8,v7⟩:Zk) v4 v5 v6.Box.Low=some (I v18,[])/\(¬(v18<0)/\(¬(4<(v7.length:Int))/\(∃(v19:Ze) (v20:Zk) (v21:Int),Zg4 a=some (.tup [.agg (v19.c.map .t),.agg (v20.c.map .t),I v21],[])/\(∃(v22:List Zd) (v23:Int) (v24:Int),Zgc v19 v20 v21=some (.tup [.agg [I v23,.own 0],I v24],[.arr 63 8 true (v22.map Zd.c)])/\(Zgd v19 v20 v23 v22 v21 v24 0=some ((Bo true,[]):AV×List Blk)))))))))else(∃(v25:Ze) (v26:Zk) (v27:Int),Zg4 a=some (.tup [.agg (v25.c.map .t),.agg (v26.c.map .t),I v27],[])/\(∃(v28:List Zd) (v29:Int) (v30:Int),Zgc v25 v26 v27=some (.tup [.agg [I v29,.own 0],I v30],[.arr 63 8 true (v28.map Zd.c)])/\(Zgd v25 v26 v29 v28 v27 v30 0=some ((Bo true,[]):AV×List Blk)))))))))))))):=by
 obtain⟨m,c,q,v,r,d2,hm,hc,hq,hr⟩:=Zb4o a ha;obtain⟨m3,c3,v3,d3,hm3,hc3⟩:=Zb4p a ha;obtain⟨es,k,n,p1,p2⟩:=drop_ok m3 hm3 c3 hc3 v3;have i1:=Zb4k m hm c hc.lc q hq.lq v r hr.lr;obtain⟨fr,s1⟩:=Zbns m hm c hc.lc q hq.lq v r hr.lr;have hx:=hc.1;have o1:=Zbnn c (by omega);have o2:=Zbno c (by omega);have hlo:=hr.2.1;by_cases ok:adOk m c q r v=true
 .rw[if_pos ok]at i1 s1;unfold Zi5 at i1 s1;obtain⟨w1,w2,w3⟩:=Zb4y ok;have sm:=hc.add hq hr ok (c.Clock+1);have hf:=Zb4z w3 v (c.Clock+1) (Zb7 c.Entries);refine⟨m,c,q,v,r,d2,_,_,true,i1,fr,_,_,true,s1,rfl,true,Zbn6 _ _ sm,rfl,_,o1,_,o2,rfl,?_⟩;rw[if_pos rfl];exact⟨_,Zpz m hm ⟨_,_⟩ sm.lc.le,w1,_,Z71 ⟨_,_⟩ sm.lc q v r.Box.Low (by unfold Le;omega),Int.not_lt.2 hf,by omega,m3,c3,v3,d3,es,k,n,p1,p2⟩
 .rw[if_neg ok]at i1 s1;unfold adNo at i1 s1;refine⟨m,c,q,v,r,d2,_,_,false,i1,fr,_,_,false,s1,rfl,true,Zbn6 _ _ hc,rfl,_,o1,_,o2,rfl,?_⟩;rw[if_neg (by decide)];exact⟨m3,c3,v3,d3,es,k,n,p1,p2⟩
theorem Zb45(a:List Int):Z5w a=some (Bo true,[]):=by
 refine Zb44 _ _ ⟨_,Zbvr _ _ rfl,?_⟩;by_cases hb:1048576<(a.length:Int)
 .rw[if_pos (by simpa using hb)]
 rw[if_neg (by simpa using hb)];have ha:a.length<=1048576:=by omega
 have tl:=tailC a ha;obtain⟨m,c,q,v,l,d1,hm,hc,hq,hl⟩:=Zb4n a ha;have hL:Le l:=by unfold Le;omega
 refine⟨m,c,q,v,l,d1,?_⟩;have f1:=Zpz m hm c hc.lc.le;have f2:=Zzh m hm c hc.lc.le;have f3:=Z71 c hc.lc q v l hL;have f4:=Zbne c hc.lc q v l hL;rcases Zb4v m hm c hc.lc q v l hL with⟨fr,i1,s1⟩|⟨i,e,fr,⟨k1,k2,k3,k4,k5⟩,i1,s1⟩
 .unfold lkNo at i1 s1;refine⟨_,_,_,false,i1,fr,_,_,_,false,s1,rfl,true,Zbn5 _ _ hc,rfl,_,f1,_,f2,rfl,_,f3,_,f4,rfl,?_⟩;rw[if_neg (by decide)];exact Zb42 _ _ _ _ _ _ _ _ _ _ _ _ tl
 .unfold lkYes at i1 s1;have he:=hc.2 e (Yu k3);have sm:SmC (touched c.Entries i e (c.Clock+1)):=hc.set _ _ he.1 he.2;have hv:=Zb4w k1 k2 k3;have hp:=((Zus.1 k1).2.2.1 e (Yu k3)).2.2;obtain⟨g1,g2,g3,g4,g5⟩:=Zb40 hm hq.le k4 hp;rw[k5]at f3 f4;refine⟨_,_,_,true,i1,fr,_,_,_,true,s1,rfl,true,Zbn5 _ _ sm,rfl,_,f1,_,f2,rfl,_,f3,_,f4,rfl,?_⟩;rw[if_pos rfl];refine⟨by omega,e,k3,_,Zpz m hm ⟨_,_⟩ sm.lc.le,hv,_,Zbly m hm q hq.le ⟨_⟩ l (by omega) g1,_,Zb41 g1 g2 hm g3 g4,?_,tl⟩;unfold Zuk at g5;rw[Int.mul_comm _ 100];simpa using g5
theorem lawCache(a:List Int)(ha:OkL (λ_=>True) a):C Zbqn [L 1 (a.map (kc .u8))] []=some (Bo true,[]):=Zb45 a
end Go.Proofs.YtcfaekfjkeobhaaGreat
