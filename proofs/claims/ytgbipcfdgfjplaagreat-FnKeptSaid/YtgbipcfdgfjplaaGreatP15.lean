/-
  Parts of the proofs for this seat: G10 G11 G12.
-/
import Derived.Test.YtgbipcfdgfjplaaGreatP11
import Derived.Test.YtgbipcfdgfjplaaGreatP14
set_option linter.unusedSectionVars false
set_option linter.unusedSimpArgs false
set_option linter.unusedVariables false
set_option maxRecDepth 100000
set_option maxHeartbeats 4000000
namespace Go.Proofs.YtgbipcfdgfjplaaGreat
open Go.AM
theorem Zpy{fr:Bool}{c:XS}{x m i j:Int}{r:XR}(h:(if i=j then(∃(v:Bool) (v1:XS) (v2:Int),Zak fr c x (w (m-i)) m i=some (.tup [],[.arr 42 1 v (v1.map isc),.box [I v2]])/\(some (.tup [],[.arr 42 1 v (v1.map isc),.box [I v2]])=some r))else(if j<i then(∃(v3:Bool) (v4:XS) (v5:Int),Zak fr c x (w (m-i)) m j=some (.tup [],[.arr 42 1 v3 (v4.map isc),.box [I v5]])/\(K9 v3 v4 v5 m (w (i-j)) j=some r))else(∃(v6:Bool) (v7:XS) (v8:Int),Zak fr c x (w (m-i)) (w ((w (m+j))-i)) i=some (.tup [],[.arr 42 1 v6 (v7.map isc),.box [I v8]])/\(K9 v6 v7 v8 m i (w (j-i))=some r))))):K9 fr c x m i j=some r:=by
 unfold K9;rw[Zl ZmX.eq_1];simp only[Zak,mpl,dfs]at h
 try simp only[itb]at h
 try simp only[itf,gS,kk]at h
 rcases h with⟨q1,v,v1,v2,q2,h⟩|⟨q1,(⟨q3,v3,v4,v5,q4,h⟩|⟨q3,v6,v7,v8,q5,h⟩)⟩
 all_goals (refine Yc ?_ h;clear h;simp +decide[*,-List.map_set,Wg,Wh,kk,tI,tII,ZmY,K9])
theorem Z7N{fr:Bool}{x:XS}{x1 a a1 a2:Int}{r:XR}(h:(K9 fr x x1 a1 (w (a1-a)) (w (a2-a1))=some r)):Zfa fr x x1 a a1 a2=some r:=by
 unfold Zfa;refine ZR Z5o rfl ?_;refine Yc ?_ h;clear h;simp +decide[*,-List.map_set,Wg,Wh,kk,tI,tII,ZuO,K9]
theorem Zpz{fr:Bool}{c:XS}{x a i j:Int}{r:XR}(h:(if i<j then(0<=(w (shrI (IntKind.wrap .u64 (w (i+j))) 1))/\(∃(e1:WA),c[(w (shrI (IntKind.wrap .u64 (w (i+j))) 1)).toNat]?=some e1/\(0<=a/\(∃(e2:WA),c[a.toNat]?=some e2/\(∃(v:Int) (v1:Int),UH x e1 e2=some (I v1,[.box [I v]])/\(if v1<0 then(KA fr c v a (w ((w (shrI (IntKind.wrap .u64 (w (i+j))) 1))+1)) j=some r)else(KA fr c v a i (w (shrI (IntKind.wrap .u64 (w (i+j))) 1))=some r)))))))else(Zam fr c x i a=some r))):KA fr c x a i j=some r:=by
 unfold KA;rw[Zl ZmZ.eq_1];simp only[UH,mpl,dfs]at h
 try simp only[itb]at h
 try simp only[itf,gS,kk]at h
 rcases h with⟨q1,q2,e1,⟨g3,q3⟩,q4,e2,⟨g5,q5⟩,v,v1,q6,(⟨q7,h⟩|⟨q7,h⟩)⟩|⟨q1,h⟩
 all_goals (refine Yc ?_ h;clear h;simp +decide[*,-List.map_set,Wg,Wh,kk,tI,tII,KA,Zam,Znc])
theorem Zp0{fr:Bool}{c:XS}{x m i j:Int}{r:XR}(h:(if i<j then(0<=m/\(∃(e1:WA),c[m.toNat]?=some e1/\(0<=(w (shrI (IntKind.wrap .u64 (w (i+j))) 1))/\(∃(e2:WA),c[(w (shrI (IntKind.wrap .u64 (w (i+j))) 1)).toNat]?=some e2/\(∃(v:Int) (v1:Int),UH x e1 e2=some (I v1,[.box [I v]])/\(if v1<0 then(KB fr c v m i (w (shrI (IntKind.wrap .u64 (w (i+j))) 1))=some r)else(KB fr c v m (w ((w (shrI (IntKind.wrap .u64 (w (i+j))) 1))+1)) j=some r)))))))else(Zan fr c x i m=some r))):KB fr c x m i j=some r:=by
 unfold KB;rw[Zl Znd.eq_1];simp only[UH,mpl,dfs]at h
 try simp only[itb]at h
 try simp only[itf,gS,kk]at h
 rcases h with⟨q1,q2,e1,⟨g3,q3⟩,q4,e2,⟨g5,q5⟩,v,v1,q6,(⟨q7,h⟩|⟨q7,h⟩)⟩|⟨q1,h⟩
 all_goals (refine Yc ?_ h;clear h;simp +decide[*,-List.map_set,Wg,Wh,kk,tI,tII,KB,Zan,Zng])
theorem Zgh{fr:Bool}{c:XS}{x a m b cc n start cd p:Int}{r:XR}(h:(if start<cd then(0<=(w (p-(w (shrI (IntKind.wrap .u64 (w (start+cd))) 1))))/\(∃(e1:WA),c[(w (p-(w (shrI (IntKind.wrap .u64 (w (start+cd))) 1)))).toNat]?=some e1/\(0<=(w (shrI (IntKind.wrap .u64 (w (start+cd))) 1))/\(∃(e2:WA),c[(w (shrI (IntKind.wrap .u64 (w (start+cd))) 1)).toNat]?=some e2/\(∃(v:Int) (v1:Int),UH x e1 e2=some (I v1,[.box [I v]])/\(if v1<0 then(QO fr c v a m b cc n start (w (shrI (IntKind.wrap .u64 (w (start+cd))) 1)) p=some r)else(QO fr c v a m b cc n (w ((w (shrI (IntKind.wrap .u64 (w (start+cd))) 1))+1)) cd p=some r)))))))else(if start<m then(if m<(w (n-start))then(∃(v2:Bool) (v3:XS) (v4:Int),Zfa fr c x start m (w (n-start))=some (.tup [],[.arr 42 1 v2 (v3.map isc),.box [I v4]])/\(if a<start then(if start<cc then(∃(v5:Bool) (v6:XS) (v7:Int),WZ v2 v3 v4 a start cc=some (.tup [],[.arr 42 1 v5 (v6.map isc),.box [I v7]])/\(QP v5 v6 v7 b cc (w (n-start))=some r))else(UI v2 v3 v4 a b cc start (w (n-start)) false=some r))else(UI v2 v3 v4 a b cc start (w (n-start)) false=some r)))else(Zcq fr c x a m b cc start (w (n-start)) false=some r))else(Zcq fr c x a m b cc start (w (n-start)) false=some r)))):QO fr c x a m b cc n start cd p=some r:=by
 unfold QO;rw[Zl Znh.eq_1];simp only[UH,Zfa,WZ,mpl,dfs]at h
 try simp only[itb]at h
 try simp only[itf,gS,kk]at h
 rcases h with⟨q1,q2,e1,⟨g3,q3⟩,q4,e2,⟨g5,q5⟩,v,v1,q6,(⟨q7,h⟩|⟨q7,h⟩)⟩|⟨q1,(⟨q8,(⟨q9,v2,v3,v4,q10,(⟨q11,(⟨q12,v5,v6,v7,q13,h⟩|⟨q12,h⟩)⟩|⟨q11,h⟩)⟩|⟨q9,h⟩)⟩|⟨q8,h⟩)⟩
 all_goals (refine Yc ?_ h;clear h;simp +decide[*,-List.map_set,Wg,Wh,kk,tI,tII,QO,QP,Zig,Zni,UI,Zcq])
theorem ZxR{fr:Bool}{c:XS}{x i k:Int}{r:XR}(h:(if k<(w (i-1))then(0<=(w (k+1))/\(∃(e1:WA),c[(w (k+1)).toNat]?=some e1/\(0<=k/\(∃(e2:WA),c[k.toNat]?=some e2/\(∃(e3:WA),(c.set k.toNat e1)[(w (k+1)).toNat]?=some e3/\(Zam false ((c.set k.toNat e1).set ((w (k+1)).toNat) e2) x i (w (k+1))=some r))))))else(some (.tup [],[.arr 42 1 fr (c.map isc),.box [I x]])=some r))):Zam fr c x i k=some r:=by
 unfold Zam;rw[Zl Zna.eq_1]
 try simp only[itb]at h
 try simp only[itf,gS,kk]at h
 rcases h with⟨q1,q2,e1,⟨g3,q3⟩,q4,e2,⟨g5,q5⟩,e3,⟨g6,q6⟩,h⟩|⟨q1,h⟩
 all_goals (refine Yc ?_ h;clear h;simp +decide[*,-List.map_set,Wg,Wh,kk,tI,tII,Zam,Znb])
theorem ZxS{fr:Bool}{c:XS}{x i k:Int}{r:XR}(h:(if i<k then(0<=(w (k-1))/\(∃(e1:WA),c[(w (k-1)).toNat]?=some e1/\(0<=k/\(∃(e2:WA),c[k.toNat]?=some e2/\(∃(e3:WA),(c.set k.toNat e1)[(w (k-1)).toNat]?=some e3/\(Zan false ((c.set k.toNat e1).set ((w (k-1)).toNat) e2) x i (w (k-1))=some r))))))else(some (.tup [],[.arr 42 1 fr (c.map isc),.box [I x]])=some r))):Zan fr c x i k=some r:=by
 unfold Zan;rw[Zl Zne.eq_1]
 try simp only[itb]at h
 try simp only[itf,gS,kk]at h
 rcases h with⟨q1,q2,e1,⟨g3,q3⟩,q4,e2,⟨g5,q5⟩,e3,⟨g6,q6⟩,h⟩|⟨q1,h⟩
 all_goals (refine Yc ?_ h;clear h;simp +decide[*,-List.map_set,Wg,Wh,kk,tI,tII,Zan,Znf])
theorem ZxT{fr:Bool}{c:XS}{x b mid x1:Int}{r:XR}(h:(if mid<x1 then(if x1<b then(∃(v:Bool) (v1:XS) (v2:Int),WZ fr c x mid x1 b=some (.tup [],[.arr 42 1 v (v1.map isc),.box [I v2]])/\(some (.tup [],[.arr 42 1 v (v1.map isc),.box [I v2]])=some r))else(some (.tup [],[.arr 42 1 fr (c.map isc),.box [I x]])=some r))else(some (.tup [],[.arr 42 1 fr (c.map isc),.box [I x]])=some r))):QP fr c x b mid x1=some r:=by
 unfold QP;rw[Ev_eq Zfb.eq_1];simp only[WZ,mpl,dfs]at h
 try simp only[itb]at h
 try simp only[itf,gS,kk]at h
 rcases h with⟨q1,(⟨q2,v,v1,v2,q3,h⟩|⟨q2,h⟩)⟩|⟨q1,h⟩
 all_goals (refine Yc ?_ h;clear h;simp +decide[*,-List.map_set,Wg,Wh,kk,tI,tII])
theorem ZxU{fr:Bool}{c:XS}{x a b mid cc x1:Int}{x2:Bool}{r:XR}(h:(if mid<x1 then(if x1<b then(∃(v:Bool) (v1:XS) (v2:Int),WZ fr c x mid x1 b=some (.tup [],[.arr 42 1 v (v1.map isc),.box [I v2]])/\(some (.tup [],[.arr 42 1 v (v1.map isc),.box [I v2]])=some r))else(some (.tup [],[.arr 42 1 fr (c.map isc),.box [I x]])=some r))else(some (.tup [],[.arr 42 1 fr (c.map isc),.box [I x]])=some r))):UI fr c x a b mid cc x1 x2=some r:=by
 unfold UI;rw[Ev_eq Zfb.eq_1];simp only[WZ,mpl,dfs]at h
 try simp only[itb]at h
 try simp only[itf,gS,kk]at h
 rcases h with⟨q1,(⟨q2,v,v1,v2,q3,h⟩|⟨q2,h⟩)⟩|⟨q1,h⟩
 all_goals (refine Yc ?_ h;clear h;simp +decide[*,-List.map_set,Wg,Wh,kk,tI,tII])
theorem ZxV{fr:Bool}{cd:XS}{x a m b cc c x1:Int}{x2:Bool}{r:XR}(h:(if a<c then(if c<cc then(∃(v:Bool) (v1:XS) (v2:Int),WZ fr cd x a c cc=some (.tup [],[.arr 42 1 v (v1.map isc),.box [I v2]])/\(QP v v1 v2 b cc x1=some r))else(UI fr cd x a b cc c x1 false=some r))else(UI fr cd x a b cc c x1 false=some r))):Zcq fr cd x a m b cc c x1 x2=some r:=by
 unfold Zcq;rw[Ev_eq Zig.eq_1];simp only[WZ,mpl,dfs]at h
 try simp only[itb]at h
 try simp only[itf,gS,kk]at h
 rcases h with⟨q1,(⟨q2,v,v1,v2,q3,h⟩|⟨q2,h⟩)⟩|⟨q1,h⟩
 all_goals (refine Yc ?_ h;clear h;simp +decide[*,-List.map_set,Wg,Wh,kk,tI,tII,QP,UI])
theorem Zjf{fr:Bool}{x:XS}{x1 a a1 a2:Int}{r:XR}(h:(if(w (a1-a))=1 then(KA fr x x1 a a1 a2=some r)else(if(w (a2-a1))=1 then(KB fr x x1 a1 a a1=some r)else(if(w (shrI (IntKind.wrap .u64 (w (a+a2))) 1))<a1 then(QO fr x x1 a a1 a2 (w (shrI (IntKind.wrap .u64 (w (a+a2))) 1)) (w ((w (shrI (IntKind.wrap .u64 (w (a+a2))) 1))+a1)) (w ((w ((w (shrI (IntKind.wrap .u64 (w (a+a2))) 1))+a1))-a2)) (w (shrI (IntKind.wrap .u64 (w (a+a2))) 1)) (w ((w ((w (shrI (IntKind.wrap .u64 (w (a+a2))) 1))+a1))-1))=some r)else(QO fr x x1 a a1 a2 (w (shrI (IntKind.wrap .u64 (w (a+a2))) 1)) (w ((w (shrI (IntKind.wrap .u64 (w (a+a2))) 1))+a1)) a a1 (w ((w ((w (shrI (IntKind.wrap .u64 (w (a+a2))) 1))+a1))-1))=some r))))):WZ fr x x1 a a1 a2=some r:=by
 unfold WZ;refine ZR Z5p rfl ?_
 try simp only[itb]at h
 try simp only[itf,gS,kk]at h
 rcases h with⟨q1,h⟩|⟨q1,(⟨q2,h⟩|⟨q2,(⟨q3,h⟩|⟨q3,h⟩)⟩)⟩
 all_goals (refine Yc ?_ h;clear h;simp +decide[*,-List.map_set,Wg,Wh,kk,tI,tII,ZuQ,KA,KB,Zii,QO,ZuP,Zih])
theorem ZxW{fr:Bool}{cc:XS}{x n c a b:Int}{r:XR}(h:(if b<=n then(∃(v:Bool) (v1:XS) (v2:Int),Zcp fr cc x a b=some (.tup [],[.arr 42 1 v (v1.map isc),.box [I v2]])/\(Zap v v1 v2 n c b (w (b+c))=some r))else(∃(v3:Bool) (v4:XS) (v5:Int),Zcp fr cc x a n=some (.tup [],[.arr 42 1 v3 (v4.map isc),.box [I v5]])/\(QQ v3 v4 v5 n c=some r)))):Zap fr cc x n c a b=some r:=by
 unfold Zap;rw[Zl Znj.eq_1];simp only[Zcp,mpl,dfs]at h
 try simp only[itb]at h
 try simp only[itf,gS,kk]at h
 rcases h with⟨q1,v,v1,v2,q2,h⟩|⟨q1,v3,v4,v5,q3,h⟩
 all_goals (refine Yc ?_ h;clear h;simp +decide[*,-List.map_set,Wg,Wh,kk,tI,tII,Zap,QQ,Znm])
theorem ZxX{fr:Bool}{c:XS}{x n blockSize:Int}{r:XR}(h:(if blockSize<n then(Zaq fr c x n blockSize 0 (w (2*blockSize))=some r)else(some (.tup [],[.arr 42 1 fr (c.map isc),.box [I x]])=some r))):QQ fr c x n blockSize=some r:=by
 unfold QQ;rw[Zl Zij.eq_1]
 try simp only[itb]at h
 try simp only[itf,gS,kk]at h
 rcases h with⟨q1,h⟩|⟨q1,h⟩
 all_goals (refine Yc ?_ h;clear h;simp +decide[*,-List.map_set,Wg,Wh,kk,tI,tII,Zaq])
theorem Zp1{fr:Bool}{cc:XS}{x n c a b:Int}{r:XR}(h:(if b<=n then(∃(v:Bool) (v1:XS) (v2:Int),WZ fr cc x a (w (a+c)) b=some (.tup [],[.arr 42 1 v (v1.map isc),.box [I v2]])/\(Zaq v v1 v2 n c b (w (b+(w (2*c))))=some r))else(if(w (a+c))<n then(∃(v3:Bool) (v4:XS) (v5:Int),WZ fr cc x a (w (a+c)) n=some (.tup [],[.arr 42 1 v3 (v4.map isc),.box [I v5]])/\(QQ v3 v4 v5 n (w (c*2))=some r))else(QQ fr cc x n (w (c*2))=some r)))):Zaq fr cc x n c a b=some r:=by
 unfold Zaq;rw[Zl Znk.eq_1];simp only[WZ,mpl,dfs]at h
 try simp only[itb]at h
 try simp only[itf,gS,kk]at h
 rcases h with⟨q1,v,v1,v2,q2,h⟩|⟨q1,(⟨q3,v3,v4,v5,q4,h⟩|⟨q3,h⟩)⟩
 all_goals (refine Yc ?_ h;clear h;simp +decide[*,-List.map_set,Wg,Wh,kk,tI,tII,Zaq,QQ,ZuR,Znl])
theorem Z7O{x:XS}{x1 a:Int}{r:XR}(h:(Zap true x x1 a 20 0 20=some r)):Zik x x1 a=some r:=by
 unfold Zik;refine ZR Z5q rfl ?_;refine Yc ?_ h;clear h;simp +decide[*,-List.map_set,Wg,Wh,kk,tI,tII,ZuS,Zap]
theorem Zdc:((∀x x1 r,Im (Zil x x1=some r) (∃v,∃(v1:XS),∃v2,Zik x x1 (x.length:Int)=some (.tup [],[.arr 42 1 v (v1.map isc),.box [I v2]])/\some (.tup [],[.arr 42 1 v (v1.map isc),.box [I v2]])=some r))/\
 ((∀a a1 r,Im (Zcr a a1=some r) (qI (WX a.Vars a1) (λv=>if v<0 then some (.tup [.agg [.t .nil,.t .nil],Bo false],[])=some r else qB (Ua a) (qO 3 1 ic (VZ a.Vars) (λv4=>qO 42 1 isc (K8 a.Rows) (λv5=>∃v6,∃(v7:XS),∃v8,Zil v5 v=some (.tup [],[.arr 42 1 v6 (v7.map isc),.box [I v8]])/\some (.tup [.agg [.own 0,.own 1],Bo true],[.arr 3 1 true (v4.map ic),.arr 42 1 v6 (v7.map isc)])=some r))) (some (.tup [.agg [.t .nil,.t .nil],Bo false],[])=some r))))/\
 (∀a a1 r,Im (Zcs a a1=some r) (qO 3 1 ic (VZ a.Vars) (λv=>v.length+a1.Vars.length<=68719476736/\∃(v3:WA),Zae (v++a1.Vars)=some (.tup [],[.arr 3 1 true (v3.map ic)])/\∃(v4:WA),Zim v3=some (.own 1,[.dead,.arr 3 1 true (v4.map ic)])/\some (.ptr 0 0,[.box [L 1 (a.Vars.map ic),L 1 (a.Rows.map isc),L 1 (a1.Vars.map ic),L 1 (a1.Rows.map isc),.own 1,.t .nil],.arr 3 1 true (v4.map ic)])=some r)))))/\
 ((∀a b x c x1 y x2 x3 r,Im (Zar a b x c x1 y x2 x3=some r) (if x3<x2 then qG x x3 (λe1=>qI (WX a.Vars e1) (λv3=>qI (WX b.Vars e1) (λv4=>if v3<0 then qG y v4 (λe4=>c.length+1<=68719476736/\Zar a b x (c++[e4]) x1 y x2 (w (x3+1))=some r)else if 0<=v4 then qG x1 v3 (λe5=>qH y v4 (λe6=>if e5=e6 then c.length+1<=68719476736/\Zar a b x (c++[e5]) x1 y x2 (w (x3+1))=some r else some (.tup [],[.box [L 1 (a.Vars.map ic),L 1 (a.Rows.map isc),L 1 (b.Vars.map ic),L 1 (b.Rows.map isc),.own 1,.t .nil],.arr 3 1 true (x.map ic)])=some r))else qG x1 v3 (λe7=>c.length+1<=68719476736/\Zar a b x (c++[e7]) x1 y x2 (w (x3+1))=some r))))else some (.tup [],[.box [L 1 (a.Vars.map ic),L 1 (a.Rows.map isc),L 1 (b.Vars.map ic),L 1 (b.Rows.map isc),.own 1,.own 2],.arr 3 1 true (x.map ic),.arr 42 1 true (([c]).map isc)])=some r))/\
 ((∀a b x a1 a2 r,Im (KC a b x a1 a2=some r) (Zar a b x ([]:WA) a1 a2 (x.length:Int) 0=some r))/\
 (∀a b x r,Im (Zfe a b x=some r) (some (.tup [.agg [.own 1,.t .nil],Bo true],[.box [L 1 (a.Vars.map ic),L 1 (a.Rows.map isc),L 1 (b.Vars.map ic),L 1 (b.Rows.map isc),.own 1,.t .nil],.arr 3 1 true (x.map ic)])=some r)))):=by
 and_intros
 all_goals(intros;unfold Im;(try simp only[Zil,Zcr,Zcs,Zar,KC,Zfe,Zik,WX,Ua,VZ,K8,Zb.c_def,Zae,Zim,mpl,dfs,qs]);(try simp only[itb]);(try simp only[itf,gS,kk]))
 all_goals(repeat' first|refine exI λ_=>?_|refine anJ λ_ _=>?_|refine anI λ_=>?_|refine orE2 ?_ ?_|exact False.elim)
 all_goals(intro h;first|refine ZR Z5r rfl ?_|refine run Z5s rfl ?_|refine run Z5t rfl ?_|rw[Zl Zfc.eq_1]|refine ZR ZwD rfl ?_|refine ZR ZwE rfl ?_)
 all_goals (refine Yc ?_ h;clear h;simp +decide[*,kk,tI,tII,ZuT,ZuU,ZuV,Znn,Zfd,Zno,Znp])
abbrev Z7P:=uq Zdc.1.1
abbrev Z7Q:=uq Zdc.1.2.1
abbrev Z7R:=uq Zdc.1.2.2
abbrev ZxY:=uq Zdc.2.1
abbrev Z7S:=uq Zdc.2.2.1
abbrev ZxZ:=uq Zdc.2.2.2
theorem W1:((((∀a b x x1 c x2 y x3 x4 r,Im (Zat a b x x1 c x2 y x3 x4=some r) (if x4<x3 then qG x x4 (λe1=>qI (WX a.Vars e1) (λv1=>qI (WX b.Vars e1) (λv5=>if v1<0 then qG y v5 (λe4=>c.length+1<=68719476736/\Zat a b x x1 (c++[e4]) x2 y x3 (w (x4+1))=some r)else if 0<=v5 then qG x2 v1 (λe5=>qH y v5 (λe6=>if e5=e6 then c.length+1<=68719476736/\Zat a b x x1 (c++[e5]) x2 y x3 (w (x4+1))=some r else some (.tup [],[.box [L 1 (a.Vars.map ic),L 1 (a.Rows.map isc),L 1 (b.Vars.map ic),L 1 (b.Rows.map isc),.own 1,.own 2],.arr 3 1 true (x.map ic),.arr 42 1 true (x1.map isc)])=some r))else qG x2 v1 (λe7=>c.length+1<=68719476736/\Zat a b x x1 (c++[e7]) x2 y x3 (w (x4+1))=some r))))else x1.length+1<=68719476736/\some (.tup [],[.box [L 1 (a.Vars.map ic),L 1 (a.Rows.map isc),L 1 (b.Vars.map ic),L 1 (b.Rows.map isc),.own 1,.own 3],.arr 3 1 true (x.map ic),.dead,.arr 42 1 true ((x1++[c]).map isc)])=some r))/\
 (∀a b x x1 a1 a2 r,Im (Zas a b x x1 a1 a2=some r) (Zat a b x x1 ([]:WA) a1 a2 (x.length:Int) 0=some r)))/\
 ((∀a b x x1 r,Im (Qp a b x x1=some r) (if 4096<(x1.length:Int)then some (.tup [.agg [.t .nil,.t .nil],Bo false],[.box [L 1 (a.Vars.map ic),L 1 (a.Rows.map isc),L 1 (b.Vars.map ic),L 1 (b.Rows.map isc),.own 1,.own 2],.arr 3 1 true (x.map ic),.arr 42 1 true (x1.map isc)])=some r else some (.tup [.agg [.own 1,.own 2],Bo true],[.box [L 1 (a.Vars.map ic),L 1 (a.Rows.map isc),L 1 (b.Vars.map ic),L 1 (b.Rows.map isc),.own 1,.own 2],.arr 3 1 true (x.map ic),.arr 42 1 true (x1.map isc)])=some r))/\
 (∀a a1 b x x1 x2 x3 r,Im (Zff a a1 b x x1 x2 x3=some r) (if x3<x2 then qG x1 x3 (λe1=>Zfg a a1 b x e1 x1 x2 x3 a.Rows (a.Rows.length:Int) 0=some r)else Zfe a1 b x=some (.tup [.agg [.own 1,.t .nil],Bo true],[.box [L 1 (a1.Vars.map ic),L 1 (a1.Rows.map isc),L 1 (b.Vars.map ic),L 1 (b.Rows.map isc),.own 1,.t .nil],.arr 3 1 true (x.map ic)])/\some (.tup [.agg [.own 0,.t .nil],Bo true],[.arr 3 1 true (x.map ic)])=some r))))/\
 (((∀a a1 b x y x1 x2 x3 x4 x5 x6 r,Im (Zfg a a1 b x y x1 x2 x3 x4 x5 x6=some r) (if x6<x5 then qG x4 x6 (λe1=>(∃(v1:Zb) (v2:Zb) (v3:WA),KC a1 b x e1 y=some (.tup [],[.box [L 1 (v1.Vars.map ic),L 1 (v1.Rows.map isc),L 1 (v2.Vars.map ic),L 1 (v2.Rows.map isc),.own 1,.t .nil],.arr 3 1 true (v3.map ic)])/\Zfg a v1 v2 v3 y x1 x2 x3 x4 x5 (w (x6+1))=some r)\/(∃(v5:Zb) (v6:Zb) (v7:WA) (v8:XS),KC a1 b x e1 y=some (.tup [],[.box [L 1 (v5.Vars.map ic),L 1 (v5.Rows.map isc),L 1 (v6.Vars.map ic),L 1 (v6.Rows.map isc),.own 1,.own 2],.arr 3 1 true (v7.map ic),.arr 42 1 true (v8.map isc)])/\Zav a v5 v6 v7 v8 y x1 x2 x3 x4 x5 (w (x6+1))=some r))else Zff a a1 b x x1 x2 (w (x3+1))=some r))/\
 (∀a a1 b x x1 y x2 x3 x4 x5 x6 x7 r,Im (Zav a a1 b x x1 y x2 x3 x4 x5 x6 x7=some r) (if x7<x6 then qG x5 x7 (λe1=>(∃(v1:Zb) (v2:Zb) (v3:WA) (v4:XS),Zas a1 b x x1 e1 y=some (.tup [],[.box [L 1 (v1.Vars.map ic),L 1 (v1.Rows.map isc),L 1 (v2.Vars.map ic),L 1 (v2.Rows.map isc),.own 1,.own 2],.arr 3 1 true (v3.map ic),.arr 42 1 true (v4.map isc)])/\Zav a v1 v2 v3 v4 y x2 x3 x4 x5 x6 (w (x7+1))=some r)\/(∃(v5:Zb) (v6:Zb) (v7:WA) (v8:XS),Zas a1 b x x1 e1 y=some (.tup [],[.box [L 1 (v5.Vars.map ic),L 1 (v5.Rows.map isc),L 1 (v6.Vars.map ic),L 1 (v6.Rows.map isc),.own 1,.own 3],.arr 3 1 true (v7.map ic),.dead,.arr 42 1 true (v8.map isc)])/\Zav a v5 v6 v7 v8 y x2 x3 x4 x5 x6 (w (x7+1))=some r))else if 4096<(x1.length:Int)then(Qp a1 b x x1=some (.tup [.agg [.t .nil,.t .nil],Bo false],[.box [L 1 (a1.Vars.map ic),L 1 (a1.Rows.map isc),L 1 (b.Vars.map ic),L 1 (b.Rows.map isc),.own 1,.own 2],.arr 3 1 true (x.map ic),.arr 42 1 true (x1.map isc)])/\some (.tup [.agg [.t .nil,.t .nil],Bo false],[])=some r)\/(Qp a1 b x x1=some (.tup [.agg [.own 1,.own 2],Bo true],[.box [L 1 (a1.Vars.map ic),L 1 (a1.Rows.map isc),L 1 (b.Vars.map ic),L 1 (b.Rows.map isc),.own 1,.own 2],.arr 3 1 true (x.map ic),.arr 42 1 true (x1.map isc)])/\some (.tup [.agg [.own 0,.own 1],Bo true],[.arr 3 1 true (x.map ic),.arr 42 1 true (x1.map isc)])=some r)else Zfh a a1 b x x1 x2 x3 (w (x4+1))=some r)))/\
 ((∀a a1 b x x1 x2 x3 x4 r,Im (Zfh a a1 b x x1 x2 x3 x4=some r) (if x4<x3 then qG x2 x4 (λe1=>Zav a a1 b x x1 e1 x2 x3 x4 a.Rows (a.Rows.length:Int) 0=some r)else(Qp a1 b x x1=some (.tup [.agg [.t .nil,.t .nil],Bo false],[.box [L 1 (a1.Vars.map ic),L 1 (a1.Rows.map isc),L 1 (b.Vars.map ic),L 1 (b.Rows.map isc),.own 1,.own 2],.arr 3 1 true (x.map ic),.arr 42 1 true (x1.map isc)])/\some (.tup [.agg [.t .nil,.t .nil],Bo false],[])=some r)\/(Qp a1 b x x1=some (.tup [.agg [.own 1,.own 2],Bo true],[.box [L 1 (a1.Vars.map ic),L 1 (a1.Rows.map isc),L 1 (b.Vars.map ic),L 1 (b.Rows.map isc),.own 1,.own 2],.arr 3 1 true (x.map ic),.arr 42 1 true (x1.map isc)])/\some (.tup [.agg [.own 0,.own 1],Bo true],[.arr 3 1 true (x.map ic),.arr 42 1 true (x1.map isc)])=some r)))/\
 ((∀a a1 r,Im (Zau a a1=some r) (qB (Ua a) (qB (Ua a1) (∃(v5:Zb) (v6:Zb) (v7:WA),Zcs a a1=some (.ptr 0 0,[.box [L 1 (v5.Vars.map ic),L 1 (v5.Rows.map isc),L 1 (v6.Vars.map ic),L 1 (v6.Rows.map isc),.own 1,.t .nil],.arr 3 1 true (v7.map ic)])/\Zff a v5 v6 v7 a1.Rows (a1.Rows.length:Int) 0=some r) (some (.tup [.agg [.t .nil,.t .nil],Bo false],[])=some r)) (some (.tup [.agg [.t .nil,.t .nil],Bo false],[])=some r)))/\
 (∀a a1 a2 r,Im (Znq a a1 a2=some r) (qG a a2 (λe1=>qH a1 a2 (λe2=>qi (w (e1-e2)) r))))))))/\
 ((((∀x cc i r,Im (Zfi x cc i=some r) (if 0<i then qG x i (λe1=>0<=(w (i-1))/\∃e2,x[(w (i-1)).toNat]?=some e2/\qI (Znq e1 e2 cc) (λv5=>if v5<0 then qb false r else Zfi x cc (w (i-1))=some r))else qb true r))/\
 (∀a a1 r,Im (Znu a a1=some r) (Zfi a a1 (w ((a.length:Int)-1))=some r)))/\
 ((∀a a1 r,Im (Zfj a a1=some r) (qI (WX a.Vars a1) (λv=>if v<0 then qb false r else qB (Ua a) (qV (Znu a.Rows v) (λv5=>qb v5 r)) (qb false r))))/\
 (∀b a b1 x x1 x2 x3 r,Im (Zfk b a b1 x x1 x2 x3=some r) (if x3<x2 then qG x1 x3 (λe1=>Zfl b a b1 x e1 x1 x2 x3 b.Rows (b.Rows.length:Int) 0=some r)else Zfe a b1 x=some (.tup [.agg [.own 1,.t .nil],Bo true],[.box [L 1 (a.Vars.map ic),L 1 (a.Rows.map isc),L 1 (b1.Vars.map ic),L 1 (b1.Rows.map isc),.own 1,.t .nil],.arr 3 1 true (x.map ic)])/\some (.tup [.agg [.own 0,.t .nil],Bo true],[.arr 3 1 true (x.map ic)])=some r))))/\
 (((∀b a b1 x x1 x2 x3 x4 x5 x6 x7 r,Im (Zfl b a b1 x x1 x2 x3 x4 x5 x6 x7=some r) (if x7<x6 then qG x5 x7 (λe1=>(∃(v1:Zb) (v2:Zb) (v3:WA),KC a b1 x x1 e1=some (.tup [],[.box [L 1 (v1.Vars.map ic),L 1 (v1.Rows.map isc),L 1 (v2.Vars.map ic),L 1 (v2.Rows.map isc),.own 1,.t .nil],.arr 3 1 true (v3.map ic)])/\Zfl b v1 v2 v3 x1 x2 x3 x4 x5 x6 (w (x7+1))=some r)\/(∃(v5:Zb) (v6:Zb) (v7:WA) (v8:XS),KC a b1 x x1 e1=some (.tup [],[.box [L 1 (v5.Vars.map ic),L 1 (v5.Rows.map isc),L 1 (v6.Vars.map ic),L 1 (v6.Rows.map isc),.own 1,.own 2],.arr 3 1 true (v7.map ic),.arr 42 1 true (v8.map isc)])/\Zaw b v5 v6 v7 v8 x1 x2 x3 x4 x5 x6 (w (x7+1))=some r))else Zfk b a b1 x x2 x3 (w (x4+1))=some r))/\
 (∀b a b1 x x1 x2 x3 x4 x5 x6 x7 x8 r,Im (Zaw b a b1 x x1 x2 x3 x4 x5 x6 x7 x8=some r) (if x8<x7 then qG x6 x8 (λe1=>(∃(v1:Zb) (v2:Zb) (v3:WA) (v4:XS),Zas a b1 x x1 x2 e1=some (.tup [],[.box [L 1 (v1.Vars.map ic),L 1 (v1.Rows.map isc),L 1 (v2.Vars.map ic),L 1 (v2.Rows.map isc),.own 1,.own 2],.arr 3 1 true (v3.map ic),.arr 42 1 true (v4.map isc)])/\Zaw b v1 v2 v3 v4 x2 x3 x4 x5 x6 x7 (w (x8+1))=some r)\/(∃(v5:Zb) (v6:Zb) (v7:WA) (v8:XS),Zas a b1 x x1 x2 e1=some (.tup [],[.box [L 1 (v5.Vars.map ic),L 1 (v5.Rows.map isc),L 1 (v6.Vars.map ic),L 1 (v6.Rows.map isc),.own 1,.own 3],.arr 3 1 true (v7.map ic),.dead,.arr 42 1 true (v8.map isc)])/\Zaw b v5 v6 v7 v8 x2 x3 x4 x5 x6 x7 (w (x8+1))=some r))else if 4096<(x1.length:Int)then(Qp a b1 x x1=some (.tup [.agg [.t .nil,.t .nil],Bo false],[.box [L 1 (a.Vars.map ic),L 1 (a.Rows.map isc),L 1 (b1.Vars.map ic),L 1 (b1.Rows.map isc),.own 1,.own 2],.arr 3 1 true (x.map ic),.arr 42 1 true (x1.map isc)])/\some (.tup [.agg [.t .nil,.t .nil],Bo false],[])=some r)\/(Qp a b1 x x1=some (.tup [.agg [.own 1,.own 2],Bo true],[.box [L 1 (a.Vars.map ic),L 1 (a.Rows.map isc),L 1 (b1.Vars.map ic),L 1 (b1.Rows.map isc),.own 1,.own 2],.arr 3 1 true (x.map ic),.arr 42 1 true (x1.map isc)])/\some (.tup [.agg [.own 0,.own 1],Bo true],[.arr 3 1 true (x.map ic),.arr 42 1 true (x1.map isc)])=some r)else Zfm b a b1 x x1 x3 x4 (w (x5+1))=some r)))/\
 ((∀b a b1 x x1 x2 x3 x4 r,Im (Zfm b a b1 x x1 x2 x3 x4=some r) (if x4<x3 then qG x2 x4 (λe1=>Zaw b a b1 x x1 e1 x2 x3 x4 b.Rows (b.Rows.length:Int) 0=some r)else(Qp a b1 x x1=some (.tup [.agg [.t .nil,.t .nil],Bo false],[.box [L 1 (a.Vars.map ic),L 1 (a.Rows.map isc),L 1 (b1.Vars.map ic),L 1 (b1.Rows.map isc),.own 1,.own 2],.arr 3 1 true (x.map ic),.arr 42 1 true (x1.map isc)])/\some (.tup [.agg [.t .nil,.t .nil],Bo false],[])=some r)\/(Qp a b1 x x1=some (.tup [.agg [.own 1,.own 2],Bo true],[.box [L 1 (a.Vars.map ic),L 1 (a.Rows.map isc),L 1 (b1.Vars.map ic),L 1 (b1.Rows.map isc),.own 1,.own 2],.arr 3 1 true (x.map ic),.arr 42 1 true (x1.map isc)])/\some (.tup [.agg [.own 0,.own 1],Bo true],[.arr 3 1 true (x.map ic),.arr 42 1 true (x1.map isc)])=some r)))/\
 ((∀a a1 r,Im (Qq a a1=some r) (qB (Ua a) (qB (Ua a1) (∃(v5:Zb) (v6:Zb) (v7:WA),Zcs a a1=some (.ptr 0 0,[.box [L 1 (v5.Vars.map ic),L 1 (v5.Rows.map isc),L 1 (v6.Vars.map ic),L 1 (v6.Rows.map isc),.own 1,.t .nil],.arr 3 1 true (v7.map ic)])/\Zfk a1 v5 v6 v7 a.Rows (a.Rows.length:Int) 0=some r) (some (.tup [.agg [.t .nil,.t .nil],Bo false],[])=some r)) (some (.tup [.agg [.t .nil,.t .nil],Bo false],[])=some r)))/\
 (∀a a1 a2 r,Im (Zax a a1 a2=some r) (qB (Zfj a a2) (qB (Zfj a1 a2) ((Qq a a1=some (.tup [.agg [.t .nil,.t .nil],Bo false],[])/\some (.tup [.agg [.t .nil,.t .nil],Bo false],[])=some r)\/(∃(v9:WA),Qq a a1=some (.tup [.agg [.own 0,.t .nil],Bo true],[.arr 3 1 true (v9.map ic)])/\some (.tup [.agg [.own 0,.t .nil],Bo true],[.arr 3 1 true (v9.map ic)])=some r)\/(∃(v10:WA) (v11:XS),Qq a a1=some (.tup [.agg [.own 0,.own 1],Bo true],[.arr 3 1 true (v10.map ic),.arr 42 1 true (v11.map isc)])/\some (.tup [.agg [.own 0,.own 1],Bo true],[.arr 3 1 true (v10.map ic),.arr 42 1 true (v11.map isc)])=some r)) (some (.tup [.agg [.t .nil,.t .nil],Bo false],[])=some r)) (some (.tup [.agg [.t .nil,.t .nil],Bo false],[])=some r))))))):=by
 and_intros
 all_goals(intros;unfold Im;(try simp only[Zat,Zas,Qp,Zff,Zfg,Zav,Zfh,Zau,Znq,Zfi,Znu,Zfj,Zfk,Zfl,Zaw,Zfm,Qq,Zax,WX,Zfe,Zb.c_def,KC,Ua,Zcs,mpl,dfs,qs]);(try simp only[itb]);(try simp only[itf,gS,kk]))
 all_goals(repeat' first|refine exI λ_=>?_|refine anJ λ_ _=>?_|refine anI λ_=>?_|refine orE2 ?_ ?_|exact False.elim)
 all_goals(intro h;first|rw[Zl Zfc.eq_1]|refine ZR ZwD rfl ?_|refine ZR ZwE rfl ?_|rw[Zl Zcu.eq_1]|rw[Zl Zio.eq_1]|refine run Z5u rfl ?_|refine run Z5v rfl ?_|rw[Zl Zns.eq_1]|refine run Z5w rfl ?_|refine run Z5x rfl ?_|rw[Zl Zcx.eq_1]|rw[Zl Zir.eq_1]|refine run Z5y rfl ?_|refine run Z5z rfl ?_)
 all_goals (refine Yc ?_ h;clear h;simp +decide[*,kk,tI,tII,Znn,Zfd,Zno,Znp,Zcv,Ziq,Zip,ZuW,ZuX,Znt,ZuY,ZuZ,Zcy,Zit,Zis,Zva,Zvb])
abbrev Zya:=uq W1.1.1.1.1
abbrev Z7T:=uq W1.1.1.1.2
abbrev Zyb:=uq W1.1.1.2.1
abbrev Zyc:=uq W1.1.1.2.2
abbrev Zyd:=uq W1.1.2.1.1
abbrev Zye:=uq W1.1.2.1.2
abbrev Zyf:=uq W1.1.2.2.1
abbrev Z7U:=uq W1.1.2.2.2.1
abbrev Z7V:=uq W1.1.2.2.2.2
abbrev Zp2:=uq W1.2.1.1.1
abbrev Z7W:=uq W1.2.1.1.2
abbrev Z7X:=uq W1.2.1.2.1
abbrev Zyg:=uq W1.2.1.2.2
abbrev Zyh:=uq W1.2.2.1.1
abbrev Zyi:=uq W1.2.2.1.2
abbrev Zyj:=uq W1.2.2.2.1
abbrev Z7Y:=uq W1.2.2.2.2.1
abbrev Z7Z:=uq W1.2.2.2.2.2
theorem WK:((((∀db q cd fr cc x x1 x2 r,Im (VD db q cd fr cc x x1 x2=some r) (if x2<x1 then qG x x2 (λe1=>if e1.Kind=1 then(Zah db q e1.Zc=some (.tup [.agg [.t .nil,.t .nil],Bo false],[])/\some (.tup [.t .nil,.t .nil,Bo false],[])=some r)\/(∃(v1:WA),Zah db q e1.Zc=some (.tup [.agg [.own 0,.t .nil],Bo true],[.arr 3 1 true (v1.map ic)])/\cc.length+1<=68719476736/\VD db q cd fr (cc++[(⟨v1,[]⟩:Zb)]) x x1 (w (x2+1))=some r)\/(∃(v2:WA) (v3:XS),Zah db q e1.Zc=some (.tup [.agg [.own 0,.own 1],Bo true],[.arr 3 1 true (v2.map ic),.arr 42 1 true (v3.map isc)])/\cc.length+1<=68719476736/\VD db q cd fr (cc++[(⟨v2,v3⟩:Zb)]) x x1 (w (x2+1))=some r)else if e1.Kind=2 then qH cd x2 (λe5=>qG cc e5.Left (λe6=>(Zcr e6 e1.Order=some (.tup [.agg [.t .nil,.t .nil],Bo false],[])/\some (.tup [.t .nil,.t .nil,Bo false],[])=some r)\/(∃(v7:WA),∃v8,∃(v9:XS),Zcr e6 e1.Order=some (.tup [.agg [.own 0,.own 1],Bo true],[.arr 3 1 true (v7.map ic),.arr 42 1 v8 (v9.map isc)])/\cc.length+1<=68719476736/\VD db q cd (fr && v8) (cc++[(⟨v7,v9⟩:Zb)]) x x1 (w (x2+1))=some r)))else if e1.Kind=3 then qH cd x2 (λe9=>qG cc e9.Left (λe10=>qG cc e9.Right (λe11=>(Zau e10 e11=some (.tup [.agg [.t .nil,.t .nil],Bo false],[])/\some (.tup [.t .nil,.t .nil,Bo false],[])=some r)\/(∃(v10:WA),Zau e10 e11=some (.tup [.agg [.own 0,.t .nil],Bo true],[.arr 3 1 true (v10.map ic)])/\cc.length+1<=68719476736/\VD db q cd fr (cc++[(⟨v10,[]⟩:Zb)]) x x1 (w (x2+1))=some r)\/(∃(v11:WA) (v12:XS),Zau e10 e11=some (.tup [.agg [.own 0,.own 1],Bo true],[.arr 3 1 true (v11.map ic),.arr 42 1 true (v12.map isc)])/\cc.length+1<=68719476736/\VD db q cd fr (cc++[(⟨v11,v12⟩:Zb)]) x x1 (w (x2+1))=some r))))else if e1.Kind=4 then qH cd x2 (λe15=>qG cc e15.Left (λe16=>qG cc e15.Right (λe17=>(Zax e16 e17 e1.Order=some (.tup [.agg [.t .nil,.t .nil],Bo false],[])/\some (.tup [.t .nil,.t .nil,Bo false],[])=some r)\/(∃(v13:WA),Zax e16 e17 e1.Order=some (.tup [.agg [.own 0,.t .nil],Bo true],[.arr 3 1 true (v13.map ic)])/\cc.length+1<=68719476736/\VD db q cd fr (cc++[(⟨v13,[]⟩:Zb)]) x x1 (w (x2+1))=some r)\/(∃(v14:WA) (v15:XS),Zax e16 e17 e1.Order=some (.tup [.agg [.own 0,.own 1],Bo true],[.arr 3 1 true (v14.map ic),.arr 42 1 true (v15.map isc)])/\cc.length+1<=68719476736/\VD db q cd fr (cc++[(⟨v14,v15⟩:Zb)]) x x1 (w (x2+1))=some r))))else qH cd x2 (λe21=>qG cc e21.Left (λe22=>qG cc e21.Right (λe23=>(Qq e22 e23=some (.tup [.agg [.t .nil,.t .nil],Bo false],[])/\some (.tup [.t .nil,.t .nil,Bo false],[])=some r)\/(∃(v16:WA),Qq e22 e23=some (.tup [.agg [.own 0,.t .nil],Bo true],[.arr 3 1 true (v16.map ic)])/\cc.length+1<=68719476736/\VD db q cd fr (cc++[(⟨v16,[]⟩:Zb)]) x x1 (w (x2+1))=some r)\/(∃(v17:WA) (v18:XS),Qq e22 e23=some (.tup [.agg [.own 0,.own 1],Bo true],[.arr 3 1 true (v17.map ic),.arr 42 1 true (v18.map isc)])/\cc.length+1<=68719476736/\VD db q cd fr (cc++[(⟨v17,v18⟩:Zb)]) x x1 (w (x2+1))=some r)))))else some (.tup [.own 0,.own 1,Bo true],[.arr 113 4 true (cd.map Za.c),.arr 102 2 fr (cc.map Zb.c)])=some r))/\
 (∀a a1 a2 r,Im (Zay a a1 a2=some r) ((QM a1 a2=some (.tup [.t .nil,Bo false],[])/\some (.tup [.t .nil,.t .nil,Bo false],[])=some r)\/(∃(v:List Za),QM a1 a2=some (.tup [.own 0,Bo true],[.arr 113 4 true (v.map Za.c)])/\qB (Zcl a a1) (VD a a1 v true ([]:List Zb) a2.Steps (a2.Steps.length:Int) 0=some r) (some (.tup [.t .nil,.t .nil,Bo false],[])=some r)))))/\
 ((∀x r,Im (VE x=some r) (some (.bsl 1 5,[.box (x.c.map .t),.box [.ptr 0 0,.ptr 0 6,.ptr 0 12,.ptr 0 18,.ptr 0 24]])=some r))/\
 (∀x r,Im (Ziv x=some r) (some (.bsl 1 5,[.box (x.c.map .t),.box [.ptr 0 0,.ptr 0 1,.ptr 0 2,.ptr 0 3,.ptr 0 4]])=some r))))/\
 (((∀o x x1 x2 r,Im (KD o x x1 x2=some r) (if x2<x1 then qG x x2 (λe1=>qB (ZC e1.Add (-99) 99) (qB (ZC e1.From 1 8192) (if 0<x2 then 0<=(w (x2-1))/\∃e4,o.Steps[(w (x2-1)).toNat]?=some e4/\if e1.From<=e4.From then qb false r else KD o x x1 (w (x2+1))=some r else KD o x x1 (w (x2+1))=some r) (qb false r)) (qb false r))else qb (decide ((o.Steps.length:Int)<=4)) r))/\
 (∀a r,Im (XV a=some r) (Ziv a=some (.bsl 1 5,[.box (a.c.map .t),.box [.ptr 0 0,.ptr 0 1,.ptr 0 2,.ptr 0 3,.ptr 0 4]])/\VF a 5 0=some r)))/\
 ((∀cc a r,Im (Zcz cc a=some r) (if a<=7 then Za0 cc a 0=some r else some (.own 0,[.arr 42 1 true (cc.map isc)])=some r))/\
 (∀cc a b r,Im (Za0 cc a b=some r) (if b<=7 then Zc0 cc a b 0=some r else Zcz cc (w (a+1))=some r)))))/\
 ((((∀cc a b c r,Im (Zc0 cc a b c=some r) (if c<=7 then cc.length+1<=68719476736/\Zc0 (cc++[[a,b,c]]) a b (w (c+1))=some r else Za0 cc a (w (b+1))=some r))/\
 (∀r,Im (VG=some r) (Zcz ([]:XS) 0=some r)))/\
 ((∀a r,Im (UJ a=some r) (qB (ZC a 0 7) (if a=0 then qi 0 r else ¬(w (2*(w (a-1))))<0/\qi (shlI 1 (w (2*(w (a-1))))) r) (qi (-1) r)))/\
 (∀cn cl n x x1 x2 r,Im (Zc1 cn cl n x x1 x2=some r) (if x2<x1 then qG x x2 (λe1=>if e1.From<=(w (cn+cl))then Zc1 cn cl (w (n+e1.Add)) x x1 (w (x2+1))=some r else Zc1 cn cl n x x1 (w (x2+1))=some r)else qi n r))))/\
 (((∀a a1 a2 a3 r,Im (KE a a1 a2 a3=some r) (Zc1 a1 a2 (w ((w ((w ((w (a.Fixed+(w (a.Xb*a1))))+(w (a.Xc*a2))))+(w (a.Xd*a3))))+(w ((w (a.Xe*a1))*a2)))) a.Steps (a.Steps.length:Int) 0=some r))/\
 (∀a a1 r,Im (UK a a1=some r) (∃e1,a1[0]?=some e1/\qI (UJ e1) (λv=>∃e3,a1[1]?=some e3/\qI (UJ e3) (λv2=>∃e5,a1[2]?=some e5/\qI (UJ e5) (λv5=>qI (KE a v v2 v5) (λv6=>qi v6 r)))))))/\
 ((∀o x x1 x2 r,Im (KF o x x1 x2=some r) (if x2<x1 then qG x x2 (λe1=>Us o x e1 x1 x2 (e1.length:Int) 0=some r)else some (.tup [.t .nil,.t .nil,Bo false],[])=some r))/\
 ((∀o x t x1 x2 x3 x4 r,Im (Us o x t x1 x2 x3 x4=some r) (if x4<x3 then qG t x4 (λe1=>if e1=7 then Us o x t x1 x2 x3 (w (x4+1))=some r else qO 3 1 ic (VZ t) (λv=>qH v x4 (λe3=>qI (UK o (v.set x4.toNat (w (e3+1)))) (λv2=>qI (UK o t) (λv4=>if v2<v4 then some (.tup [L 1 (t.map ic),.own 0,Bo true],[.arr 3 1 true ((v.set x4.toNat (w (e3+1))).map ic)])=some r else Us o x t x1 x2 x3 (w (x4+1))=some r)))))else KF o x x1 (w (x2+1))=some r))/\
 (∀a r,Im (X5 a=some r) (qB (XV a) (qO 42 1 isc VG (λv=>KF a v (v.length:Int) 0=some r)) (some (.tup [.t .nil,.t .nil,Bo false],[])=some r))))))):=by
 and_intros
 all_goals(intros;unfold Im;(try simp only[VD,Zay,VE,Ziv,KD,XV,Zcz,Za0,Zc0,VG,UJ,Zc1,KE,UK,KF,Us,X5,Zah,Zcr,Zau,Zax,Qq,Zn.c_def,Ze.c_def,Zb.c_def,QM,Zcl,Zo.c_def,ZC,Zr.c_def,VZ,VF,mpl,dfs,qs]);(try simp only[itb]);(try simp only[itf,gS,kk]))
 all_goals(repeat' first|refine exI λ_=>?_|refine anJ λ_ _=>?_|refine anI λ_=>?_|refine orE2 ?_ ?_|exact False.elim)
 all_goals(intro h;first|rw[Zl Znv.eq_1]|refine run Z50 rfl ?_|refine ZR Z51 rfl ?_|refine ZR Z52 rfl ?_|rw[Zl Zny.eq_1]|refine run Z53 rfl ?_|rw[Zl Zfo.eq_1]|rw[Zl Ziw.eq_1]|rw[Zl Zn1.eq_1]|refine run Z54 rfl ?_|refine run Z55 rfl ?_|rw[Zl Zn3.eq_1]|refine run Z56 rfl ?_|refine run Z57 rfl ?_|rw[Zl Ziz.eq_1]|rw[Zl Zn5.eq_1]|refine run Z58 rfl ?_)
 all_goals (refine Yc ?_ h;clear h;simp +decide[*,kk,tI,tII,Zvc,Znw,Zvd,Zve,Zvf,Znz,Zvg,Zfp,Zix,Zn2,Zvh,Zvi,Zvj,Zn4,Zvk,Zvl,Zi0,Zvm,Zn6,Zvn])
abbrev Zjg:=uq WK.1.1.1.1
abbrev Zp3:=uq WK.1.1.1.2
abbrev Zyk:=uq WK.1.1.2.1
abbrev Z8a:=uq WK.1.1.2.2
abbrev Zyl:=uq WK.1.2.1.1
abbrev Z8b:=uq WK.1.2.1.2
abbrev Zym:=uq WK.1.2.2.1
abbrev Zyn:=uq WK.1.2.2.2
abbrev Zyo:=uq WK.2.1.1.1
abbrev Z8c:=uq WK.2.1.1.2
abbrev Z8d:=uq WK.2.1.2.1
abbrev Zyp:=uq WK.2.1.2.2
abbrev Z8e:=uq WK.2.2.1.1
abbrev Z8f:=uq WK.2.2.1.2
abbrev Zyq:=uq WK.2.2.2.1
abbrev Zp4:=uq WK.2.2.2.2.1
abbrev Z8g:=uq WK.2.2.2.2.2
theorem Zdd{o:Zr}{x x1:Int}{r:XR}(h:(if x1<x then(if x1=0 then(∃(v:Bool),ZC o.Fixed (-99) 99=some (Bo v,[])/\(if v=true then(VF o x (w (x1+1))=some r)else(some (Bo false,[])=some r)))else(if x1=1 then(∃(v1:Bool),ZC o.Xb (-99) 99=some (Bo v1,[])/\(if v1=true then(VF o x (w (x1+1))=some r)else(some (Bo false,[])=some r)))else(if x1=2 then(∃(v2:Bool),ZC o.Xc (-99) 99=some (Bo v2,[])/\(if v2=true then(VF o x (w (x1+1))=some r)else(some (Bo false,[])=some r)))else(if x1=3 then(∃(v3:Bool),ZC o.Xd (-99) 99=some (Bo v3,[])/\(if v3=true then(VF o x (w (x1+1))=some r)else(some (Bo false,[])=some r)))else(if x1=4 then(∃(v4:Bool),ZC o.Xe (-99) 99=some (Bo v4,[])/\(if v4=true then(VF o x (w (x1+1))=some r)else(some (Bo false,[])=some r)))else False)))))else(KD o o.Steps (o.Steps.length:Int) 0=some r))):VF o x x1=some r:=by
 unfold VF;rw[Zl Znx.eq_1];by_cases q1:x1<x
 .rw[Ya q1]at h;by_cases q2:x1=0
  .rw[Ya q2]at h;subst q2;obtain⟨v,q3,h⟩:=h;unfold ZC at q3
   try simp at q3
   by_cases q4:v=true
   .rw[Ya q4]at h;refine Yc ?_ h;clear h;simp +decide[*,tI,tII,VF]
   .rw[Yb q4]at h;refine Yc ?_ h;clear h;simp +decide[*,tI,tII]
  .rw[Yb q2]at h;replace q2:=eq_false q2;by_cases q5:x1=1
   .rw[Ya q5]at h;subst q5;obtain⟨v1,q6,h⟩:=h;unfold ZC at q6
    try simp at q6
    by_cases q7:v1=true
    .rw[Ya q7]at h;refine Yc ?_ h;clear h;simp +decide[*,tI,tII,VF]
    .rw[Yb q7]at h;refine Yc ?_ h;clear h;simp +decide[*,tI,tII]
   .rw[Yb q5]at h;replace q5:=eq_false q5;by_cases q8:x1=2
    .rw[Ya q8]at h;subst q8;obtain⟨v2,q9,h⟩:=h;unfold ZC at q9
     try simp at q9
     by_cases q10:v2=true
     .rw[Ya q10]at h;refine Yc ?_ h;clear h;simp +decide[*,tI,tII,VF]
     .rw[Yb q10]at h;refine Yc ?_ h;clear h;simp +decide[*,tI,tII]
    .rw[Yb q8]at h;replace q8:=eq_false q8;by_cases q11:x1=3
     .rw[Ya q11]at h;subst q11;obtain⟨v3,q12,h⟩:=h;unfold ZC at q12
      try simp at q12
      by_cases q13:v3=true
      .rw[Ya q13]at h;refine Yc ?_ h;clear h;simp +decide[*,tI,tII,VF]
      .rw[Yb q13]at h;refine Yc ?_ h;clear h;simp +decide[*,tI,tII]
     .rw[Yb q11]at h;replace q11:=eq_false q11;by_cases q14:x1=4
      .rw[Ya q14]at h;subst q14;obtain⟨v4,q15,h⟩:=h;unfold ZC at q15
       try simp at q15
       by_cases q16:v4=true
       .rw[Ya q16]at h;refine Yc ?_ h;clear h;simp +decide[*,tI,tII,VF]
       .rw[Yb q16]at h;refine Yc ?_ h;clear h;simp +decide[*,tI,tII]
      .rw[Yb q14]at h;replace q14:=eq_false q14;cases h
 .rw[Yb q1]at h;refine Yc ?_ h;clear h;simp +decide[*,tI,tII,KD,Zn0]
end Go.Proofs.YtgbipcfdgfjplaaGreat
