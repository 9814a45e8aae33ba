/-
  Parts of the proofs for this seat: G4 G5 G6.
-/
import Derived.Test.YtdbnflilbkjbhaaP9
set_option linter.unusedSectionVars false
set_option linter.unusedSimpArgs false
set_option linter.unusedVariables false
set_option maxRecDepth 100000
set_option maxHeartbeats 4000000
namespace Go.Proofs.Ytdbnflilbkjbhaa
open Go.AM
theorem Z89{a:Zj}{a1:Int}{r:AV×List Blk}(h:(if a1=1 then(some (.agg (a.Scan.c.map .t),[])=some r)else(if a1=2 then(some (.agg (a.Sort_.c.map .t),[])=some r)else(if a1=3 then(some (.agg (a.Hash.c.map .t),[])=some r)else(if a1=4 then(some (.agg (a.Merge.c.map .t),[])=some r)else(some (.agg (a.Nested.c.map .t),[])=some r)))))):Zfg a a1=some r:=by
 unfold Zfg;refine run Z6u rfl ?_
 try simp only[itb]at h
 try simp only[itf,gS,kk]at h
 rcases h with⟨q1,h⟩|⟨q1,(⟨q2,h⟩|⟨q2,(⟨q3,h⟩|⟨q3,(⟨q4,h⟩|⟨q4,h⟩)⟩)⟩)⟩
 all_goals (refine Ya ?_ h;clear h;simp +decide[*,kk,tI,tII,Zxj])
theorem Z9a{a a1 a2:Int}{r:AV×List Blk}(h:(if a1<=a then(some (Bo (decide (a<=a2)),[])=some r)else(some (Bo false,[])=some r))):Zw a a1 a2=some r:=by
 unfold Zw;refine run Zzz rfl ?_
 try simp only[itb]at h
 try simp only[itf,gS,kk]at h
 rcases h with⟨q1,h⟩|⟨q1,h⟩
 all_goals (refine Ya ?_ h;clear h;simp +decide[*,kk,tI,tII,Zqn])
theorem Z9b{a:Int}{r:AV×List Blk}(h:(∃(v:Bool),Zw a (-99) 99=some (Bo v,[])/\(some (Bo v,[])=some r))):Zec a=some r:=by
 unfold Zec;refine run Z6v rfl ?_;simp only[Zw,mpl,dfs]at h;rcases h with⟨v,q1,h⟩
 all_goals (refine Ya ?_ h;clear h;simp +decide[*,kk,tI,tII,Zxk])
theorem Z0h{o:Zc}{i:Int}{r:AV×List Blk}(h:(if i<(o.Steps.length:Int)then(0<=i/\(∃(e1:Zd),o.Steps[i.toNat]?=some e1/\(∃(v:Bool),Zw e1.From 1 8192=some (Bo v,[])/\(if v=true then(∃(v1:Bool),Zec e1.Add=some (Bo v1,[])/\(if v1=true then(if 0<i then(0<=(w (i-1))/\(∃(e4:Zd),o.Steps[(w (i-1)).toNat]?=some e4/\(if e1.From<=e4.From then(some (Bo false,[])=some r)else(Zfh o (w (i+1))=some r))))else(Zfh o (w (i+1))=some r))else(some (Bo false,[])=some r)))else(some (Bo false,[])=some r)))))else(some (Bo true,[])=some r))):Zfh o i=some r:=by
 unfold Zfh;rw[Zm Zqo.eq_1];simp only[Zw,Zec,mpl,dfs]at h
 try simp only[itb]at h
 try simp only[itf,gS,kk]at h
 rcases h with⟨q1,q2,e1,⟨g3,q3⟩,v,q4,(⟨q5,v1,q6,(⟨q7,(⟨q8,q9,e4,⟨g10,q10⟩,(⟨q11,h⟩|⟨q11,h⟩)⟩|⟨q8,h⟩)⟩|⟨q7,h⟩)⟩|⟨q5,h⟩)⟩|⟨q1,h⟩
 all_goals (refine Ya ?_ h;clear h;simp +decide[*,kk,tI,tII,Zfh,Zqp])
theorem Z9c{a:Zc}{r:AV×List Blk}(h:(∃(v:Bool),Zec a.Fixed=some (Bo v,[])/\(if v=true then(∃(v1:Bool),Zec a.Z9=some (Bo v1,[])/\(if v1=true then(∃(v2:Bool),Zec a.Zba=some (Bo v2,[])/\(if v2=true then(∃(v3:Bool),Zec a.Zbb=some (Bo v3,[])/\(if v3=true then(∃(v4:Bool),Zec a.Zbc=some (Bo v4,[])/\(if v4=true then(if 4<(a.Steps.length:Int)then(some (Bo false,[])=some r)else(Zfh a 0=some r))else(some (Bo false,[])=some r)))else(some (Bo false,[])=some r)))else(some (Bo false,[])=some r)))else(some (Bo false,[])=some r)))else(some (Bo false,[])=some r)))):Zew a=some r:=by
 unfold Zew;refine run Z6w rfl ?_;simp only[Zec,mpl,dfs]at h
 try simp only[itb]at h
 try simp only[itf,gS,kk]at h
 rcases h with⟨v,q1,(⟨q2,v1,q3,(⟨q4,v2,q5,(⟨q6,v3,q7,(⟨q8,v4,q9,(⟨q10,(⟨q11,h⟩|⟨q11,h⟩)⟩|⟨q10,h⟩)⟩|⟨q8,h⟩)⟩|⟨q6,h⟩)⟩|⟨q4,h⟩)⟩|⟨q2,h⟩)⟩
 all_goals (refine Ya ?_ h;clear h;simp +decide[*,kk,tI,tII,Zxl,Zfh])
theorem Z9d{k n i:Int}{r:AV×List Blk}(h:(if i<k then(Zgh k (if 1<(w (n*4))then(w (n*4))else 1) (w (i+1))=some r)else(some (I n,[])=some r))):Zgh k n i=some r:=by
 unfold Zgh;rw[Zm Zqq.eq_1]
 try simp only[itb]at h
 try simp only[itf,gS,kk]at h
 rcases h with⟨q1,h⟩|⟨q1,h⟩
 all_goals (refine Ya ?_ h;clear h;simp +decide[*,kk,tI,tII,Zgh,Zqr])
theorem Z9e{a:Int}{r:AV×List Blk}(h:(∃(v:Bool),Zw a 0 7=some (Bo v,[])/\(if v=true then(Zgh a 0 0=some r)else(some (I (-1),[])=some r)))):Zed a=some r:=by
 unfold Zed;refine run Z6x rfl ?_;simp only[Zw,mpl,dfs]at h
 try simp only[itb]at h
 try simp only[itf,gS,kk]at h
 rcases h with⟨v,q1,(⟨q2,h⟩|⟨q2,h⟩)⟩
 all_goals (refine Ya ?_ h;clear h;simp +decide[*,kk,tI,tII,Zxm,Zgh])
theorem Z0i{o:Zc}{l c n i:Int}{r:AV×List Blk}(h:(if i<(o.Steps.length:Int)then(0<=i/\(∃(e1:Zd),o.Steps[i.toNat]?=some e1/\(if e1.From<=(w (l+c))then(Zfi o l c (w (n+e1.Add)) (w (i+1))=some r)else(Zfi o l c n (w (i+1))=some r))))else(some (I n,[])=some r))):Zfi o l c n i=some r:=by
 unfold Zfi;rw[Zm Zqs.eq_1]
 try simp only[itb]at h
 try simp only[itf,gS,kk]at h
 rcases h with⟨q1,q2,e1,⟨g3,q3⟩,(⟨q4,h⟩|⟨q4,h⟩)⟩|⟨q1,h⟩
 all_goals (refine Ya ?_ h;clear h;simp +decide[*,kk,tI,tII,Zfi,Zxn,Zqt])
theorem Z9f{a:Zc}{a1 a2 a3:Int}{r:AV×List Blk}(h:(∃(v:Bool),Zew a=some (Bo v,[])/\(if v=true then(∃(v1:Bool),Zw a1 0 4096=some (Bo v1,[])/\(if v1=true then(∃(v2:Bool),Zw a2 0 4096=some (Bo v2,[])/\(if v2=true then(∃(v3:Bool),Zw a3 0 4096=some (Bo v3,[])/\(if v3=true then(Zfi a a1 a2 (w ((w ((w ((w (a.Fixed+(w (a.Z9*a1))))+(w (a.Zba*a2))))+(w (a.Zbb*a3))))+(w ((w (a.Zbc*a1))*a2)))) 0=some r)else(some (I 0,[])=some r)))else(some (I 0,[])=some r)))else(some (I 0,[])=some r)))else(some (I 0,[])=some r)))):Zee a a1 a2 a3=some r:=by
 unfold Zee;refine run Z6y rfl ?_;simp only[Zew,Zw,Zc.c_def,mpl,dfs]at h
 try simp only[itb]at h
 try simp only[itf,gS,kk]at h
 rcases h with⟨v,q1,(⟨q2,v1,q3,(⟨q4,v2,q5,(⟨q6,v3,q7,(⟨q8,h⟩|⟨q8,h⟩)⟩|⟨q6,h⟩)⟩|⟨q4,h⟩)⟩|⟨q2,h⟩)⟩
 all_goals (refine Ya ?_ h;clear h;simp +decide[*,kk,tI,tII,Zxo,Zfi])
theorem Z9g{a:Zc}{a1:List Int}{r:AV×List Blk}(h:(∃(e1:Int),a1[0]?=some e1/\(∃(v:Int),Zed e1=some (I v,[])/\(∃(e3:Int),a1[1]?=some e3/\(∃(v1:Int),Zed e3=some (I v1,[])/\(∃(e5:Int),a1[2]?=some e5/\(∃(v2:Int),Zed e5=some (I v2,[])/\(∃(v3:Int),Zee a v v1 v2=some (I v3,[])/\(some (I v3,[])=some r))))))))):Zgi a a1=some r:=by
 unfold Zgi;refine run Z6z rfl ?_;simp only[Zed,Zee,Zc.c_def,mpl,dfs]at h
 try simp only[itb]at h
 try simp only[itf,gS,kk]at h
 rcases h with⟨e1,⟨g1,q1⟩,v,q2,e3,⟨g3,q3⟩,v1,q4,e5,⟨g5,q5⟩,v2,q6,v3,q7,h⟩
 all_goals (refine Ya ?_ h;clear h;simp +decide[*,kk,tI,tII,Zxp])
theorem Z0j{o:Zc}{a:Int}{r:AV×List Blk}(h:(if a<=7 then(Zgk o a 0=some r)else(some (.tup [.own 0,.own 1,Bo false],[.arr 3 1 true (([]:List Int).map ic),.arr 3 1 true (([]:List Int).map ic)])=some r))):Zgj o a=some r:=by
 unfold Zgj;rw[Zm Zji.eq_1]
 try simp only[itb]at h
 try simp only[itf,gS,kk]at h
 rcases h with⟨q1,h⟩|⟨q1,h⟩
 all_goals (refine Ya ?_ h;clear h;simp +decide[*,kk,tI,tII,Zgk,Zjj])
theorem Z0k{o:Zc}{a b:Int}{r:AV×List Blk}(h:(if b<=7 then(Zgl o a b 0=some r)else(Zgj o (w (a+1))=some r))):Zgk o a b=some r:=by
 unfold Zgk;rw[Zm Zk9.eq_1]
 try simp only[itb]at h
 try simp only[itf,gS,kk]at h
 rcases h with⟨q1,h⟩|⟨q1,h⟩
 all_goals (refine Ya ?_ h;clear h;simp +decide[*,kk,tI,tII,Zgl,Zgj,Zla])
theorem Z0l{o:Zc}{a b e:Int}{r:AV×List Blk}(h:(if e<=7 then(Zef o ([a,b,e]) a b e 0=some r)else(Zgk o a (w (b+1))=some r))):Zgl o a b e=some r:=by
 unfold Zgl;rw[Zm Zn6.eq_1]
 try simp only[itb]at h
 try simp only[itf,gS,kk]at h
 rcases h with⟨q1,h⟩|⟨q1,h⟩
 all_goals (refine Ya ?_ h;clear h;simp +decide[*,kk,tI,tII,Zef,Zgk,Zn7])
theorem Z0m{o:Zc}{x:List Int}{a b e k:Int}{r:AV×List Blk}(h:(if k<3 then(x.length<=68719476736/\(0<=k/\(∃(e1:Int),x[k.toNat]?=some e1/\(if(w (e1+1))<=7 then(∃(v:Int),Zgi o (x.set k.toNat (w (e1+1)))=some (I v,[])/\(∃(v1:Int),Zgi o x=some (I v1,[])/\(if v<v1 then(some (.tup [.own 0,.own 1,Bo true],[.arr 3 1 true (x.map ic),.arr 3 1 true ((x.set k.toNat (w (e1+1))).map ic)])=some r)else(Zef o x a b e (w (k+1))=some r))))else(Zef o x a b e (w (k+1))=some r)))))else(Zgl o a b (w (e+1))=some r))):Zef o x a b e k=some r:=by
 unfold Zef;rw[Zm Zqu.eq_1];simp only[Zgi,Zc.c_def,mpl,dfs]at h
 try simp only[itb]at h
 try simp only[itf,gS,kk]at h
 rcases h with⟨q1,q2,q3,e1,⟨g4,q4⟩,(⟨q5,v,q6,v1,q7,(⟨q8,h⟩|⟨q8,h⟩)⟩|⟨q5,h⟩)⟩|⟨q1,h⟩
 all_goals (refine Ya ?_ h;clear h;simp +decide[*,kk,tI,tII,Zef,Zgl,Zqv])
theorem Z9h{a:Zc}{r:AV×List Blk}(h:(∃(v:Bool),Zew a=some (Bo v,[])/\(if v=true then(Zgj a 0=some r)else(some (.tup [.own 0,.own 1,Bo false],[.arr 3 1 true (([]:List Int).map ic),.arr 3 1 true (([]:List Int).map ic)])=some r)))):Zlb a=some r:=by
 unfold Zlb;refine run Z60 rfl ?_;simp only[Zew,Zc.c_def,mpl,dfs]at h
 try simp only[itb]at h
 try simp only[itf,gS,kk]at h
 rcases h with⟨v,q1,(⟨q2,h⟩|⟨q2,h⟩)⟩
 all_goals (refine Ya ?_ h;clear h;simp +decide[*,kk,tI,tII,Zxq,Zgj])
theorem Z0n{o:Zc}{a:Int}{r:AV×List Blk}(h:(if a<=7 then(Zgn o a 0=some r)else(some (.own 0,[.arr 3 1 true (([]:List Int).map ic)])=some r))):Zgm o a=some r:=by
 unfold Zgm;rw[Zm Zlc.eq_1]
 try simp only[itb]at h
 try simp only[itf,gS,kk]at h
 rcases h with⟨q1,h⟩|⟨q1,h⟩
 all_goals (refine Ya ?_ h;clear h;simp +decide[*,kk,tI,tII,Zgn,Zld])
theorem Z0o{o:Zc}{a b:Int}{r:AV×List Blk}(h:(if b<=7 then(Zh2 o a b 0=some r)else(Zgm o (w (a+1))=some r))):Zgn o a b=some r:=by
 unfold Zgn;rw[Zm Zn8.eq_1]
 try simp only[itb]at h
 try simp only[itf,gS,kk]at h
 rcases h with⟨q1,h⟩|⟨q1,h⟩
 all_goals (refine Ya ?_ h;clear h;simp +decide[*,kk,tI,tII,Zh2,Zgm,Zn9])
theorem Zsq{o:Zc}{a b e:Int}{r:AV×List Blk}(h:(if e<=7 then(∃(v:Int),Zgi o ([a,b,e])=some (I v,[])/\(if v<1 then(some (.own 0,[.arr 3 1 true (([a,b,e]).map ic)])=some r)else(Zh2 o a b (w (e+1))=some r)))else(Zgn o a (w (b+1))=some r))):Zh2 o a b e=some r:=by
 unfold Zh2;rw[Zm Zqw.eq_1];simp only[Zgi,Zc.c_def,mpl,dfs]at h
 try simp only[itb]at h
 try simp only[itf,gS,kk]at h
 rcases h with⟨q1,v,q2,(⟨q3,h⟩|⟨q3,h⟩)⟩|⟨q1,h⟩
 all_goals (refine Ya ?_ h;clear h;simp +decide[*,kk,tI,tII,Zh2,Zgn,Zqx])
theorem Z9i{a:Zc}{r:AV×List Blk}(h:(Zgm a 0=some r)):Zle a=some r:=by
 unfold Zle;refine run Z61 rfl ?_;refine Ya ?_ h;clear h;simp +decide[*,kk,tI,tII,Zxr,Zgm]
theorem Z0p{m:Zj}{k:Int}{r:AV×List Blk}(h:(if k<=5 then(∃(v:Zc),Zfg m k=some (.agg (v.c.map .t),[])/\(∃(v1:Bool),Zew v=some (Bo v1,[])/\(if v1=true then(∃(v2:List Int) (v3:List Int) (v4:Bool),Zlb v=some (.tup [.own 0,.own 1,Bo v4],[.arr 3 1 true (v2.map ic),.arr 3 1 true (v3.map ic)])/\(if v4=true then(some (.tup [I k,.own 0,.own 1],[.arr 3 1 true (v2.map ic),.arr 3 1 true (v3.map ic)])=some r)else(∃(v5:List Int),Zle v=some (.own 0,[.arr 3 1 true (v5.map ic)])/\(if 0<(v5.length:Int)then(some (.tup [I k,.own 0,.own 1],[.arr 3 1 true (v5.map ic),.arr 3 1 true (([]:List Int).map ic)])=some r)else(Zgo m (w (k+1))=some r)))))else(some (.tup [I k,.own 0,.own 1],[.arr 3 1 true (([]:List Int).map ic),.arr 3 1 true (([]:List Int).map ic)])=some r))))else(some (.tup [I 0,.own 0,.own 1],[.arr 3 1 true (([]:List Int).map ic),.arr 3 1 true (([]:List Int).map ic)])=some r))):Zgo m k=some r:=by
 unfold Zgo;rw[Zm Zqy.eq_1];simp only[Zfg,Zew,Zlb,Zle,Zj.c_def,Zc.c_def,mpl,dfs]at h
 try simp only[itb]at h
 try simp only[itf,gS,kk]at h
 rcases h with⟨q1,v,q2,v1,q3,(⟨q4,v2,v3,v4,q5,(⟨q6,h⟩|⟨q6,v5,q7,(⟨q8,h⟩|⟨q8,h⟩)⟩)⟩|⟨q4,h⟩)⟩|⟨q1,h⟩
 all_goals (refine Ya ?_ h;clear h;simp +decide[*,kk,tI,tII,Zgo,Zqz])
theorem Z9j{a:Zj}{r:AV×List Blk}(h:(Zgo a 1=some r)):Zoa a=some r:=by
 unfold Zoa;refine run Z62 rfl ?_;refine Ya ?_ h;clear h;simp +decide[*,kk,tI,tII,Zxs,Zgo]
theorem Z9k{a:Zj}{r:AV×List Blk}(h:(∃(v:List Int) (v1:List Int) (v2:Int),Zoa a=some (.tup [I v2,.own 0,.own 1],[.arr 3 1 true (v.map ic),.arr 3 1 true (v1.map ic)])/\(some (Bo (decide (v2=0)),[])=some r))):Zlf a=some r:=by
 unfold Zlf;refine run Z63 rfl ?_;simp only[Zoa,Zj.c_def,Zc.c_def,mpl,dfs]at h;rcases h with⟨v,v1,v2,q1,h⟩
 all_goals (refine Ya ?_ h;clear h;simp +decide[*,kk,tI,tII,Zxt])
theorem Zha{n k:Int}{r:AV×List Blk}(h:(if k<=7 then(∃(v:Int),Zed k=some (I v,[])/\(if n<=v then(some (I k,[])=some r)else(Zh3 n (w (k+1))=some r)))else(some (I (-1),[])=some r))):Zh3 n k=some r:=by
 unfold Zh3;rw[Zm Zq0.eq_1];simp only[Zed,mpl,dfs]at h
 try simp only[itb]at h
 try simp only[itf,gS,kk]at h
 rcases h with⟨q1,v,q2,(⟨q3,h⟩|⟨q3,h⟩)⟩|⟨q1,h⟩
 all_goals (refine Ya ?_ h;clear h;simp +decide[*,kk,tI,tII,Zh3,Zq1])
theorem Z9l{a:Int}{r:AV×List Blk}(h:(if a<0 then(some (I (-1),[])=some r)else(Zh3 a 0=some r))):Zlg a=some r:=by
 unfold Zlg;refine run Z64 rfl ?_
 try simp only[itb]at h
 try simp only[itf,gS,kk]at h
 rcases h with⟨q1,h⟩|⟨q1,h⟩
 all_goals (refine Ya ?_ h;clear h;simp +decide[*,kk,tI,tII,Zxu,Zh3])
theorem Z9m{a:Int}{r:AV×List Blk}(h:(∃(v:Int),Zlg a=some (I v,[])/\(∃(v1:Int),Zed v=some (I v1,[])/\(some (I v1,[])=some r)))):Zeg a=some r:=by
 unfold Zeg;refine run Z65 rfl ?_;simp only[Zlg,Zed,mpl,dfs]at h;rcases h with⟨v,q1,v1,q2,h⟩
 all_goals (refine Ya ?_ h;clear h;simp +decide[*,kk,tI,tII,Zxv])
theorem Z9n{a:Zj}{a1:Int}{r:AV×List Blk}(h:(∃(v:Bool),Zw a1 0 4096=some (Bo v,[])/\(if v=true then(∃(v1:Int),Zeg a1=some (I v1,[])/\(∃(v2:Int),Zee a.Scan v1 0 v1=some (I v2,[])/\(some (I v2,[])=some r)))else(some (I (-1),[])=some r)))):Zh4 a a1=some r:=by
 unfold Zh4;refine run Z66 rfl ?_;simp only[Zw,Zeg,Zee,Zc.c_def,mpl,dfs]at h
 try simp only[itb]at h
 try simp only[itf,gS,kk]at h
 rcases h with⟨v,q1,(⟨q2,v1,q3,v2,q4,h⟩|⟨q2,h⟩)⟩
 all_goals (refine Ya ?_ h;clear h;simp +decide[*,kk,tI,tII,Zxw])
theorem Z9o{a:Zj}{a1 a2:Int}{r:AV×List Blk}(h:(∃(v:Bool),Zlf a=some (Bo v,[])/\(if v=true then(∃(v1:Bool),Zw a1 3 5=some (Bo v1,[])/\(if v1=true then(∃(v2:Bool),Zw a2 0 4096=some (Bo v2,[])/\(if v2=true then(∃(v3:Int),Zh4 a a2=some (I v3,[])/\(∃(v4:Zc),Zfg a a1=some (.agg (v4.c.map .t),[])/\(∃(v5:Int),Zeg a2=some (I v5,[])/\(∃(v6:Int),Zee v4 0 0 v5=some (I v6,[])/\(some (Bo (decide (v3<=v6)),[])=some r)))))else(some (Bo false,[])=some r)))else(some (Bo false,[])=some r)))else(some (Bo false,[])=some r)))):Zlh a a1 a2=some r:=by
 unfold Zlh;refine run Z67 rfl ?_;simp only[Zlf,Zw,Zh4,Zfg,Zeg,Zee,Zj.c_def,Zc.c_def,mpl,dfs]at h
 try simp only[itb]at h
 try simp only[itf,gS,kk]at h
 rcases h with⟨v,q1,(⟨q2,v1,q3,(⟨q4,v2,q5,(⟨q6,v3,q7,v4,q8,v5,q9,v6,q10,h⟩|⟨q6,h⟩)⟩|⟨q4,h⟩)⟩|⟨q2,h⟩)⟩
 all_goals (refine Ya ?_ h;clear h;simp +decide[*,kk,tI,tII,Zxx])
theorem Z9p{a:Zc}{r:AV×List Blk}(h:(a.Steps.length<=68719476736/\(some (.agg [I a.Fixed,I a.Z9,I a.Zba,I a.Zbb,I a.Zbc,.own 0],[.arr 60 2 true (a.Steps.map Zd.c)])=some r))):Zob a=some r:=by
 unfold Zob;refine run Z68 rfl ?_;rcases h with⟨q1,h⟩
 all_goals (refine Ya ?_ h;clear h;simp +decide[*,kk,tI,tII,Zxy])
theorem Z9q{a:Zj}{a1:Int}{r:AV×List Blk}(h:(∃(v:Bool),Zw a1 1 5=some (Bo v,[])/\(if v=true then(∃(v1:Zc),Zfg a a1=some (.agg (v1.c.map .t),[])/\(∃(v2:List Zd) (v3:Int) (v4:Int) (v5:Int) (v6:Int) (v7:Int),Zob v1=some (.agg [I v3,I v4,I v5,I v6,I v7,.own 0],[.arr 60 2 true (v2.map Zd.c)])/\(some (.tup [.agg [I v3,I v4,I v5,I v6,I v7,.own 0],Bo true],[.arr 60 2 true (v2.map Zd.c)])=some r)))else(some (.tup [.agg [I 0,I 0,I 0,I 0,I 0,.t .nil],Bo false],[])=some r)))):Zli a a1=some r:=by
 unfold Zli;refine run Z69 rfl ?_;simp only[Zw,Zfg,Zob,Zj.c_def,Zc.c_def,mpl,dfs]at h
 try simp only[itb]at h
 try simp only[itf,gS,kk]at h
 rcases h with⟨v,q1,(⟨q2,v1,q3,v2,v3,v4,v5,v6,v7,q4,h⟩|⟨q2,h⟩)⟩
 all_goals (refine Ya ?_ h;clear h;simp +decide[*,kk,tI,tII,Zxz])
theorem Z0q{a:List Int}{a1:Int}{r:AV×List Blk}(h:(if a1<(a.length:Int)then(0<=a1/\(∃(e1:Int),a[a1.toNat]?=some e1/\(some (I (w e1),[])=some r)))else(some (I (Int.tmod (w ((w (a1*37))+(w ((a.length:Int)*11)))) 256),[])=some r))):Zjk a a1=some r:=by
 unfold Zjk;refine run Z7a rfl ?_
 try simp only[itb]at h
 try simp only[itf,gS,kk]at h
 rcases h with⟨q1,q2,e1,⟨g3,q3⟩,h⟩|⟨q1,h⟩
 all_goals (refine Ya ?_ h;clear h;simp +decide[*,kk,tI,tII,Zx0])
theorem strL(a b:ByteArray)(l:List UInt8)(h:b.data.toList=l):(a.toList=l)↔a=b:=by
 rw[<-Zv4,ByteArray.toList_eq b,h]
theorem Z9r{c:List (List Int)}{cc:List Int}{cd:Bool}{i:Int}{r:AV×List Blk}(h:(if i<0 then False else(if cd=true then(some (.own 0,[.arr 49 1 true (c.map isc)])=some r)else(cc.length<=68719476736/\(c.length+1<=68719476736/\(some (.own 0,[.arr 49 1 true ((c++[cc]).map isc)])=some r)))))):Zoc c cc cd i=some r:=by
 unfold Zoc;rw[Zm Zlj.eq_1]
 try simp only[itb]at h
 try simp only[itf,gS,kk]at h
 rcases h with⟨q1,⟨⟩⟩|⟨q1,(⟨q2,h⟩|⟨q2,q3,q4,h⟩)⟩
 all_goals (refine Ya ?_ h;clear h;simp +decide[*,kk,tI,tII,Zq2,Zlk])
theorem Z9s{a:List Int}{r:AV×List Blk}(h:(Zoc ([]:List (List Int)) a false 0=some r)):Zll a=some r:=by
 unfold Zll;refine run Zz0 rfl ?_;refine Ya ?_ h;clear h;simp +decide[*,kk,tI,tII,Zq3,Zoc]
theorem Z0r{a b:List Int}{i:Int}{r:AV×List Blk}(h:(if i<(a.length:Int)then(if i<(b.length:Int)then(0<=i/\(∃(e1:Int),a[i.toNat]?=some e1/\(∃(e2:Int),b[i.toNat]?=some e2/\(if e1<e2 then(some (I (-1),[])=some r)else(if e2<e1 then(some (I 1,[])=some r)else(Zh6 a b (w (i+1))=some r))))))else(Zjl a b i false=some r))else(Zjl a b i false=some r))):Zh6 a b i=some r:=by
 unfold Zh6;rw[Zm Zq4.eq_1]
 try simp only[itb]at h
 try simp only[itf,gS,kk]at h
 rcases h with⟨q1,(⟨q2,q3,e1,⟨g4,q4⟩,e2,⟨g5,q5⟩,(⟨q6,h⟩|⟨q6,(⟨q7,h⟩|⟨q7,h⟩)⟩)⟩|⟨q2,h⟩)⟩|⟨q1,h⟩
 all_goals (refine Ya ?_ h;clear h;simp +decide[*,kk,tI,tII,Zh6,Zjl])
theorem Z9t{a b:List Int}{i:Int}{x:Bool}{r:AV×List Blk}(h:(if(a.length:Int)<(b.length:Int)then(some (I (-1),[])=some r)else(if(b.length:Int)<(a.length:Int)then(some (I 1,[])=some r)else(some (I 0,[])=some r)))):Zjl a b i x=some r:=by
 unfold Zjl;rw[Ev_eq Zod.eq_1]
 try simp only[itb]at h
 try simp only[itf,gS,kk]at h
 rcases h with⟨q1,h⟩|⟨q1,(⟨q2,h⟩|⟨q2,h⟩)⟩
 all_goals (refine Ya ?_ h;clear h;simp +decide[*,kk,tI,tII])
theorem Z9u{a a1:List Int}{r:AV×List Blk}(h:(Zh6 a a1 0=some r)):Zh5 a a1=some r:=by
 unfold Zh5;refine run Z7b rfl ?_;refine Ya ?_ h;clear h;simp +decide[*,kk,tI,tII,Zx3,Zh6]
theorem Zsr(c cd:List (List Int))(cc:List Int)(cl:Bool)(i:Int)(r:AV×List Blk)(h:(if i<(cd.length:Int)then(0<=i/\(∃(e1:List Int),cd[i.toNat]?=some e1/\(∃(v:Int),Zh5 e1 cc=some (I v,[])/\(if v=0 then(if 0<v then(e1.length<=68719476736/\(c.length+1<=68719476736/\(Zb8 (c++[e1]) cd cc true (w (i+1))=some r)))else(e1.length<=68719476736/\(c.length+1<=68719476736/\(Zb8 (c++[e1]) cd cc true (w (i+1))=some r))))else(if 0<v then(if cl=true then(e1.length<=68719476736/\(c.length+1<=68719476736/\(Zb8 (c++[e1]) cd cc true (w (i+1))=some r)))else(cc.length<=68719476736/\(c.length+1<=68719476736/\(e1.length<=68719476736/\(c.length+1+1<=68719476736/\(Zb8 ((c++[cc])++[e1]) cd cc true (w (i+1))=some r))))))else(e1.length<=68719476736/\(c.length+1<=68719476736/\(Zb8 (c++[e1]) cd cc cl (w (i+1))=some r))))))))else(if cl=true then(some (.own 0,[.arr 49 1 true (c.map isc)])=some r)else(cc.length<=68719476736/\(c.length+1<=68719476736/\(some (.own 0,[.arr 49 1 true ((c++[cc]).map isc)])=some r)))))):Zb8 c cd cc cl i=some r:=by
 unfold Zb8;rw[Zm Zlj.eq_1];simp only[Zh5,mpl,dfs]at h
 try simp only[itb]at h
 try simp only[itf,gS,kk]at h
 rcases h with⟨q1,q2,e1,⟨g3,q3⟩,v,q4,(⟨q5,(⟨q6,q7,q8,h⟩|⟨q6,q9,q10,h⟩)⟩|⟨q5,(⟨q11,(⟨q12,q13,q14,h⟩|⟨q12,q15,q16,q17,q18,h⟩)⟩|⟨q11,q19,q20,h⟩)⟩)⟩|⟨q1,(⟨q21,h⟩|⟨q21,q22,q23,h⟩)⟩
 all_goals (refine Ya ?_ h;clear h;simp +decide[*,kk,tI,tII,Zb8,Zx1,Zx2,Zq2,Zlk])
theorem Z9v{a:List (List Int)}{a1:List Int}{r:AV×List Blk}(h:(Zb8 ([]:List (List Int)) a a1 false 0=some r)):Zlm a a1=some r:=by
 unfold Zlm;refine run Zz0 rfl ?_;refine Ya ?_ h;clear h;simp +decide[*,kk,tI,tII,Zq3,Zb8]
theorem Z0s{c:Za}{co:ByteArray}{cl:Int}{cd:ByteArray}{cc cn cp n:Int}{r:AV×List Blk}(h:(if 0<n then(Zh9 c co cl cd cc ([]:List Int) cn cp n 0=some r)else(some (.agg [.t (.str cd),I cc,.own 1],[.box (c.c.map .t),.arr 49 1 true (([]:List (List Int)).map isc)])=some r))):Zoe c co cl cd cc cn cp n=some r:=by
 unfold Zoe;rw[Zm Zh7.eq_1]
 try simp only[itb]at h
 try simp only[itf,gS,kk]at h
 rcases h with⟨q1,h⟩|⟨q1,h⟩
 all_goals (refine Ya ?_ h;clear h;simp +decide[*,kk,tI,tII,Zh9,Zh8])
theorem Z0t{c:Za}{co:ByteArray}{cl:Int}{cn:ByteArray}{cd:Int}{cp:List Int}{cc cu n i:Int}{r:AV×List Blk}(h:(if i<cc then(∃(v:Za) (v1:Int),Zq c cu=some (I v1,[.box (v.c.map .t)])/\(cp.length+1<=68719476736/\(Zh9 v co cl cn cd (cp++[v1]) cc cu n (w (i+1))=some r)))else(∃(v2:List (List Int)),Zll cp=some (.own 0,[.arr 49 1 true (v2.map isc)])/\(Zgp c co cl cn cd v2 cc cu (w (n-1))=some r)))):Zh9 c co cl cn cd cp cc cu n i=some r:=by
 unfold Zh9;rw[Zm Zln.eq_1];simp only[Zq,Zll,Za.c_def,mpl,dfs]at h
 try simp only[itb]at h
 try simp only[itf,gS,kk]at h
 rcases h with⟨q1,v,v1,q2,q3,h⟩|⟨q1,v2,q4,h⟩
 all_goals (refine Ya ?_ h;clear h;simp +decide[*,kk,tI,tII,Zh9,Zgp,Zlp,Zlo])
theorem Z0u{c:Za}{co:ByteArray}{cl:Int}{cd:ByteArray}{cc:Int}{x:List (List Int)}{cn cp n:Int}{r:AV×List Blk}(h:(if 0<n then(Zia c co cl cd cc x ([]:List Int) cn cp n 0=some r)else(some (.agg [.t (.str cd),I cc,.own 1],[.box (c.c.map .t),.arr 49 1 true (x.map isc)])=some r))):Zgp c co cl cd cc x cn cp n=some r:=by
 unfold Zgp;rw[Zm Zh7.eq_1]
 try simp only[itb]at h
 try simp only[itf,gS,kk]at h
 rcases h with⟨q1,h⟩|⟨q1,h⟩
 all_goals (refine Ya ?_ h;clear h;simp +decide[*,kk,tI,tII,Zia,Zh8])
theorem Z0v{c:Za}{co:ByteArray}{cl:Int}{cn:ByteArray}{cd:Int}{x:List (List Int)}{cp:List Int}{cc cu n i:Int}{r:AV×List Blk}(h:(if i<cc then(∃(v:Za) (v1:Int),Zq c cu=some (I v1,[.box (v.c.map .t)])/\(cp.length+1<=68719476736/\(Zia v co cl cn cd x (cp++[v1]) cc cu n (w (i+1))=some r)))else(∃(v2:List (List Int)),Zlm x cp=some (.own 0,[.arr 49 1 true (v2.map isc)])/\(Zgp c co cl cn cd v2 cc cu (w (n-1))=some r)))):Zia c co cl cn cd x cp cc cu n i=some r:=by
 unfold Zia;rw[Zm Zln.eq_1];simp only[Zq,Zlm,Za.c_def,mpl,dfs]at h
 try simp only[itb]at h
 try simp only[itf,gS,kk]at h
 rcases h with⟨q1,v,v1,q2,q3,h⟩|⟨q1,v2,q4,h⟩
 all_goals (refine Ya ?_ h;clear h;simp +decide[*,kk,tI,tII,Zia,Zgp,Zlp,Zlo])
theorem Z0w{x:Za}{a:ByteArray}{a1 a2 a3:Int}{r:AV×List Blk}(h:(∃(v:Za) (v1:Int),Zq x (w (a2+1))=some (I v1,[.box (v.c.map .t)])/\(Zoe v (⟨#[]⟩:ByteArray) 0 a a1 a1 a3 v1=some r))):Zcy x a a1 a2 a3=some r:=by
 unfold Zcy;refine runM Z7c rfl ?_;simp only[Zq,Za.c_def,mpl,dfs]at h;rcases h with⟨v,v1,q1,h⟩
 all_goals (refine Ya ?_ h;clear h;simp +decide[*,kk,tI,tII,Zx4,Zoe])
theorem Z9w{c:Za}{x:List ByteArray}{cd cc x1 x2:Int}{r:AV×List Blk}(h:(if x2<x1 then(0<=x2/\(∃(e1:ByteArray),x[x2.toNat]?=some e1/\(if e1=(⟨#[117]⟩:ByteArray)then(if e1=(⟨#[118]⟩:ByteArray)then(∃(v:Za) (v1:List (List Int)) (v2:ByteArray) (v3:Int),Zcy c e1 1 cc cd=some (.agg [.t (.str v2),I v3,.own 1],[.box (v.c.map .t),.arr 49 1 true (v1.map isc)])/\(Zc7 v ([(⟨v2,v3,v1⟩:Ze)]) x cd cc x1 (w (x2+1))=some r))else(∃(v4:Za) (v5:List (List Int)) (v6:ByteArray) (v7:Int),Zcy c e1 3 cc cd=some (.agg [.t (.str v6),I v7,.own 1],[.box (v4.c.map .t),.arr 49 1 true (v5.map isc)])/\(Zc7 v4 ([(⟨v6,v7,v5⟩:Ze)]) x cd cc x1 (w (x2+1))=some r)))else(if e1=(⟨#[118]⟩:ByteArray)then(∃(v8:Za) (v9:List (List Int)) (v10:ByteArray) (v11:Int),Zcy c e1 1 cc cd=some (.agg [.t (.str v10),I v11,.own 1],[.box (v8.c.map .t),.arr 49 1 true (v9.map isc)])/\(Zc7 v8 ([(⟨v10,v11,v9⟩:Ze)]) x cd cc x1 (w (x2+1))=some r))else(∃(v12:Za) (v13:List (List Int)) (v14:ByteArray) (v15:Int),Zcy c e1 2 cc cd=some (.agg [.t (.str v14),I v15,.own 1],[.box (v12.c.map .t),.arr 49 1 true (v13.map isc)])/\(Zc7 v12 ([(⟨v14,v15,v13⟩:Ze)]) x cd cc x1 (w (x2+1))=some r))))))else(∃(v16:Za) (v17:Bool),Zbm c 8=some (Bo v17,[.box (v16.c.map .t)])/\(if v17=true then(∃(v18:Za) (v19:Int),Zq v16 5=some (I v19,[.box (v18.c.map .t)])/\False)else(some (.agg [L 3 (([]:List Ze).map Ze.c)],[.box (v16.c.map .t)])=some r))))):Zof c x cd cc x1 x2=some r:=by
 unfold Zof;rw[Zm Zlq.eq_1];simp only[Zcy,Zbm,Zq,Za.c_def,mpl,dfs]at h
 try simp only[itb]at h
 try simp only[itf,gS,kk]at h
 rcases h with⟨q1,q2,e1,⟨g3,q3⟩,(⟨q4,(⟨q5,v,v1,v2,v3,q6,h⟩|⟨q5,v4,v5,v6,v7,q7,h⟩)⟩|⟨q4,(⟨q8,v8,v9,v10,v11,q9,h⟩|⟨q8,v12,v13,v14,v15,q10,h⟩)⟩)⟩|⟨q1,v16,v17,q11,(⟨q12,v18,v19,q13,⟨⟩⟩|⟨q12,h⟩)⟩
 all_goals try (have s1:=strL e1 ⟨#[117]⟩ [117] rfl;have s2:=strL e1 ⟨#[118]⟩ [118] rfl)
 all_goals try exact absurd ((of_eq_true q4).symm.trans (of_eq_true q5)) (by decide)
 all_goals (refine Ya ?_ h;clear h;simp +decide[*,kk,tI,tII,Zc7,Zq5,Zq6,Zq7,Zlr])
theorem Zmi{c:Za}{x:List Ze}{x1:List ByteArray}{cd cc x2 x3:Int}{r:AV×List Blk}(h:(if x3<x2 then(0<=x3/\(∃(e1:ByteArray),x1[x3.toNat]?=some e1/\(if e1=(⟨#[117]⟩:ByteArray)then(if e1=(⟨#[118]⟩:ByteArray)then(∃(v:Za) (v1:List (List Int)) (v2:ByteArray) (v3:Int),Zcy c e1 1 cc cd=some (.agg [.t (.str v2),I v3,.own 1],[.box (v.c.map .t),.arr 49 1 true (v1.map isc)])/\(x.length+1<=68719476736/\(Zc7 v (x++[(⟨v2,v3,v1⟩:Ze)]) x1 cd cc x2 (w (x3+1))=some r)))else(∃(v4:Za) (v5:List (List Int)) (v6:ByteArray) (v7:Int),Zcy c e1 3 cc cd=some (.agg [.t (.str v6),I v7,.own 1],[.box (v4.c.map .t),.arr 49 1 true (v5.map isc)])/\(x.length+1<=68719476736/\(Zc7 v4 (x++[(⟨v6,v7,v5⟩:Ze)]) x1 cd cc x2 (w (x3+1))=some r))))else(if e1=(⟨#[118]⟩:ByteArray)then(∃(v8:Za) (v9:List (List Int)) (v10:ByteArray) (v11:Int),Zcy c e1 1 cc cd=some (.agg [.t (.str v10),I v11,.own 1],[.box (v8.c.map .t),.arr 49 1 true (v9.map isc)])/\(x.length+1<=68719476736/\(Zc7 v8 (x++[(⟨v10,v11,v9⟩:Ze)]) x1 cd cc x2 (w (x3+1))=some r)))else(∃(v12:Za) (v13:List (List Int)) (v14:ByteArray) (v15:Int),Zcy c e1 2 cc cd=some (.agg [.t (.str v14),I v15,.own 1],[.box (v12.c.map .t),.arr 49 1 true (v13.map isc)])/\(x.length+1<=68719476736/\(Zc7 v12 (x++[(⟨v14,v15,v13⟩:Ze)]) x1 cd cc x2 (w (x3+1))=some r)))))))else(∃(v16:Za) (v17:Bool),Zbm c 8=some (Bo v17,[.box (v16.c.map .t)])/\(if v17=true then(∃(v18:Za) (v19:Int),Zq v16 5=some (I v19,[.box (v18.c.map .t)])/\(0<=v19/\(∃(e8:Ze),x[v19.toNat]?=some e8/\(some (.agg [L 3 ((x.set v19.toNat (⟨e8.Name,e8.Arity,[]⟩:Ze)).map Ze.c)],[.box (v18.c.map .t)])=some r))))else(some (.agg [L 3 (x.map Ze.c)],[.box (v16.c.map .t)])=some r))))):Zc7 c x x1 cd cc x2 x3=some r:=by
 unfold Zc7;rw[Zm Zlq.eq_1];simp only[Zcy,Zbm,Zq,Za.c_def,mpl,dfs]at h
 try simp only[itb]at h
 try simp only[itf,gS,kk]at h
 rcases h with⟨q1,q2,e1,⟨g3,q3⟩,(⟨q4,(⟨q5,v,v1,v2,v3,q6,q7,h⟩|⟨q5,v4,v5,v6,v7,q8,q9,h⟩)⟩|⟨q4,(⟨q10,v8,v9,v10,v11,q11,q12,h⟩|⟨q10,v12,v13,v14,v15,q13,q14,h⟩)⟩)⟩|⟨q1,v16,v17,q15,(⟨q16,v18,v19,q17,q18,e8,⟨g19,q19⟩,h⟩|⟨q16,h⟩)⟩
 all_goals try (have s1:=strL e1 ⟨#[117]⟩ [117] rfl;have s2:=strL e1 ⟨#[118]⟩ [118] rfl)
 all_goals try exact absurd ((of_eq_true q4).symm.trans (of_eq_true q5)) (by decide)
 all_goals (refine Ya ?_ h;clear h;simp +decide[*,kk,tI,tII,Zc7,Zq5,Zq6,Zq7,Zlr])
theorem Z9x{x:Za}{r:AV×List Blk}(h:(∃(v:Za) (v1:List Int) (v2:Int),Zbr x ([2,3,4,6])=some (I v2,[.box (v.c.map .t),.arr 3 1 true (v1.map ic)])/\(∃(v3:Za) (v4:List Int) (v5:Int),Zbr v ([2,4,6,8])=some (I v5,[.box (v3.c.map .t),.arr 3 1 true (v4.map ic)])/\(Zof v3 ([(⟨#[114]⟩:ByteArray),(⟨#[115]⟩:ByteArray),(⟨#[116]⟩:ByteArray),(⟨#[117]⟩:ByteArray),(⟨#[118]⟩:ByteArray)]) v2 v5 (([(⟨#[114]⟩:ByteArray),(⟨#[115]⟩:ByteArray),(⟨#[116]⟩:ByteArray),(⟨#[117]⟩:ByteArray),(⟨#[118]⟩:ByteArray)]).length:Int) 0=some r)))):Zjm x=some r:=by
 unfold Zjm;refine runM Z7d rfl ?_;simp only[Zbr,Za.c_def,mpl,dfs]at h;rcases h with⟨v,v1,v2,q1,v3,v4,v5,q2,h⟩
 all_goals (refine Ya ?_ h;clear h;simp +decide[*,kk,tI,tII,Zx5,Zof])
theorem Z9y{x:Za}{x1:List ByteArray}{r:AV×List Blk}(h:(∃(v:Za) (v1:Int),Zq x (x1.length:Int)=some (I v1,[.box (v.c.map .t)])/\(0<=v1/\(∃(e2:ByteArray),x1[v1.toNat]?=some e2/\(some (.t (.str e2),[.box (v.c.map .t),.arr 9 1 true (x1.map sc)])=some r))))):Zib x x1=some r:=by
 unfold Zib;refine runM Z7e rfl ?_;simp only[Zq,Za.c_def,mpl,dfs]at h
 try simp only[itb]at h
 try simp only[itf,gS,kk]at h
 rcases h with⟨v,v1,q1,q2,e2,⟨g3,q3⟩,h⟩
 all_goals (refine Ya ?_ h;clear h;simp +decide[*,kk,tI,tII,Zx6])
theorem Z9z{c:Int}{r:AV×List Blk}(h:(∃(v:Bool),Zw c 1 4=some (Bo v,[])/\(if v=true then(∃(v1:Bool),Zw 0 1 4=some (Bo v1,[])/\(if v1=true then(Zx8 c 0 0=some r)else(some (Bo false,[])=some r)))else(some (Bo false,[])=some r)))):Zlu c=some r:=by
 unfold Zlu;refine run Zsm rfl ?_;simp only[Zw,mpl,dfs]at h
 try simp only[itb]at h
 try simp only[itf,gS,kk]at h
 rcases h with⟨v,q1,(⟨q2,v1,q3,(⟨q4,h⟩|⟨q4,h⟩)⟩|⟨q2,h⟩)⟩
 all_goals (refine Ya ?_ h;clear h;simp +decide[*,kk,tI,tII,Zog,Zx8])
theorem Z90{a:ByteArray}{r:AV×List Blk}(h:(if(a.size:Int)=1 then(∃(b1:UInt8),a[0]?=some b1/\(if 97<=(b1.toNat:Int)then(some (Bo (decide ((b1.toNat:Int)<=122)),[])=some r)else(some (Bo false,[])=some r)))else(some (Bo false,[])=some r))):Zic a=some r:=by
 unfold Zic;refine run Zz1 rfl ?_
 try simp only[itb]at h
 try simp only[itf,gS,kk]at h
 rcases h with⟨q1,b1,q2,(⟨q3,h⟩|⟨q3,h⟩)⟩|⟨q1,h⟩
 all_goals (refine Ya ?_ h;clear h;simp +decide[*,kk,tI,tII,Zra])
theorem Z0x{l:List Int}{x i:Int}{r:AV×List Blk}(h:(if i<(l.length:Int)then(0<=i/\(∃(e1:Int),l[i.toNat]?=some e1/\(if e1=x then(some (Bo true,[])=some r)else(Zie l x (w (i+1))=some r))))else(some (Bo false,[])=some r))):Zie l x i=some r:=by
 unfold Zie;rw[Zm Zrb.eq_1]
 try simp only[itb]at h
 try simp only[itf,gS,kk]at h
 rcases h with⟨q1,q2,e1,⟨g3,q3⟩,(⟨q4,h⟩|⟨q4,h⟩)⟩|⟨q1,h⟩
 all_goals (refine Ya ?_ h;clear h;simp +decide[*,kk,tI,tII,Zie,Zrc])
theorem Z91{a:List Int}{a1:Int}{r:AV×List Blk}(h:(Zie a a1 0=some r)):Zid a a1=some r:=by
 unfold Zid;refine run Zz2 rfl ?_;refine Ya ?_ h;clear h;simp +decide[*,kk,tI,tII,Zrd,Zie]
theorem Z0y{q:Zb}{c i:Int}{r:AV×List Blk}(h:(if i<(q.Atoms.length:Int)then(0<=i/\(∃(e1:Atom),q.Atoms[i.toNat]?=some e1/\(∃(v:Bool),Zic e1.Name=some (Bo v,[])/\(if v=true then(∃(v1:Bool),Zw (e1.Vars.length:Int) 1 3=some (Bo v1,[])/\(if v1=true then(Zif q e1 c i 0=some r)else(some (Bo false,[])=some r)))else(some (Bo false,[])=some r)))))else(¬q.Zp<0/\(some (Bo (decide (c=(w ((shlI 1 q.Zp)-1)))),[])=some r)))):Zgq q c i=some r:=by
 unfold Zgq;rw[Zm Zls.eq_1];simp only[Zic,Zw,mpl,dfs]at h
 try simp only[itb]at h
 try simp only[itf,gS,kk]at h
 rcases h with⟨q1,q2,e1,⟨g3,q3⟩,v,q4,(⟨q5,v1,q6,(⟨q7,h⟩|⟨q7,h⟩)⟩|⟨q5,h⟩)⟩|⟨q1,q8,h⟩
 all_goals (refine Ya ?_ h;clear h;simp +decide[*,kk,tI,tII,Zif,Zlt])
theorem Z0z{q:Zb}{a:Atom}{c i k:Int}{r:AV×List Blk}(h:(if k<(a.Vars.length:Int)then(0<=k/\(∃(e1:Int),a.Vars[k.toNat]?=some e1/\(∃(v:Bool),Zw e1 0 (w (q.Zp-1))=some (Bo v,[])/\(if v=true then(k.toNat<=a.Vars.length/\(∃(v1:Bool),Zid (a.Vars.take k.toNat) e1=some (Bo v1,[])/\(if v1=true then(some (Bo false,[])=some r)else(¬e1<0/\(Zif q a (orI c (shlI 1 e1)) i (w (k+1))=some r)))))else(some (Bo false,[])=some r)))))else(Zgq q c (w (i+1))=some r))):Zif q a c i k=some r:=by
 unfold Zif;rw[Zm Zq8.eq_1];simp only[Zw,Zid,mpl,dfs]at h
 try simp only[itb]at h
 try simp only[itf,gS,kk]at h
 rcases h with⟨q1,q2,e1,⟨g3,q3⟩,v,q4,(⟨q5,q6,v1,q7,(⟨q8,h⟩|⟨q8,q9,h⟩)⟩|⟨q5,h⟩)⟩|⟨q1,h⟩
 all_goals (refine Ya ?_ h;clear h;simp +decide[*,kk,tI,tII,Zif,Zgq,Zq9])
theorem Z92{a:Zb}{r:AV×List Blk}(h:(∃(v:Bool),Zw a.Zp 1 4=some (Bo v,[])/\(if v=true then(∃(v1:Bool),Zw (a.Atoms.length:Int) 1 4=some (Bo v1,[])/\(if v1=true then(Zgq a 0 0=some r)else(some (Bo false,[])=some r)))else(some (Bo false,[])=some r)))):Zdh a=some r:=by
 unfold Zdh;refine run Zsm rfl ?_;simp only[Zw,mpl,dfs]at h
 try simp only[itb]at h
 try simp only[itf,gS,kk]at h
 rcases h with⟨v,q1,(⟨q2,v1,q3,(⟨q4,h⟩|⟨q4,h⟩)⟩|⟨q2,h⟩)⟩
 all_goals (refine Ya ?_ h;clear h;simp +decide[*,kk,tI,tII,Zog,Zgq])
end Go.Proofs.Ytdbnflilbkjbhaa
