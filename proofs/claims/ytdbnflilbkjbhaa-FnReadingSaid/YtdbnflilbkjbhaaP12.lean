/-
  Parts of the proofs for this seat: G7 G8.
-/
import Derived.Test.YtdbnflilbkjbhaaP9
set_option linter.unusedSectionVars false
set_option linter.unusedSimpArgs false
set_option linter.unusedVariables false
set_option maxRecDepth 100000
set_option maxHeartbeats 4000000
namespace Go.Proofs.Ytdbnflilbkjbhaa
open Go.AM
theorem litG2{α β:Type}(f:α->β){l:List α}{i:Nat}{e:α}(g:i<l.length)(q:l[i]=e):∃g2:i<(l.map f).length,(l.map f)[i]=f e:=⟨by simpa using g,by simp[q]⟩
theorem Z00{c:Za}{cl cd:Int}{x:List Atom}{cc n:Int}{r:AV×List Blk}(h:(if 0<n then(∃(v:Za) (v1:Int),Zq c 5=some (I v1,[.box (v.c.map .t)])/\(0<=v1/\(∃(e2:ByteArray),([(⟨#[114]⟩:ByteArray),(⟨#[115]⟩:ByteArray),(⟨#[116]⟩:ByteArray),(⟨#[117]⟩:ByteArray),(⟨#[118]⟩:ByteArray)])[v1.toNat]?=some e2/\(∃(e3:Int),([2,2,2,3,1])[v1.toNat]?=some e3/\(∃(v2:Za) (v3:Int),Zq v 4=some (I v3,[.box (v2.c.map .t)])/\(Zlw v2 cl cd x cc e2 n e3 v3 0=some r))))))else(∃(v4:Bool),Zlu cc=some (Bo v4,[])/\(if v4=true then(some (.agg [I cc,.own 1],[.box (c.c.map .t),.xarr 116 2 (([]:List Atom).map Atom.c)])=some r)else(some (.agg [I cd,.own 1],[.box (c.c.map .t),.xarr 116 2 (x.map Atom.c)])=some r))))):Zlv c cl cd x cc n=some r:=by
 unfold Zlv;rw[Zm Zfm.eq_1];simp only[Zq,Zlu,Za.c_def,mpl,dfs]at h
 try simp only[itb]at h
 try simp only[itf,gS,kk]at h
 rcases h with⟨q1,v,v1,q2,q3,e2,⟨g4,q4⟩,e3,⟨g5,q5⟩,v2,v3,q6,h⟩|⟨q1,v4,q7,(⟨q8,h⟩|⟨q8,h⟩)⟩
 all_goals try (have z_q4:=litG2 sc g4 q4;simp only[Y0,Ybq,dfs]at z_q4;obtain⟨x_q4,z_q4⟩:=z_q4;have y_q4:v1<5:=by(have y:=g4;simp at y;omega))
 all_goals try (have z_q5:=litG2 ic g5 q5;simp only[Y0,Ybq,dfs]at z_q5;obtain⟨x_q5,z_q5⟩:=z_q5;have y_q5:v1<5:=by(have y:=g5;simp at y;omega))
 all_goals (refine Ya ?_ h;clear h;simp +decide[*,kk,tI,tII,Zlw,Zfn])
theorem Z01{c:Za}{cl cd:Int}{x:List Atom}{cc:Int}{cn:ByteArray}{n m v i:Int}{r:AV×List Blk}(h:(if i<m then(Zih c cl cd x (if cc<(w (v+1))then(w (v+1))else cc) cn ([v]) n m (Int.tmod (w (v+1)) 4) (w (i+1))=some r)else(Zcz c cl cd x cc ([(⟨cn,[]⟩:Atom)]) (w (n-1))=some r))):Zlw c cl cd x cc cn n m v i=some r:=by
 unfold Zlw;rw[Zm Zfj.eq_1]
 try simp only[itb]at h
 try simp only[itf,gS,kk]at h
 rcases h with⟨q1,h⟩|⟨q1,h⟩
 all_goals (refine Ya ?_ h;clear h;simp +decide[*,kk,tI,tII,Zih,Zcz,Zfl,Zfk])
theorem Z02{c:Za}{cl cd:Int}{x:List Atom}{cc:Int}{cn:ByteArray}{x1:List Int}{n m v i:Int}{r:AV×List Blk}(h:(if i<m then(x1.length+1<=68719476736/\(Zih c cl cd x (if cc<(w (v+1))then(w (v+1))else cc) cn (x1++[v]) n m (Int.tmod (w (v+1)) 4) (w (i+1))=some r))else(Zcz c cl cd x cc ([(⟨cn,x1⟩:Atom)]) (w (n-1))=some r))):Zih c cl cd x cc cn x1 n m v i=some r:=by
 unfold Zih;rw[Zm Zfj.eq_1]
 try simp only[itb]at h
 try simp only[itf,gS,kk]at h
 rcases h with⟨q1,q2,h⟩|⟨q1,h⟩
 all_goals (refine Ya ?_ h;clear h;simp +decide[*,kk,tI,tII,Zih,Zcz,Zfl,Zfk])
theorem Zss{c:Za}{cl cd:Int}{x:List Atom}{cc:Int}{x1:List Atom}{n:Int}{r:AV×List Blk}(h:(if 0<n then(∃(v:Za) (v1:Int),Zq c 5=some (I v1,[.box (v.c.map .t)])/\(0<=v1/\(∃(e2:ByteArray),([(⟨#[114]⟩:ByteArray),(⟨#[115]⟩:ByteArray),(⟨#[116]⟩:ByteArray),(⟨#[117]⟩:ByteArray),(⟨#[118]⟩:ByteArray)])[v1.toNat]?=some e2/\(∃(e3:Int),([2,2,2,3,1])[v1.toNat]?=some e3/\(∃(v2:Za) (v3:Int),Zq v 4=some (I v3,[.box (v2.c.map .t)])/\(Zlx v2 cl cd x cc x1 e2 n e3 v3 0=some r))))))else(∃(v4:Bool),Zdh (⟨cc,x1⟩:Zb)=some (Bo v4,[])/\(if v4=true then(some (.agg [I cc,.own 1],[.box (c.c.map .t),.xarr 116 2 (x1.map Atom.c)])=some r)else(some (.agg [I cd,.own 1],[.box (c.c.map .t),.xarr 116 2 (x.map Atom.c)])=some r))))):Zcz c cl cd x cc x1 n=some r:=by
 unfold Zcz;rw[Zm Zfm.eq_1];simp only[Zq,Zdh,Za.c_def,Zb.c_def,mpl,dfs]at h
 try simp only[itb]at h
 try simp only[itf,gS,kk]at h
 rcases h with⟨q1,v,v1,q2,q3,e2,⟨g4,q4⟩,e3,⟨g5,q5⟩,v2,v3,q6,h⟩|⟨q1,v4,q7,(⟨q8,h⟩|⟨q8,h⟩)⟩
 all_goals try (have z_q4:=litG2 sc g4 q4;simp only[Y0,Ybq,dfs]at z_q4;obtain⟨x_q4,z_q4⟩:=z_q4;have y_q4:v1<5:=by(have y:=g4;simp at y;omega))
 all_goals try (have z_q5:=litG2 ic g5 q5;simp only[Y0,Ybq,dfs]at z_q5;obtain⟨x_q5,z_q5⟩:=z_q5;have y_q5:v1<5:=by(have y:=g5;simp at y;omega))
 all_goals (refine Ya ?_ h;clear h;simp +decide[*,kk,tI,tII,Zlx,Zfn])
theorem Z03{c:Za}{cl cd:Int}{x:List Atom}{cc:Int}{x1:List Atom}{cn:ByteArray}{n m v i:Int}{r:AV×List Blk}(h:(if i<m then(Zii c cl cd x (if cc<(w (v+1))then(w (v+1))else cc) x1 cn ([v]) n m (Int.tmod (w (v+1)) 4) (w (i+1))=some r)else(x1.length+1<=68719476736/\(Zcz c cl cd x cc (x1++[(⟨cn,[]⟩:Atom)]) (w (n-1))=some r)))):Zlx c cl cd x cc x1 cn n m v i=some r:=by
 unfold Zlx;rw[Zm Zfj.eq_1]
 try simp only[itb]at h
 try simp only[itf,gS,kk]at h
 rcases h with⟨q1,h⟩|⟨q1,q2,h⟩
 all_goals (refine Ya ?_ h;clear h;simp +decide[*,kk,tI,tII,Zii,Zcz,Zfl,Zfk])
theorem Z04{c:Za}{cl cd:Int}{x:List Atom}{cc:Int}{x1:List Atom}{cn:ByteArray}{x2:List Int}{n m v i:Int}{r:AV×List Blk}(h:(if i<m then(x2.length+1<=68719476736/\(Zii c cl cd x (if cc<(w (v+1))then(w (v+1))else cc) x1 cn (x2++[v]) n m (Int.tmod (w (v+1)) 4) (w (i+1))=some r))else(x1.length+1<=68719476736/\(Zcz c cl cd x cc (x1++[(⟨cn,x2⟩:Atom)]) (w (n-1))=some r)))):Zii c cl cd x cc x1 cn x2 n m v i=some r:=by
 unfold Zii;rw[Zm Zfj.eq_1]
 try simp only[itb]at h
 try simp only[itf,gS,kk]at h
 rcases h with⟨q1,q2,h⟩|⟨q1,q3,h⟩
 all_goals (refine Ya ?_ h;clear h;simp +decide[*,kk,tI,tII,Zii,Zcz,Zfl,Zfk])
theorem Z05{x:Za}{r:AV×List Blk}(h:(∃(v:Za) (v1:List ByteArray) (v2:ByteArray),Zib x ([(⟨#[114,40,88,89,41]⟩:ByteArray),(⟨#[114,40,88,89,41,32,115,40,89,90,41]⟩:ByteArray),(⟨#[114,40,88,89,41,32,115,40,89,90,41,32,116,40,90,85,41]⟩:ByteArray),(⟨#[114,40,88,89,41,32,115,40,89,90,41,32,116,40,90,88,41]⟩:ByteArray),(⟨#[114,40,88,89,41,32,115,40,88,90,41,32,116,40,88,85,41]⟩:ByteArray),(⟨#[114,40,88,89,41,32,115,40,89,90,41,32,118,40,89,41]⟩:ByteArray),(⟨#[117,40,88,89,90,41,32,115,40,90,85,41]⟩:ByteArray),(⟨#[117,40,88,89,90,41,32,114,40,88,89,41,32,118,40,90,41]⟩:ByteArray),(⟨#[114,40,88,89,41,32,115,40,89,90,41,32,116,40,90,85,41,32,118,40,88,41]⟩:ByteArray),(⟨#[114,40,88,89,41,32,114,40,89,90,41]⟩:ByteArray),(⟨#[114,40,88,89,41,32,115,40,89,88,41]⟩:ByteArray),(⟨#[118,40,88,41,32,114,40,88,89,41,32,115,40,89,90,41,32,116,40,90,85,41]⟩:ByteArray),(⟨#[114,40,88,89,41,32,115,40,89,90,41,32,116,40,90,85,41,32,115,40,85,88,41]⟩:ByteArray)])=some (.t (.str v2),[.box (v.c.map .t),.arr 9 1 true (v1.map sc)])/\(∃(v3:List Atom) (v4:Int) (v5:Bool),Zre v2=some (.tup [.agg [I v4,.own 0],Bo v5],[.xarr 116 2 (v3.map Atom.c)])/\(∃(v6:Za) (v7:Bool),Zbm v 4=some (Bo v7,[.box (v6.c.map .t)])/\(if v7=true then(∃(v8:Za) (v9:Int),Zq v6 4=some (I v9,[.box (v8.c.map .t)])/\(Zlv v8 0 v4 v3 0 (w (1+v9))=some r))else(some (.agg [I v4,.own 1],[.box (v6.c.map .t),.xarr 116 2 (v3.map Atom.c)])=some r)))))):Zig x=some r:=by
 unfold Zig;refine runM Z7k rfl ?_;simp only[Zib,Zre,Zbm,Zq,Za.c_def,mpl,dfs]at h
 try simp only[itb]at h
 try simp only[itf,gS,kk]at h
 rcases h with⟨v,v1,v2,q1,v3,v4,v5,q2,v6,v7,q3,(⟨q4,v8,v9,q5,h⟩|⟨q4,h⟩)⟩
 all_goals (refine Ya ?_ h;clear h;simp +decide[*,kk,tI,tII,Zyd,Zlv])
theorem Z93{a:Zb}{r:AV×List Blk}(h:(∃(v:Bool),Zdh a=some (Bo v,[])/\(if v=true then(¬(a.Atoms.length:Int)<0/\(some (I (w ((shlI 1 (a.Atoms.length:Int))-1)),[])=some r))else(some (I 0,[])=some r)))):Zij a=some r:=by
 unfold Zij;refine run Z7l rfl ?_;simp only[Zdh,Zb.c_def,mpl,dfs]at h
 try simp only[itb]at h
 try simp only[itf,gS,kk]at h
 rcases h with⟨v,q1,(⟨q2,q3,h⟩|⟨q2,h⟩)⟩
 all_goals (refine Ya ?_ h;clear h;simp +decide[*,kk,tI,tII,Zye])
theorem Z94{a:Zb}{a1:Int}{r:AV×List Blk}(h:(∃(v:Bool),Zdh a=some (Bo v,[])/\(if v=true then(¬(a.Atoms.length:Int)<0/\(∃(v1:Bool),Zw a1 0 (w ((shlI 1 (a.Atoms.length:Int))-1))=some (Bo v1,[])/\(some (Bo v1,[])=some r)))else(some (Bo false,[])=some r)))):Zik a a1=some r:=by
 unfold Zik;refine run Z7m rfl ?_;simp only[Zdh,Zw,Zb.c_def,mpl,dfs]at h
 try simp only[itb]at h
 try simp only[itf,gS,kk]at h
 rcases h with⟨v,q1,(⟨q2,q3,v1,q4,h⟩|⟨q2,h⟩)⟩
 all_goals (refine Ya ?_ h;clear h;simp +decide[*,kk,tI,tII,Zyf])
theorem Z06{q:Zb}{c x i:Int}{r:AV×List Blk}(h:(if i<(q.Atoms.length:Int)then(Zgr q c x i 0=some r)else(some (I x,[])=some r))):Zfo q c x i=some r:=by
 unfold Zfo;rw[Zm Zoh.eq_1]
 try simp only[itb]at h
 try simp only[itf,gS,kk]at h
 rcases h with⟨q1,h⟩|⟨q1,h⟩
 all_goals (refine Ya ?_ h;clear h;simp +decide[*,kk,tI,tII,Zgr,Zoi])
theorem Zst{q:Zb}{c x i k:Int}{r:AV×List Blk}(h:(0<=i/\(∃(e1:Atom),q.Atoms[i.toNat]?=some e1/\(if k<(e1.Vars.length:Int)then(¬i<0/\(if(andI (shrI c i) 1)=1 then(0<=k/\(∃(e2:Int),e1.Vars[k.toNat]?=some e2/\(¬e2<0/\(Zgr q c (orI x (shlI 1 e2)) i (w (k+1))=some r))))else(Zfo q c x (w (i+1))=some r)))else(Zfo q c x (w (i+1))=some r))))):Zgr q c x i k=some r:=by
 unfold Zgr;rw[Zm Zrf.eq_1]
 try simp only[itb]at h
 try simp only[itf,gS,kk]at h
 rcases h with⟨q1,e1,⟨g2,q2⟩,(⟨q3,q4,(⟨q5,q6,e2,⟨g7,q7⟩,q8,h⟩|⟨q5,h⟩)⟩|⟨q3,h⟩)⟩
 all_goals (refine Ya ?_ h;clear h;simp +decide[*,kk,tI,tII,Zgr,Zfo,Zrg])
theorem Z95{a:Zb}{a1:Int}{r:AV×List Blk}(h:(Zfo a a1 0 0=some r)):Zcf a a1=some r:=by
 unfold Zcf;refine run Z7n rfl ?_;refine Ya ?_ h;clear h;simp +decide[*,kk,tI,tII,Zyg,Zfo]
theorem Z07{q:Zb}{cc cd c i:Int}{r:AV×List Blk}(h:(if i<(q.Atoms.length:Int)then(¬i<0/\(if(andI (shrI cc i) 1)=0 then(∃(v:Int),Zcf q (shlI 1 i)=some (I v,[])/\(if(andI v c)=0 then(Zfp q cc cd c (w (i+1))=some r)else(Zfp q cc (orI cd (shlI 1 i)) c (w (i+1))=some r)))else(Zfp q cc cd c (w (i+1))=some r)))else(some (I cd,[])=some r))):Zfp q cc cd c i=some r:=by
 unfold Zfp;rw[Zm Zrh.eq_1];simp only[Zcf,Zb.c_def,mpl,dfs]at h
 try simp only[itb]at h
 try simp only[itf,gS,kk]at h
 rcases h with⟨q1,q2,(⟨q3,v,q4,(⟨q5,h⟩|⟨q5,h⟩)⟩|⟨q3,h⟩)⟩|⟨q1,h⟩
 all_goals (refine Ya ?_ h;clear h;simp +decide[*,kk,tI,tII,Zfp,Zyh,Zri])
theorem Z96{a:Zb}{a1:Int}{r:AV×List Blk}(h:(∃(v:Int),Zcf a a1=some (I v,[])/\(Zfp a a1 0 v 0=some r))):Zly a a1=some r:=by
 unfold Zly;refine run Z7o rfl ?_;simp only[Zcf,Zb.c_def,mpl,dfs]at h;rcases h with⟨v,q1,h⟩
 all_goals (refine Ya ?_ h;clear h;simp +decide[*,kk,tI,tII,Zyi,Zfp])
theorem Z08{q:Zb}{c x n:Int}{r:AV×List Blk}(h:(if n<(q.Atoms.length:Int)then(∃(v:Int),Zly q x=some (I v,[])/\(Zil q c (orI x (andI v c)) (w (n+1))=some r))else(some (Bo (decide (x=c)),[])=some r))):Zil q c x n=some r:=by
 unfold Zil;rw[Zm Zrj.eq_1];simp only[Zly,Zb.c_def,mpl,dfs]at h
 try simp only[itb]at h
 try simp only[itf,gS,kk]at h
 rcases h with⟨q1,v,q2,h⟩|⟨q1,h⟩
 all_goals (refine Ya ?_ h;clear h;simp +decide[*,kk,tI,tII,Zil,Zrk])
theorem Z97{a:Zb}{a1:Int}{r:AV×List Blk}(h:(Zil a a1 (andI a1 (w (0-a1))) 0=some r)):Zgs a a1=some r:=by
 unfold Zgs;refine run Z7p rfl ?_;refine Ya ?_ h;clear h;simp +decide[*,kk,tI,tII,Zyj,Zil]
theorem Z98{a:Zb}{a1:Int}{r:AV×List Blk}(h:(∃(v:Bool),Zik a a1=some (Bo v,[])/\(if v=true then(if 0<a1 then(∃(v1:Bool),Zgs a a1=some (Bo v1,[])/\(some (Bo v1,[])=some r))else(some (Bo false,[])=some r))else(some (Bo false,[])=some r)))):Zlz a a1=some r:=by
 unfold Zlz;refine run Z7q rfl ?_;simp only[Zik,Zgs,Zb.c_def,mpl,dfs]at h
 try simp only[itb]at h
 try simp only[itf,gS,kk]at h
 rcases h with⟨v,q1,(⟨q2,(⟨q3,v1,q4,h⟩|⟨q3,h⟩)⟩|⟨q2,h⟩)⟩
 all_goals (refine Ya ?_ h;clear h;simp +decide[*,kk,tI,tII,Zyk])
theorem Z09{q:Zb}{cc:List Int}{c m:Int}{r:AV×List Blk}(h:(if m<c then(if(andI m c)=m then(∃(v:Bool),Zgs q m=some (Bo v,[])/\(if v=true then(∃(v1:Bool),Zgs q (w (c-m))=some (Bo v1,[])/\(if v1=true then(cc.length+1<=68719476736/\(Zeh q (cc++[m]) c (w (m+1))=some r))else(Zeh q cc c (w (m+1))=some r)))else(Zeh q cc c (w (m+1))=some r)))else(Zeh q cc c (w (m+1))=some r))else(some (.own 0,[.arr 3 1 true (cc.map ic)])=some r))):Zeh q cc c m=some r:=by
 unfold Zeh;rw[Zm Zrl.eq_1];simp only[Zgs,Zb.c_def,mpl,dfs]at h
 try simp only[itb]at h
 try simp only[itf,gS,kk]at h
 rcases h with⟨q1,(⟨q2,v,q3,(⟨q4,v1,q5,(⟨q6,q7,h⟩|⟨q6,h⟩)⟩|⟨q4,h⟩)⟩|⟨q2,h⟩)⟩|⟨q1,h⟩
 all_goals (refine Ya ?_ h;clear h;simp +decide[*,kk,tI,tII,Zeh,Zyl,Zrm])
theorem Z1a{a:Zb}{a1:Int}{r:AV×List Blk}(h:(∃(v:Bool),Zlz a a1=some (Bo v,[])/\(if v=true then(Zeh a ([]:List Int) a1 1=some r)else(some (.own 0,[.arr 3 1 true (([]:List Int).map ic)])=some r)))):Zim a a1=some r:=by
 unfold Zim;refine run Z7r rfl ?_;simp only[Zlz,Zb.c_def,mpl,dfs]at h
 try simp only[itb]at h
 try simp only[itf,gS,kk]at h
 rcases h with⟨v,q1,(⟨q2,h⟩|⟨q2,h⟩)⟩
 all_goals (refine Ya ?_ h;clear h;simp +decide[*,kk,tI,tII,Zym,Zeh])
theorem Z1b{cc:List Int}{c i:Int}{r:AV×List Blk}(h:(if i<4 then(∃(v:Bool),Zw c 0 15=some (Bo v,[])/\(if v=true then(¬i<0/\(if(andI (shrI c i) 1)=1 then(cc.length+1<=68719476736/\(Zgt (cc++[i]) c (w (i+1))=some r))else(Zgt cc c (w (i+1))=some r)))else(some (.own 0,[.arr 3 1 true (cc.map ic)])=some r)))else(some (.own 0,[.arr 3 1 true (cc.map ic)])=some r))):Zgt cc c i=some r:=by
 unfold Zgt;rw[Zm Zrn.eq_1];simp only[Zw,mpl,dfs]at h
 try simp only[itb]at h
 try simp only[itf,gS,kk]at h
 rcases h with⟨q1,v,q2,(⟨q3,q4,(⟨q5,q6,h⟩|⟨q5,h⟩)⟩|⟨q3,h⟩)⟩|⟨q1,h⟩
 all_goals (refine Ya ?_ h;clear h;simp +decide[*,kk,tI,tII,Zgt,Zyn,Zro])
theorem Z99{a:Int}{r:AV×List Blk}(h:(Zgt ([]:List Int) a 0=some r)):Zl0 a=some r:=by
 unfold Zl0;refine run Z7s rfl ?_;refine Ya ?_ h;clear h;simp +decide[*,kk,tI,tII,Zyo,Zgt]
theorem Zbaa{a:Int}{r:AV×List Blk}(h:(some (.agg [.own 0],[.arr 105 3 true (([(⟨1,a,0⟩:Zf)]).map Zf.c)])=some r)):Zjn a=some r:=by
 unfold Zjn;refine run Z7t rfl ?_;refine Ya ?_ h;clear h;simp +decide[*,kk,tI,tII,Zyp]
theorem Zbab{a a1:Plan}{a2 a3:Int}{r:AV×List Blk}(h:(a.Steps.length<=68719476736/\(a.Steps.length+a1.Steps.length<=68719476736/\(a.Steps.length+a1.Steps.length+1<=68719476736/\(some (.agg [.own 0],[.arr 105 3 true (((a.Steps++a1.Steps)++[(⟨a2,0,a3⟩:Zf)]).map Zf.c)])=some r))))):Zex a a1 a2 a3=some r:=by
 unfold Zex;refine run Z7u rfl ?_;rcases h with⟨q1,q2,q3,h⟩
 all_goals (refine Ya ?_ h;clear h;simp +decide[*,kk,tI,tII,Zyq])
theorem Z1c{cc:List Int}{c v:Int}{r:AV×List Blk}(h:(if v<4 then(¬v<0/\(if(andI (shrI c v) 1)=1 then(cc.length+1<=68719476736/\(Zgu (cc++[v]) c (w (v+1))=some r))else(Zgu cc c (w (v+1))=some r)))else(some (.own 0,[.arr 3 1 true (cc.map ic)])=some r))):Zgu cc c v=some r:=by
 unfold Zgu;rw[Zm Zrp.eq_1]
 try simp only[itb]at h
 try simp only[itf,gS,kk]at h
 rcases h with⟨q1,q2,(⟨q3,q4,h⟩|⟨q3,h⟩)⟩|⟨q1,h⟩
 all_goals (refine Ya ?_ h;clear h;simp +decide[*,kk,tI,tII,Zgu,Zyr,Zrq])
theorem Zbac{a:Int}{r:AV×List Blk}(h:(Zgu ([]:List Int) a 0=some r)):Zoj a=some r:=by
 unfold Zoj;refine run Z7v rfl ?_;refine Ya ?_ h;clear h;simp +decide[*,kk,tI,tII,Zys,Zgu]
theorem Zbad{a:Zb}{a1:Int}{r:AV×List Blk}(h:(∃(v:Bool),Zik a a1=some (Bo v,[])/\(if v=true then(∃(v1:Int),Zcf a a1=some (I v1,[])/\(∃(v2:List Int),Zoj v1=some (.own 0,[.arr 3 1 true (v2.map ic)])/\(some (.own 0,[.arr 3 1 true (v2.map ic)])=some r)))else(some (.own 0,[.arr 3 1 true (([]:List Int).map ic)])=some r)))):Zgv a a1=some r:=by
 unfold Zgv;refine run Z7w rfl ?_;simp only[Zik,Zcf,Zoj,Zb.c_def,mpl,dfs]at h
 try simp only[itb]at h
 try simp only[itf,gS,kk]at h
 rcases h with⟨v,q1,(⟨q2,v1,q3,v2,q4,h⟩|⟨q2,h⟩)⟩
 all_goals (refine Ya ?_ h;clear h;simp +decide[*,kk,tI,tII,Zyt])
theorem Z1d{c x y:List Int}{i:Int}{r:AV×List Blk}(h:(if i<(x.length:Int)then(0<=i/\(∃(e1:Int),x[i.toNat]?=some e1/\(∃(v:Bool),Zid y e1=some (Bo v,[])/\(if v=true then(c.length+1<=68719476736/\(Zgw (c++[e1]) x y (w (i+1))=some r))else(Zgw c x y (w (i+1))=some r)))))else(some (.own 0,[.arr 3 1 true (c.map ic)])=some r))):Zgw c x y i=some r:=by
 unfold Zgw;rw[Zm Zrr.eq_1];simp only[Zid,mpl,dfs]at h
 try simp only[itb]at h
 try simp only[itf,gS,kk]at h
 rcases h with⟨q1,q2,e1,⟨g3,q3⟩,v,q4,(⟨q5,q6,h⟩|⟨q5,h⟩)⟩|⟨q1,h⟩
 all_goals (refine Ya ?_ h;clear h;simp +decide[*,kk,tI,tII,Zgw,Zyu,Zrs])
theorem Zbae{a:Zb}{a1 a2:Int}{r:AV×List Blk}(h:(∃(v:List Int),Zgv a a1=some (.own 0,[.arr 3 1 true (v.map ic)])/\(∃(v1:List Int),Zgv a a2=some (.own 0,[.arr 3 1 true (v1.map ic)])/\(Zgw ([]:List Int) v v1 0=some r)))):Zl1 a a1 a2=some r:=by
 unfold Zl1;refine run Z7x rfl ?_;simp only[Zgv,Zb.c_def,mpl,dfs]at h;rcases h with⟨v,q1,v1,q2,h⟩
 all_goals (refine Ya ?_ h;clear h;simp +decide[*,kk,tI,tII,Zyv,Zgw])
theorem Zbaf{a a1:Int}{r:AV×List Blk}(h:(∃(v:Bool),Zw a1 0 3=some (Bo v,[])/\(if v=true then(¬a1<0/\(some (Bo (decide ((andI (shrI a a1) 1)=1)),[])=some r))else(some (Bo false,[])=some r)))):Zfq a a1=some r:=by
 unfold Zfq;refine run Z7y rfl ?_;simp only[Zw,mpl,dfs]at h
 try simp only[itb]at h
 try simp only[itf,gS,kk]at h
 rcases h with⟨v,q1,(⟨q2,q3,h⟩|⟨q2,h⟩)⟩
 all_goals (refine Ya ?_ h;clear h;simp +decide[*,kk,tI,tII,Zyw])
theorem Zmj{q:Zb}{x:Zf}{x1:Zg}{cc:List Zg}{c:List Int}{n x2:Int}{x3:Bool}{r:AV×List Blk}(h:(if x3=true then(if x.Atom=0 then(if n<2 then(some (.tup [.agg [I 0,I 0,I 0,I 0],I (-1)],[])=some r)else(0<=(w (n-2))/\(∃(e1:Int),c[(w (n-2)).toNat]?=some e1/\(0<=e1/\(∃(e2:Zg),cc[e1.toNat]?=some e2/\(0<=(w (n-1))/\(∃(e3:Int),c[(w (n-1)).toNat]?=some e3/\(0<=e3/\(∃(e4:Zg),cc[e3.toNat]?=some e4/\(∃(v:Int),Zcf q e2.Mask=some (I v,[])/\(∃(v1:Int),Zcf q e4.Mask=some (I v1,[])/\(if(andI e2.Mask e4.Mask)=0 then(if(andI v v1)=0 then(some (.tup [.agg [I 0,I 0,I 0,I 0],I (-1)],[])=some r)else(if x.Kind=4 then(Zgy q x x1 e2 e4 (⟨(orI e2.Mask e4.Mask),(-1),e1,e3⟩:Zg) (andI v v1) false=some r)else(if x.Order=0 then(if x.Kind=5 then(Zio q x x1 e2 e4 (⟨(orI e2.Mask e4.Mask),e2.Order,e1,e3⟩:Zg) (andI v v1)=some r)else(Zgy q x x1 e2 e4 (⟨(orI e2.Mask e4.Mask),(-1),e1,e3⟩:Zg) (andI v v1) false=some r))else(some (.tup [.agg [I 0,I 0,I 0,I 0],I (-1)],[])=some r))))else(some (.tup [.agg [I 0,I 0,I 0,I 0],I (-1)],[])=some r)))))))))))))else(some (.tup [.agg [I 0,I 0,I 0,I 0],I (-1)],[])=some r))else(some (.tup [.agg [I 0,I 0,I 0,I 0],I (-1)],[])=some r))):Zin q x x1 cc c n x2 x3=some r:=by
 unfold Zin;rw[Ev_eq Zok.eq_1];by_cases q1:x3=true
 .rw[if_pos q1]at h;by_cases q2:x.Atom=0
  .rw[if_pos q2]at h;replace q2:=eq_true q2;by_cases q3:n<2
   .rw[if_pos q3]at h;refine Ya ?_ h;clear h;simp +decide[*,tI,tII]
   .rw[if_neg q3]at h;obtain⟨q4,h⟩:=h;obtain⟨e1,q5,h⟩:=h;have gq5:=Zkx q5;have kq5:=getOf q5;obtain⟨q6,h⟩:=h;obtain⟨e2,q7,h⟩:=h;have gq7:=Zkx q7;have kq7:=getOf q7;obtain⟨q8,h⟩:=h;obtain⟨e3,q9,h⟩:=h;have gq9:=Zkx q9;have kq9:=getOf q9;obtain⟨q10,h⟩:=h;obtain⟨e4,q11,h⟩:=h;have gq11:=Zkx q11;have kq11:=getOf q11;obtain⟨v,q12,h⟩:=h;unfold Zcf at q12
    try simp at q12
    obtain⟨v1,q13,h⟩:=h;unfold Zcf at q13
    try simp at q13
    by_cases q14:(andI e2.Mask e4.Mask)=0
    .rw[if_pos q14]at h;replace q14:=eq_true q14;by_cases q15:(andI v v1)=0
     .rw[if_pos q15]at h;replace q15:=eq_true q15;refine Ya ?_ h;clear h;simp +decide[*,tI,tII]
     .rw[if_neg q15]at h;replace q15:=eq_false q15;by_cases q16:x.Kind=4
      .rw[if_pos q16]at h;replace q16:=eq_true q16;have q17:(x.Kind=5)=False:=eq_false (by intro hh;simp_all);refine Ya ?_ h;clear h;simp +decide[*,tI,tII,Zgy]
      .rw[if_neg q16]at h;replace q16:=eq_false q16;by_cases q18:x.Order=0
       .rw[if_pos q18]at h;replace q18:=eq_true q18;by_cases q19:x.Kind=5
        .rw[if_pos q19]at h;replace q19:=eq_true q19;refine Ya ?_ h;clear h;simp +decide[*,tI,tII,Zio]
        .rw[if_neg q19]at h;replace q19:=eq_false q19;refine Ya ?_ h;clear h;simp +decide[*,tI,tII,Zgy]
       .rw[if_neg q18]at h;replace q18:=eq_false q18;refine Ya ?_ h;clear h;simp +decide[*,tI,tII]
    .rw[if_neg q14]at h;replace q14:=eq_false q14;refine Ya ?_ h;clear h;simp +decide[*,tI,tII]
  .rw[if_neg q2]at h;replace q2:=eq_false q2;refine Ya ?_ h;clear h;simp +decide[*,tI,tII]
 .rw[if_neg q1]at h;refine Ya ?_ h;clear h;simp +decide[*,tI,tII]
theorem Zbag{x:Zb}{x1:Zf}{x2 a b y:Zg}{v:Int}{r:AV×List Blk}(h:(if x1.Kind=4 then(∃(v1:Bool),Zfq v x1.Order=some (Bo v1,[])/\(if v1=true then(if a.Order=x1.Order then(if b.Order=x1.Order then(some (.tup [.agg [I y.Mask,I x1.Order,I y.Left,I y.Right],I 2],[])=some r)else(some (.tup [.agg [I 0,I 0,I 0,I 0],I (-1)],[])=some r))else(some (.tup [.agg [I 0,I 0,I 0,I 0],I (-1)],[])=some r))else(some (.tup [.agg [I 0,I 0,I 0,I 0],I (-1)],[])=some r)))else(some (.tup [.agg (y.c.map .t),I 2],[])=some r))):Zio x x1 x2 a b y v=some r:=by
 unfold Zio;rw[Ev_eq Zl2.eq_1];simp only[Zfq,mpl,dfs]at h
 try simp only[itb]at h
 try simp only[itf,gS,kk]at h
 rcases h with⟨q1,v1,q2,(⟨q3,(⟨q4,(⟨q5,h⟩|⟨q5,h⟩)⟩|⟨q4,h⟩)⟩|⟨q3,h⟩)⟩|⟨q1,h⟩
 all_goals (refine Ya ?_ h;clear h;simp +decide[*,kk,tI,tII,Zrt])
theorem Zsu{x:Zb}{x1:Zf}{x2 a b y:Zg}{v:Int}{x3:Bool}{r:AV×List Blk}(h:(if x1.Kind=4 then(∃(v1:Bool),Zfq v x1.Order=some (Bo v1,[])/\(if v1=true then(if a.Order=x1.Order then(if b.Order=x1.Order then(some (.tup [.agg [I y.Mask,I x1.Order,I y.Left,I y.Right],I 2],[])=some r)else(some (.tup [.agg [I 0,I 0,I 0,I 0],I (-1)],[])=some r))else(some (.tup [.agg [I 0,I 0,I 0,I 0],I (-1)],[])=some r))else(some (.tup [.agg [I 0,I 0,I 0,I 0],I (-1)],[])=some r)))else(some (.tup [.agg (y.c.map .t),I 2],[])=some r))):Zgy x x1 x2 a b y v x3=some r:=by
 unfold Zgy;rw[Ev_eq Zl2.eq_1];simp only[Zfq,mpl,dfs]at h
 try simp only[itb]at h
 try simp only[itf,gS,kk]at h
 rcases h with⟨q1,v1,q2,(⟨q3,(⟨q4,(⟨q5,h⟩|⟨q5,h⟩)⟩|⟨q4,h⟩)⟩|⟨q3,h⟩)⟩|⟨q1,h⟩
 all_goals (refine Ya ?_ h;clear h;simp +decide[*,kk,tI,tII,Zrt])
theorem Zey{a:Zb}{a1:Zf}{a2:List Zg}{a3:List Int}{r:AV×List Blk}(h:(if a1.Kind=1 then(∃(v:Bool),Zw a1.Atom 0 (w ((a.Atoms.length:Int)-1))=some (Bo v,[])/\(if v=true then(if a1.Order=0 then(¬a1.Atom<0/\(0<=a1.Atom/\(∃(e2:Atom),a.Atoms[a1.Atom.toNat]?=some e2/\(∃(e3:Int),e2.Vars[0]?=some e3/\(some (.tup [.agg [I (shlI 1 a1.Atom),I e3,I (-1),I (-1)],I 0],[])=some r)))))else(some (.tup [.agg [I 0,I 0,I 0,I 0],I (-1)],[])=some r))else(some (.tup [.agg [I 0,I 0,I 0,I 0],I (-1)],[])=some r)))else(if a1.Kind=2 then(if a1.Atom=0 then(if(a3.length:Int)<1 then(some (.tup [.agg [I 0,I 0,I 0,I 0],I (-1)],[])=some r)else(0<=(w ((a3.length:Int)-1))/\(∃(e4:Int),a3[(w ((a3.length:Int)-1)).toNat]?=some e4/\(0<=e4/\(∃(e5:Zg),a2[e4.toNat]?=some e5/\(if e5.Order=a1.Order then(some (.tup [.agg [I 0,I 0,I 0,I 0],I (-1)],[])=some r)else(∃(v1:Int),Zcf a e5.Mask=some (I v1,[])/\(∃(v2:Bool),Zfq v1 a1.Order=some (Bo v2,[])/\(if v2=true then(some (.tup [.agg [I e5.Mask,I a1.Order,I e4,I (-1)],I 1],[])=some r)else(some (.tup [.agg [I 0,I 0,I 0,I 0],I (-1)],[])=some r))))))))))else(some (.tup [.agg [I 0,I 0,I 0,I 0],I (-1)],[])=some r))else(if a1.Kind=3 then(Zin a a1 (⟨0,0,0,0⟩:Zg) a2 a3 (a3.length:Int) a1.Kind true=some r)else(if a1.Kind=4 then(Zin a a1 (⟨0,0,0,0⟩:Zg) a2 a3 (a3.length:Int) a1.Kind true=some r)else(if a1.Kind=5 then(if a1.Atom=0 then(if(a3.length:Int)<2 then(some (.tup [.agg [I 0,I 0,I 0,I 0],I (-1)],[])=some r)else(0<=(w ((a3.length:Int)-2))/\(∃(e8:Int),a3[(w ((a3.length:Int)-2)).toNat]?=some e8/\(0<=e8/\(∃(e9:Zg),a2[e8.toNat]?=some e9/\(0<=(w ((a3.length:Int)-1))/\(∃(e10:Int),a3[(w ((a3.length:Int)-1)).toNat]?=some e10/\(0<=e10/\(∃(e11:Zg),a2[e10.toNat]?=some e11/\(∃(v3:Int),Zcf a e9.Mask=some (I v3,[])/\(∃(v4:Int),Zcf a e11.Mask=some (I v4,[])/\(if(andI e9.Mask e11.Mask)=0 then(if(andI v3 v4)=0 then(some (.tup [.agg [I 0,I 0,I 0,I 0],I (-1)],[])=some r)else(if a1.Order=0 then(Zio a a1 (⟨0,0,0,0⟩:Zg) e9 e11 (⟨(orI e9.Mask e11.Mask),e9.Order,e8,e10⟩:Zg) (andI v3 v4)=some r)else(some (.tup [.agg [I 0,I 0,I 0,I 0],I (-1)],[])=some r)))else(some (.tup [.agg [I 0,I 0,I 0,I 0],I (-1)],[])=some r)))))))))))))else(some (.tup [.agg [I 0,I 0,I 0,I 0],I (-1)],[])=some r))else(some (.tup [.agg [I 0,I 0,I 0,I 0],I (-1)],[])=some r))))))):Zgx a a1 a2 a3=some r:=by
 unfold Zgx;refine run Z7z rfl ?_;simp only[Zw,Zcf,Zfq,Zb.c_def,mpl,dfs]at h
 try simp only[itb]at h
 try simp only[itf,gS,kk]at h
 rcases h with⟨q1,v,q2,(⟨q3,(⟨q4,q5,q6,e2,⟨g7,q7⟩,e3,⟨g8,q8⟩,h⟩|⟨q4,h⟩)⟩|⟨q3,h⟩)⟩|⟨q1,(⟨q9,(⟨q10,(⟨q11,h⟩|⟨q11,q12,e4,⟨g13,q13⟩,q14,e5,⟨g15,q15⟩,(⟨q16,h⟩|⟨q16,v1,q17,v2,q18,(⟨q19,h⟩|⟨q19,h⟩)⟩)⟩)⟩|⟨q10,h⟩)⟩|⟨q9,(⟨q20,h⟩|⟨q20,(⟨q21,h⟩|⟨q21,(⟨q22,(⟨q23,(⟨q24,h⟩|⟨q24,q25,e8,⟨g26,q26⟩,q27,e9,⟨g28,q28⟩,q29,e10,⟨g30,q30⟩,q31,e11,⟨g32,q32⟩,v3,q33,v4,q34,(⟨q35,(⟨q36,h⟩|⟨q36,(⟨q37,h⟩|⟨q37,h⟩)⟩)⟩|⟨q35,h⟩)⟩)⟩|⟨q23,h⟩)⟩|⟨q22,h⟩)⟩)⟩)⟩)⟩
 all_goals (refine Ya ?_ h;clear h;simp +decide[*,kk,tI,tII,Zyx,Zin,Zok,Zio])
theorem Z1e{q:Zb}{p:Plan}{cd:List Zg}{cc:List Int}{i:Int}{r:AV×List Blk}(h:(if i<(p.Steps.length:Int)then(0<=i/\(∃(e1:Zf),p.Steps[i.toNat]?=some e1/\(∃(v:Zg) (v1:Int),Zgx q e1 cd cc=some (.tup [.agg (v.c.map .t),I v1],[])/\(if v1<0 then(some (.tup [.own 0,Bo false],[.arr 140 4 true (([]:List Zg).map Zg.c)])=some r)else(cd.length+1<=68719476736/\(0<=(w ((cc.length:Int)-v1))/\((w ((cc.length:Int)-v1)).toNat<=cc.length/\((w ((cc.length:Int)-v1)).toNat<=68719476736/\((w ((cc.length:Int)-v1)).toNat+1<=68719476736/\(Zip q p (cd++[v]) ((cc.take ((w ((cc.length:Int)-v1)).toNat))++[i]) (w (i+1))=some r))))))))))else(if(cc.length:Int)=1 then(some (.tup [.own 0,Bo true],[.arr 140 4 true (cd.map Zg.c)])=some r)else(some (.tup [.own 0,Bo false],[.arr 140 4 true (([]:List Zg).map Zg.c)])=some r)))):Zip q p cd cc i=some r:=by
 unfold Zip;rw[Zm Zru.eq_1];simp only[Zgx,Zf.c_def,Zb.c_def,Zg.c_def,mpl,dfs]at h
 try simp only[itb]at h
 try simp only[itf,gS,kk]at h
 rcases h with⟨q1,q2,e1,⟨g3,q3⟩,v,v1,q4,(⟨q5,h⟩|⟨q5,q6,q7,q8,q9,q10,h⟩)⟩|⟨q1,(⟨q11,h⟩|⟨q11,h⟩)⟩
 all_goals (refine Ya ?_ h;clear h;simp +decide[*,kk,tI,tII,Zip,Zrv])
theorem Zbah{a:Zb}{a1:Plan}{r:AV×List Blk}(h:(∃(v:Bool),Zdh a=some (Bo v,[])/\(if v=true then(∃(v1:Bool),Zw (a1.Steps.length:Int) 1 14=some (Bo v1,[])/\(if v1=true then(Zip a a1 ([]:List Zg) ([]:List Int) 0=some r)else(some (.tup [.own 0,Bo false],[.arr 140 4 true (([]:List Zg).map Zg.c)])=some r)))else(some (.tup [.own 0,Bo false],[.arr 140 4 true (([]:List Zg).map Zg.c)])=some r)))):Zl3 a a1=some r:=by
 unfold Zl3;refine run Z70 rfl ?_;simp only[Zdh,Zw,Zb.c_def,mpl,dfs]at h
 try simp only[itb]at h
 try simp only[itf,gS,kk]at h
 rcases h with⟨v,q1,(⟨q2,v1,q3,(⟨q4,h⟩|⟨q4,h⟩)⟩|⟨q2,h⟩)⟩
 all_goals (refine Ya ?_ h;clear h;simp +decide[*,kk,tI,tII,Zyy,Zip])
theorem Z1f{a:Zb}{a1:Plan}{r:AV×List Blk}(h:(∃(v:List Zg) (v1:Bool),Zl3 a a1=some (.tup [.own 0,Bo v1],[.arr 140 4 true (v.map Zg.c)])/\(if v1=true then(0<=(w ((v.length:Int)-1))/\(∃(e2:Zg),v[(w ((v.length:Int)-1)).toNat]?=some e2/\(some (I e2.Order,[])=some r)))else(some (I (-1),[])=some r)))):Ziq a a1=some r:=by
 unfold Ziq;refine run Z71 rfl ?_;simp only[Zl3,Plan.c_def,Zb.c_def,mpl,dfs]at h
 try simp only[itb]at h
 try simp only[itf,gS,kk]at h
 rcases h with⟨v,v1,q1,(⟨q2,q3,e2,⟨g4,q4⟩,h⟩|⟨q2,h⟩)⟩
 all_goals (refine Ya ?_ h;clear h;simp +decide[*,kk,tI,tII,Zyz])
theorem Zbai{a:Plan}{a1:Int}{r:AV×List Blk}(h:(a.Steps.length<=68719476736/\(a.Steps.length+1<=68719476736/\(some (.agg [.own 0],[.arr 105 3 true ((a.Steps++[(⟨2,0,a1⟩:Zf)]).map Zf.c)])=some r)))):Zir a a1=some r:=by
 unfold Zir;refine run Z72 rfl ?_;rcases h with⟨q1,q2,h⟩
 all_goals (refine Ya ?_ h;clear h;simp +decide[*,kk,tI,tII,Zy0])
theorem Zhb{x:Za}{a:Zb}{a1:Int}{r:AV×List Blk}(h:(∃(v:List Int),Zim a a1=some (.own 0,[.arr 3 1 true (v.map ic)])/\(if(v.length:Int)=0 then(∃(v1:List Int),Zl0 a1=some (.own 0,[.arr 3 1 true (v1.map ic)])/\(if(v1.length:Int)=0 then(∃(v2:List Zf),Zjn 0=some (.agg [.own 0],[.arr 105 3 true (v2.map Zf.c)])/\(some (.agg [.own 1],[.box (x.c.map .t),.arr 105 3 true (v2.map Zf.c)])=some r))else(∃(e4:Int),v1[0]?=some e4/\(∃(v3:List Zf),Zjn e4=some (.agg [.own 0],[.arr 105 3 true (v3.map Zf.c)])/\(some (.agg [.own 1],[.box (x.c.map .t),.arr 105 3 true (v3.map Zf.c)])=some r)))))else(∃(v4:Za) (v5:Int),Zq x (v.length:Int)=some (I v5,[.box (v4.c.map .t)])/\(0<=v5/\(∃(e7:Int),v[v5.toNat]?=some e7/\(∃(v6:Za) (v7:List Zf),Zgz v4 a e7=some (.agg [.own 1],[.box (v6.c.map .t),.arr 105 3 true (v7.map Zf.c)])/\(∃(v8:Za) (v9:List Zf),Zgz v6 a (w (a1-e7))=some (.agg [.own 1],[.box (v8.c.map .t),.arr 105 3 true (v9.map Zf.c)])/\(∃(v10:Za) (v11:Int),Zq v8 3=some (I v11,[.box (v10.c.map .t)])/\(if v11=0 then(∃(v12:List Zf),Zex (⟨v7⟩:Plan) (⟨v9⟩:Plan) 3 0=some (.agg [.own 0],[.arr 105 3 true (v12.map Zf.c)])/\(some (.agg [.own 1],[.box (v10.c.map .t),.arr 105 3 true (v12.map Zf.c)])=some r))else(if v11=1 then(∃(v13:List Zf),Zex (⟨v7⟩:Plan) (⟨v9⟩:Plan) 5 0=some (.agg [.own 0],[.arr 105 3 true (v13.map Zf.c)])/\(some (.agg [.own 1],[.box (v10.c.map .t),.arr 105 3 true (v13.map Zf.c)])=some r))else(∃(v14:List Int),Zl1 a e7 (w (a1-e7))=some (.own 0,[.arr 3 1 true (v14.map ic)])/\(∃(v15:Za) (v16:Int),Zq v10 (v14.length:Int)=some (I v16,[.box (v15.c.map .t)])/\(0<=v16/\(∃(e15:Int),v14[v16.toNat]?=some e15/\(∃(v17:Int),Ziq a (⟨v7⟩:Plan)=some (I v17,[])/\(if v17=e15 then(∃(v18:Int),Ziq a (⟨v9⟩:Plan)=some (I v18,[])/\(if v18=e15 then(∃(v19:List Zf),Zex (⟨v7⟩:Plan) (⟨v9⟩:Plan) 4 e15=some (.agg [.own 0],[.arr 105 3 true (v19.map Zf.c)])/\(some (.agg [.own 1],[.box (v15.c.map .t),.arr 105 3 true (v19.map Zf.c)])=some r))else(∃(v20:List Zf),Zir (⟨v9⟩:Plan) e15=some (.agg [.own 0],[.arr 105 3 true (v20.map Zf.c)])/\(∃(v21:List Zf),Zex (⟨v7⟩:Plan) (⟨v20⟩:Plan) 4 e15=some (.agg [.own 0],[.arr 105 3 true (v21.map Zf.c)])/\(some (.agg [.own 1],[.box (v15.c.map .t),.arr 105 3 true (v21.map Zf.c)])=some r)))))else(∃(v22:List Zf),Zir (⟨v7⟩:Plan) e15=some (.agg [.own 0],[.arr 105 3 true (v22.map Zf.c)])/\(∃(v23:Int),Ziq a (⟨v9⟩:Plan)=some (I v23,[])/\(if v23=e15 then(∃(v24:List Zf),Zex (⟨v22⟩:Plan) (⟨v9⟩:Plan) 4 e15=some (.agg [.own 0],[.arr 105 3 true (v24.map Zf.c)])/\(some (.agg [.own 1],[.box (v15.c.map .t),.arr 105 3 true (v24.map Zf.c)])=some r))else(∃(v25:List Zf),Zir (⟨v9⟩:Plan) e15=some (.agg [.own 0],[.arr 105 3 true (v25.map Zf.c)])/\(∃(v26:List Zf),Zex (⟨v22⟩:Plan) (⟨v25⟩:Plan) 4 e15=some (.agg [.own 0],[.arr 105 3 true (v26.map Zf.c)])/\(some (.agg [.own 1],[.box (v15.c.map .t),.arr 105 3 true (v26.map Zf.c)])=some r))))))))))))))))))))))):Zgz x a a1=some r:=by
 unfold Zgz;refine runM Z73 rfl ?_;simp only[Zim,Zl0,Zjn,Zq,Zgz,Zex,Zl1,Ziq,Zir,Za.c_def,Plan.c_def,Zb.c_def,mpl,dfs]at h
 try simp only[itb]at h
 try simp only[itf,gS,kk]at h
 rcases h with⟨v,q1,(⟨q2,v1,q3,(⟨q4,v2,q5,h⟩|⟨q4,e4,⟨g6,q6⟩,v3,q7,h⟩)⟩|⟨q2,v4,v5,q8,q9,e7,⟨g10,q10⟩,v6,v7,q11,v8,v9,q12,v10,v11,q13,(⟨q14,v12,q15,h⟩|⟨q14,(⟨q16,v13,q17,h⟩|⟨q16,v14,q18,v15,v16,q19,q20,e15,⟨g21,q21⟩,v17,q22,(⟨q23,v18,q24,(⟨q25,v19,q26,h⟩|⟨q25,v20,q27,v21,q28,h⟩)⟩|⟨q23,v22,q29,v23,q30,(⟨q31,v24,q32,h⟩|⟨q31,v25,q33,v26,q34,h⟩)⟩)⟩)⟩)⟩)⟩
 all_goals (refine Ya ?_ h;clear h;simp +decide[*,kk,tI,tII,Zy3,Zy1,Zy2])
theorem Zmk{x:Za}{r:AV×List Blk}(h:(∃(v:Za) (v1:List Atom) (v2:Int),Zig x=some (.agg [I v2,.own 1],[.box (v.c.map .t),.xarr 116 2 (v1.map Atom.c)])/\(∃(v3:Za) (v4:Int),Zq v 14=some (I v4,[.box (v3.c.map .t)])/\(if v4=0 then(∃(v5:Za) (v6:List Int) (v7:Int),Zbr v3 ([0,5,(w (v2+1)),9223372036854775807])=some (I v7,[.box (v5.c.map .t),.arr 3 1 true (v6.map ic)])/\(some (.agg [I v7,.own 1],[.box (v5.c.map .t),.xarr 116 2 (v1.map Atom.c)])=some r))else(if v4=1 then(∃(v8:Za) (v9:List ByteArray) (v10:ByteArray),Zib v3 ([(⟨#[]⟩:ByteArray),(⟨#[119]⟩:ByteArray),(⟨#[114]⟩:ByteArray)])=some (.t (.str v10),[.box (v8.c.map .t),.arr 9 1 true (v9.map sc)])/\(v1.length+1<=68719476736/\(some (.agg [I v2,.own 1],[.box (v8.c.map .t),.xarr 116 2 ((v1++[(⟨v10,[0]⟩:Atom)]).map Atom.c)])=some r)))else(if v4=2 then(∃(e5:Atom),v1[0]?=some e5/\(some (.agg [I v2,.own 1],[.box (v3.c.map .t),.xarr 116 2 ((v1.set 0 (⟨e5.Name,([]:List Int)⟩:Atom)).map Atom.c)])=some r))else(if v4=3 then(∃(e6:Atom),v1[0]?=some e6/\(∃(y7:Int) (t8:List Int),e6.Vars=y7::t8/\(∃(v11:Za) (v12:List Int) (v13:Int),Zbr v3 ([(-1),4,1])=some (I v13,[.box (v11.c.map .t),.arr 3 1 true (v12.map ic)])/\(∃(e10:Int),(y7::t8)[0]?=some e10/\(some (.agg [I v2,.own 1],[.box (v11.c.map .t),.xarr 116 2 ((v1.set 0 (⟨e6.Name,((y7::t8).set 0 v13)⟩:Atom)).map Atom.c)])=some r)))))else(some (.agg [I v2,.own 1],[.box (v3.c.map .t),.xarr 116 2 (v1.map Atom.c)])=some r)))))))):Zl4 x=some r:=by
 unfold Zl4;refine runM Z74 rfl ?_;simp only[Zig,Zq,Zbr,Zib,Za.c_def,mpl,dfs]at h
 try simp only[itb]at h
 try simp only[itf,gS,kk]at h
 rcases h with⟨v,v1,v2,q1,v3,v4,q2,(⟨q3,v5,v6,v7,q4,h⟩|⟨q3,(⟨q5,v8,v9,v10,q6,q7,h⟩|⟨q5,(⟨q8,e5,⟨g9,q9⟩,h⟩|⟨q8,(⟨q10,e6,⟨g11,q11⟩,y7,t8,q12,v11,v12,v13,q13,e10,⟨g14,q14⟩,h⟩|⟨q10,h⟩)⟩)⟩)⟩)⟩
 all_goals (refine Ya ?_ h;clear h;simp +decide[*,kk,tI,tII,Zy5,Zy4])
end Go.Proofs.Ytdbnflilbkjbhaa
