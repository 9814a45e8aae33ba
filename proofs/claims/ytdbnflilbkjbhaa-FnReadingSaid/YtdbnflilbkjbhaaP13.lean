/-
  Parts of the proofs for this seat: G9 G10.
-/
import Derived.Test.YtdbnflilbkjbhaaP9
set_option linter.unusedSectionVars false
set_option linter.unusedSimpArgs false
set_option linter.unusedVariables false
set_option maxRecDepth 100000
set_option maxHeartbeats 4000000
namespace Go.Proofs.Ytdbnflilbkjbhaa
open Go.AM
theorem Zbaj{x:Za}{r:AV×List Blk}(h:(∃(v:Za) (v1:List Atom) (v2:Int),Zig x=some (.agg [I v2,.own 1],[.box (v.c.map .t),.xarr 116 2 (v1.map Atom.c)])/\(∃(v3:Int),Zij (⟨v2,v1⟩:Zb)=some (I v3,[])/\(∃(v4:Za) (v5:List Zf),Zgz v (⟨v2,v1⟩:Zb) v3=some (.agg [.own 1],[.box (v4.c.map .t),.arr 105 3 true (v5.map Zf.c)])/\(∃(v6:Za) (v7:Int),Zq v4 12=some (I v7,[.box (v6.c.map .t)])/\(if v7=0 then(0<=(w ((v5.length:Int)-1))/\(0<=(w ((v5.length:Int)-1)).toNat/\((w ((v5.length:Int)-1)).toNat<=v5.length/\(some (.tup [.agg [I v2,L 2 (v1.map Atom.c)],.agg [L 3 ((v5.take ((w ((v5.length:Int)-1)).toNat)).map Zf.c)]],[.box (v6.c.map .t)])=some r))))else(if v7=1 then(∃(v8:Za) (v9:Int),Zq v6 (v5.length:Int)=some (I v9,[.box (v8.c.map .t)])/\(∃(v10:Za) (v11:Int),Zq v8 7=some (I v11,[.box (v10.c.map .t)])/\(0<=v9/\(∃(e7:Zf),v5[v9.toNat]?=some e7/\(some (.tup [.agg [I v2,L 2 (v1.map Atom.c)],.agg [L 3 ((v5.set v9.toNat (⟨v11,e7.Atom,e7.Order⟩:Zf)).map Zf.c)]],[.box (v10.c.map .t)])=some r)))))else(if v7=2 then(∃(v12:Za) (v13:Int),Zq v6 (v5.length:Int)=some (I v13,[.box (v12.c.map .t)])/\(∃(v14:Za) (v15:Int),Zq v12 5=some (I v15,[.box (v14.c.map .t)])/\(0<=v13/\(∃(e10:Zf),v5[v13.toNat]?=some e10/\(some (.tup [.agg [I v2,L 2 (v1.map Atom.c)],.agg [L 3 ((v5.set v13.toNat (⟨e10.Kind,e10.Atom,(w (v15-1))⟩:Zf)).map Zf.c)]],[.box (v14.c.map .t)])=some r)))))else(if v7=3 then(∃(v16:Za) (v17:List Int) (v18:Int),Zbr v6 ([(-1),4,1])=some (I v18,[.box (v16.c.map .t),.arr 3 1 true (v17.map ic)])/\(∃(e12:Zf),v5[0]?=some e12/\(some (.tup [.agg [I v2,L 2 (v1.map Atom.c)],.agg [L 3 ((v5.set 0 (⟨e12.Kind,v18,e12.Order⟩:Zf)).map Zf.c)]],[.box (v16.c.map .t)])=some r)))else(if v7=4 then(∃(v19:Za) (v20:List Atom) (v21:Int),Zl4 v6=some (.agg [I v21,.own 1],[.box (v19.c.map .t),.xarr 116 2 (v20.map Atom.c)])/\(some (.tup [.agg [I v21,L 2 (v20.map Atom.c)],.agg [L 3 (v5.map Zf.c)]],[.box (v19.c.map .t)])=some r))else(some (.tup [.agg [I v2,L 2 (v1.map Atom.c)],.agg [L 3 (v5.map Zf.c)]],[.box (v6.c.map .t)])=some r))))))))))):Zis x=some r:=by
 unfold Zis;refine runM Z75 rfl ?_;simp only[Zig,Zij,Zgz,Zq,Zbr,Zl4,Za.c_def,Zb.c_def,mpl,dfs]at h
 try simp only[itb]at h
 try simp only[itf,gS,kk]at h
 rcases h with⟨v,v1,v2,q1,v3,q2,v4,v5,q3,v6,v7,q4,(⟨q5,q6,q7,q8,h⟩|⟨q5,(⟨q9,v8,v9,q10,v10,v11,q11,q12,e7,⟨g13,q13⟩,h⟩|⟨q9,(⟨q14,v12,v13,q15,v14,v15,q16,q17,e10,⟨g18,q18⟩,h⟩|⟨q14,(⟨q19,v16,v17,v18,q20,e12,⟨g21,q21⟩,h⟩|⟨q19,(⟨q22,v19,v20,v21,q23,h⟩|⟨q22,h⟩)⟩)⟩)⟩)⟩)⟩
 all_goals (refine Ya ?_ h;clear h;simp +decide[*,kk,tI,tII,Zy7,Zy6])
theorem Z1g{a:List Int}{r:AV×List Blk}(h:(∃(v:Za),Zht a=some (.ptr 0 0,[.box (v.c.map .t)])/\(∃(v1:Za) (v2:Zj),Zhv v=some (.agg (v2.c.map .t),[.box (v1.c.map .t)])/\(∃(v3:Za) (v4:Bool),Zbm v1 10=some (Bo v4,[.box (v3.c.map .t)])/\(if v4=true then(∃(v5:Za) (v6:Zj),Zhx v3=some (.agg (v6.c.map .t),[.box (v5.c.map .t)])/\(∃(v7:Za) (v8:Zn),Zjm v5=some (.agg (v8.c.map .t),[.box (v7.c.map .t)])/\(∃(v9:Za) (v10:Zb) (v11:Plan),Zis v7=some (.tup [.agg (v10.c.map .t),.agg (v11.c.map .t)],[.box (v9.c.map .t)])/\(some (.tup [.ptr 0 0,.agg (v6.c.map .t),.agg (v8.c.map .t),.agg (v10.c.map .t),.agg (v11.c.map .t)],[.box (v9.c.map .t)])=some r))))else(∃(v12:Za) (v13:Zn),Zjm v3=some (.agg (v13.c.map .t),[.box (v12.c.map .t)])/\(∃(v14:Za) (v15:Zb) (v16:Plan),Zis v12=some (.tup [.agg (v15.c.map .t),.agg (v16.c.map .t)],[.box (v14.c.map .t)])/\(some (.tup [.ptr 0 0,.agg (v2.c.map .t),.agg (v13.c.map .t),.agg (v15.c.map .t),.agg (v16.c.map .t)],[.box (v14.c.map .t)])=some r)))))))):Zl5 a=some r:=by
 unfold Zl5;refine run Z76 rfl ?_;simp only[Zht,Zhv,Zbm,Zhx,Zjm,Zis,Zn.c_def,Za.c_def,Zj.c_def,Zc.c_def,Plan.c_def,Zb.c_def,mpl,dfs]at h
 try simp only[itb]at h
 try simp only[itf,gS,kk]at h
 rcases h with⟨v,q1,v1,v2,q2,v3,v4,q3,(⟨q4,v5,v6,q5,v7,v8,q6,v9,v10,v11,q7,h⟩|⟨q4,v12,v13,q8,v14,v15,v16,q9,h⟩)⟩
 all_goals (refine Ya ?_ h;clear h;simp +decide[*,kk,tI,tII,Zy9,Zy8])
theorem Z1h{x:Za}{a:Zb}{r:AV×List Blk}(h:(∃(v:Za) (v1:Bool),Zbm x 10=some (Bo v1,[.box (v.c.map .t)])/\(if v1=true then(∃(v2:Za) (v3:List Int) (v4:Int),Zbr v ([(-1),0,16,9223372036854775807])=some (I v4,[.box (v2.c.map .t),.arr 3 1 true (v3.map ic)])/\(some (I v4,[.box (v2.c.map .t)])=some r))else(¬(if(a.Atoms.length:Int)<4 then(a.Atoms.length:Int)else 4)<0/\(∃(v5:Za) (v6:Int),Zq v (shlI 1 (if(a.Atoms.length:Int)<4 then(a.Atoms.length:Int)else 4))=some (I v6,[.box (v5.c.map .t)])/\(some (I v6,[.box (v5.c.map .t)])=some r)))))):Zl6 x a=some r:=by
 unfold Zl6;refine runM Z77 rfl ?_;simp only[Zbm,Zbr,Zq,Za.c_def,mpl,dfs]at h
 try simp only[itb]at h
 try simp only[itf,gS,kk]at h
 rcases h with⟨v,v1,q1,(⟨q2,v2,v3,v4,q3,h⟩|⟨q2,q4,v5,v6,q5,h⟩)⟩
 all_goals (refine Ya ?_ h;clear h;simp +decide[*,kk,tI,tII,Zza])
theorem Z1i{c:List Int}{n i:Int}{r:AV×List Blk}(h:(if i<(c.length:Int)then(0<=i/\(∃(e1:Int),c[i.toNat]?=some e1/\(∃(v:Bool),Zw e1 0 9=some (Bo v,[])/\(if v=true then(Zit c n (w (i+1))=some r)else(some (Bo false,[])=some r)))))else(some (Bo (decide ((c.length:Int)=n)),[])=some r))):Zit c n i=some r:=by
 unfold Zit;rw[Zm Zrw.eq_1];simp only[Zw,mpl,dfs]at h
 try simp only[itb]at h
 try simp only[itf,gS,kk]at h
 rcases h with⟨q1,q2,e1,⟨g3,q3⟩,v,q4,(⟨q5,h⟩|⟨q5,h⟩)⟩|⟨q1,h⟩
 all_goals (refine Ya ?_ h;clear h;simp +decide[*,kk,tI,tII,Zit,Zrx])
theorem Zbak{a:List Int}{a1:Int}{r:AV×List Blk}(h:(Zit a a1 0=some r)):Zl7 a a1=some r:=by
 unfold Zl7;refine run Z78 rfl ?_;refine Ya ?_ h;clear h;simp +decide[*,kk,tI,tII,Zzb,Zit]
theorem Z1j{t:Ze}{i:Int}{r:AV×List Blk}(h:(if i<(t.Rows.length:Int)then(0<=i/\(∃(e1:List Int),t.Rows[i.toNat]?=some e1/\(∃(v:Bool),Zl7 e1 t.Arity=some (Bo v,[])/\(if v=true then(if 0<i then(0<=(w (i-1))/\(∃(e3:List Int),t.Rows[(w (i-1)).toNat]?=some e3/\(∃(v1:Int),Zh5 e3 e1=some (I v1,[])/\(if 0<=v1 then(some (Bo false,[])=some r)else(Zg0 t (w (i+1))=some r)))))else(Zg0 t (w (i+1))=some r))else(some (Bo false,[])=some r)))))else(some (Bo true,[])=some r))):Zg0 t i=some r:=by
 unfold Zg0;rw[Zm Zry.eq_1];simp only[Zl7,Zh5,mpl,dfs]at h
 try simp only[itb]at h
 try simp only[itf,gS,kk]at h
 rcases h with⟨q1,q2,e1,⟨g3,q3⟩,v,q4,(⟨q5,(⟨q6,q7,e3,⟨g8,q8⟩,v1,q9,(⟨q10,h⟩|⟨q10,h⟩)⟩|⟨q6,h⟩)⟩|⟨q5,h⟩)⟩|⟨q1,h⟩
 all_goals (refine Ya ?_ h;clear h;simp +decide[*,kk,tI,tII,Zg0,Zrz])
theorem Zbal{a:Ze}{r:AV×List Blk}(h:(∃(v:Bool),Zic a.Name=some (Bo v,[])/\(if v=true then(∃(v1:Bool),Zw a.Arity 1 3=some (Bo v1,[])/\(if v1=true then(if 8<(a.Rows.length:Int)then(some (Bo false,[])=some r)else(Zg0 a 0=some r))else(some (Bo false,[])=some r)))else(some (Bo false,[])=some r)))):Zl8 a=some r:=by
 unfold Zl8;refine run Z79 rfl ?_;simp only[Zic,Zw,mpl,dfs]at h
 try simp only[itb]at h
 try simp only[itf,gS,kk]at h
 rcases h with⟨v,q1,(⟨q2,v1,q3,(⟨q4,(⟨q5,h⟩|⟨q5,h⟩)⟩|⟨q4,h⟩)⟩|⟨q2,h⟩)⟩
 all_goals (refine Ya ?_ h;clear h;simp +decide[*,kk,tI,tII,Zzc,Zg0])
theorem Z1k{d:Zn}{i:Int}{r:AV×List Blk}(h:(if i<(d.Tables.length:Int)then(0<=i/\(∃(e1:Ze),d.Tables[i.toNat]?=some e1/\(∃(v:Bool),Zl8 e1=some (Bo v,[])/\(if v=true then(if 0<i then(0<=(w (i-1))/\(∃(e3:Ze),d.Tables[(w (i-1)).toNat]?=some e3/\(if(Op.bytesLess e3.Name.toList e1.Name.toList)=true then(Zg1 d (w (i+1))=some r)else(some (Bo false,[])=some r))))else(Zg1 d (w (i+1))=some r))else(some (Bo false,[])=some r)))))else(some (Bo (decide ((d.Tables.length:Int)<=6)),[])=some r))):Zg1 d i=some r:=by
 unfold Zg1;rw[Zm Zr0.eq_1];simp only[Zl8,Ze.c_def,mpl,dfs]at h
 try simp only[itb]at h
 try simp only[itf,gS,kk]at h
 rcases h with⟨q1,q2,e1,⟨g3,q3⟩,v,q4,(⟨q5,(⟨q6,q7,e3,⟨g8,q8⟩,(⟨q9,h⟩|⟨q9,h⟩)⟩|⟨q6,h⟩)⟩|⟨q5,h⟩)⟩|⟨q1,h⟩
 all_goals (refine Ya ?_ h;clear h;simp +decide[*,kk,tI,tII,Zg1,Zr1])
theorem Zbam{a:Zn}{r:AV×List Blk}(h:(Zg1 a 0=some r)):Zl9 a=some r:=by
 unfold Zl9;refine run Z8a rfl ?_;refine Ya ?_ h;clear h;simp +decide[*,kk,tI,tII,Zzd,Zg1]
theorem Zban{t:Ze}{cl:ByteArray}{cd:Int}{cc:ByteArray}{c i:Int}{r:AV×List Blk}(h:(if i<(t.Rows.length:Int)then(0<=i/\(∃(e1:List Int),t.Rows[i.toNat]?=some e1/\(e1.length<=68719476736/\(Ziu t cl cd cc c ([e1]) (w (i+1))=some r))))else(some (.agg [.t (.str cc),I c,.t .nil],[])=some r))):Zol t cl cd cc c i=some r:=by
 unfold Zol;rw[Zm Zma.eq_1]
 try simp only[itb]at h
 try simp only[itf,gS,kk]at h
 rcases h with⟨q1,q2,e1,⟨g3,q3⟩,q4,h⟩|⟨q1,h⟩
 all_goals (refine Ya ?_ h;clear h;simp +decide[*,kk,tI,tII,Ziu,Zmb])
theorem Z1l{t:Ze}{cl:ByteArray}{cd:Int}{cc:ByteArray}{c:Int}{x:List (List Int)}{i:Int}{r:AV×List Blk}(h:(if i<(t.Rows.length:Int)then(0<=i/\(∃(e1:List Int),t.Rows[i.toNat]?=some e1/\(e1.length<=68719476736/\(x.length+1<=68719476736/\(Ziu t cl cd cc c (x++[e1]) (w (i+1))=some r)))))else(some (.agg [.t (.str cc),I c,.own 0],[.arr 49 1 true (x.map isc)])=some r))):Ziu t cl cd cc c x i=some r:=by
 unfold Ziu;rw[Zm Zma.eq_1]
 try simp only[itb]at h
 try simp only[itf,gS,kk]at h
 rcases h with⟨q1,q2,e1,⟨g3,q3⟩,q4,q5,h⟩|⟨q1,h⟩
 all_goals (refine Ya ?_ h;clear h;simp +decide[*,kk,tI,tII,Ziu,Zmb])
theorem Zbao{a:Ze}{r:AV×List Blk}(h:(Zol a (⟨#[]⟩:ByteArray) 0 a.Name a.Arity 0=some r)):Zjo a=some r:=by
 unfold Zjo;refine run Z8b rfl ?_;refine Ya ?_ h;clear h;simp +decide[*,kk,tI,tII,Zze,Zol]
theorem Z1m{d:Zn}{cd:ByteArray}{cc:Int}{c:ByteArray}{i:Int}{r:AV×List Blk}(h:(if i<(d.Tables.length:Int)then(∃(v:Bool),Zl9 d=some (Bo v,[])/\(if v=true then(0<=i/\(∃(e2:Ze),d.Tables[i.toNat]?=some e2/\(if e2.Name=c then((∃(v1:ByteArray) (v2:Int),Zjo e2=some (.agg [.t (.str v1),I v2,.t .nil],[])/\(some (.tup [.agg [.t (.str v1),I v2,.t .nil],Bo true],[])=some r))\/(∃(v3:List (List Int)) (v4:ByteArray) (v5:Int),Zjo e2=some (.agg [.t (.str v4),I v5,.own 0],[.arr 49 1 true (v3.map isc)])/\(some (.tup [.agg [.t (.str v4),I v5,.own 0],Bo true],[.arr 49 1 true (v3.map isc)])=some r)))else(Ziv d cd cc c (w (i+1))=some r))))else(some (.tup [.agg [.t (.str (⟨#[]⟩:ByteArray)),I 0,.t .nil],Bo false],[])=some r)))else(some (.tup [.agg [.t (.str (⟨#[]⟩:ByteArray)),I 0,.t .nil],Bo false],[])=some r))):Ziv d cd cc c i=some r:=by
 unfold Ziv;rw[Zm Zr2.eq_1];simp only[Zl9,Zjo,Zn.c_def,Ze.c_def,mpl,dfs]at h
 try simp only[itb]at h
 try simp only[itf,gS,kk]at h
 rcases h with⟨q1,v,q2,(⟨q3,q4,e2,⟨g5,q5⟩,(⟨q6,(⟨v1,v2,q8,h⟩|⟨v3,v4,v5,q9,h⟩)⟩|⟨q6,h⟩)⟩|⟨q3,h⟩)⟩|⟨q1,h⟩
 all_goals (refine Ya ?_ h;clear h;simp +decide[*,kk,tI,tII,Ziv,Zr3])
theorem Zbap{a:Zn}{a1:ByteArray}{r:AV×List Blk}(h:(Ziv a (⟨#[]⟩:ByteArray) 0 a1 0=some r)):Zfr a a1=some r:=by
 unfold Zfr;refine run Z8c rfl ?_;refine Ya ?_ h;clear h;simp +decide[*,kk,tI,tII,Zzf,Ziv]
theorem Z1n{d:Zn}{q:Zb}{i:Int}{r:AV×List Blk}(h:(if i<(q.Atoms.length:Int)then(0<=i/\(∃(e1:Atom),q.Atoms[i.toNat]?=some e1/\((∃(v:ByteArray) (v1:Int) (v2:Bool),Zfr d e1.Name=some (.tup [.agg [.t (.str v),I v1,.t .nil],Bo v2],[])/\(if v2=true then(if v1=(e1.Vars.length:Int)then(Zg2 d q (w (i+1))=some r)else(some (Bo false,[])=some r))else(some (Bo false,[])=some r)))\/(∃(v3:List (List Int)) (v4:ByteArray) (v5:Int),Zfr d e1.Name=some (.tup [.agg [.t (.str v4),I v5,.own 0],Bo true],[.arr 49 1 true (v3.map isc)])/\(if v5=(e1.Vars.length:Int)then(Zg2 d q (w (i+1))=some r)else(some (Bo false,[])=some r))))))else(some (Bo true,[])=some r))):Zg2 d q i=some r:=by
 unfold Zg2;rw[Zm Zr4.eq_1];simp only[Zfr,Zn.c_def,mpl,dfs]at h
 try simp only[itb]at h
 try simp only[itf,gS,kk]at h
 rcases h with⟨q1,q2,e1,⟨g3,q3⟩,(⟨v,v1,v2,q5,(⟨q6,(⟨q7,h⟩|⟨q7,h⟩)⟩|⟨q6,h⟩)⟩|⟨v3,v4,v5,q8,(⟨q9,h⟩|⟨q9,h⟩)⟩)⟩|⟨q1,h⟩
 all_goals (refine Ya ?_ h;clear h;simp +decide[*,kk,tI,tII,Zg2,Zr5])
theorem Zbaq{a:Zn}{a1:Zb}{r:AV×List Blk}(h:(∃(v:Bool),Zdh a1=some (Bo v,[])/\(if v=true then(Zg2 a a1 0=some r)else(some (Bo false,[])=some r)))):Zmc a a1=some r:=by
 unfold Zmc;refine run Z8d rfl ?_;simp only[Zdh,Zb.c_def,mpl,dfs]at h
 try simp only[itb]at h
 try simp only[itf,gS,kk]at h
 rcases h with⟨v,q1,(⟨q2,h⟩|⟨q2,h⟩)⟩
 all_goals (refine Ya ?_ h;clear h;simp +decide[*,kk,tI,tII,Zzg,Zg2])
theorem Z1o{t:Ze}{a:Atom}{c cc:List Int}{i:Int}{r:AV×List Blk}(h:(if i<(t.Rows.length:Int)then(Zg4 t a c cc i true 0=some r)else(some (Bo false,[])=some r))):Zg3 t a c cc i=some r:=by
 unfold Zg3;rw[Zm Zmd.eq_1]
 try simp only[itb]at h
 try simp only[itf,gS,kk]at h
 rcases h with⟨q1,h⟩|⟨q1,h⟩
 all_goals (refine Ya ?_ h;clear h;simp +decide[*,kk,tI,tII,Zg4,Zme])
theorem Z1p{t:Ze}{a:Atom}{c cc:List Int}{i:Int}{is:Bool}{k:Int}{r:AV×List Blk}(h:(if k<(a.Vars.length:Int)then(Zfs t a c cc i is k 0=some r)else(if is=true then(some (Bo true,[])=some r)else(Zg3 t a c cc (w (i+1))=some r)))):Zg4 t a c cc i is k=some r:=by
 unfold Zg4;rw[Zm Zom.eq_1]
 try simp only[itb]at h
 try simp only[itf,gS,kk]at h
 rcases h with⟨q1,h⟩|⟨q1,(⟨q2,h⟩|⟨q2,h⟩)⟩
 all_goals (refine Ya ?_ h;clear h;simp +decide[*,kk,tI,tII,Zfs,Zon,Zg3,Zoo])
theorem Z1q{t:Ze}{a:Atom}{c cc:List Int}{i:Int}{is:Bool}{k j:Int}{r:AV×List Blk}(h:(if j<(cc.length:Int)then(if is=true then(0<=j/\(∃(e1:Int),c[j.toNat]?=some e1/\(0<=k/\(∃(e2:Int),a.Vars[k.toNat]?=some e2/\(if e1=e2 then(∃(e3:Int),cc[j.toNat]?=some e3/\(0<=i/\(∃(e4:List Int),t.Rows[i.toNat]?=some e4/\(∃(e5:Int),e4[k.toNat]?=some e5/\(Zfs t a c cc i (decide (e3=e5)) k (w (j+1))=some r)))))else(Zfs t a c cc i true k (w (j+1))=some r))))))else(Zfs t a c cc i false k (w (j+1))=some r))else(Zg4 t a c cc i is (w (k+1))=some r))):Zfs t a c cc i is k j=some r:=by
 unfold Zfs;rw[Zm Zr6.eq_1]
 try simp only[itb]at h
 try simp only[itf,gS,kk]at h
 rcases h with⟨q1,(⟨q2,q3,e1,⟨g4,q4⟩,q5,e2,⟨g6,q6⟩,(⟨q7,e3,⟨g8,q8⟩,q9,e4,⟨g10,q10⟩,e5,⟨g11,q11⟩,h⟩|⟨q7,h⟩)⟩|⟨q2,h⟩)⟩|⟨q1,h⟩
 all_goals (refine Ya ?_ h;clear h;simp +decide[*,kk,tI,tII,Zfs,Zg4,Zr7])
theorem Zbar{a:Ze}{a1:Atom}{a2 a3:List Int}{r:AV×List Blk}(h:(Zg3 a a1 a2 a3 0=some r)):Zmf a a1 a2 a3=some r:=by
 unfold Zmf;refine run Z8e rfl ?_;refine Ya ?_ h;clear h;simp +decide[*,kk,tI,tII,Zzh,Zg3]
theorem Zml{l:List Ze}{fr:Bool}{cc:List Atom}{cd cl:List Int}{i:Int}{r:AV×List Blk}(h:(if i<(l.length:Int)then(0<=i/\(∃(e1:Ze),l[i.toNat]?=some e1/\(∃(e2:Atom),cc[i.toNat]?=some e2/\(∃(v:Bool),Zmf e1 e2 cd cl=some (Bo v,[])/\(if v=true then(Zg5 l fr cc cd cl (w (i+1))=some r)else(some (.own 4,[.arr 99 3 true (l.map Ze.c),.arr 116 2 fr (cc.map Atom.c),.arr 3 1 true (cd.map ic),.arr 3 1 true (cl.map ic),.arr 49 1 true (([]:List (List Int)).map isc)])=some r))))))else(if(cl.length:Int)=(cd.length:Int)then(cl.length<=68719476736/\(some (.own 4,[.arr 99 3 true (l.map Ze.c),.arr 116 2 fr (cc.map Atom.c),.arr 3 1 true (cd.map ic),.arr 3 1 true (cl.map ic),.arr 49 1 true (([cl]).map isc)])=some r))else(Zg6 l fr cc cd cl true ([]:List (List Int)) 0=some r)))):Zg5 l fr cc cd cl i=some r:=by
 unfold Zg5;rw[Zm Zr8.eq_1];simp only[Zmf,Atom.c_def,Ze.c_def,mpl,dfs]at h
 try simp only[itb]at h
 try simp only[itf,gS,kk]at h
 rcases h with⟨q1,q2,e1,⟨g3,q3⟩,e2,⟨g4,q4⟩,v,q5,(⟨q6,h⟩|⟨q6,h⟩)⟩|⟨q1,(⟨q7,q8,h⟩|⟨q7,h⟩)⟩
 all_goals (refine Ya ?_ h;clear h;simp +decide[*,kk,tI,tII,Zg5,Zsb,Zg6])
theorem Z1r{l:List Ze}{fr:Bool}{cd:List Atom}{cn cc:List Int}{co:Bool}{cl:List (List Int)}{v:Int}{r:AV×List Blk}(h:(if v<=9 then(cc.length<=68719476736/\(cc.length+1<=68719476736/\((∃(v1:List Ze) (v2:Bool) (v3:List Atom) (v4:List Int) (v5:List Int) (v6:List (List Int)),Zft l fr cd cn (cc++[v])=some (.own 4,[.arr 99 3 true (v1.map Ze.c),.arr 116 2 v2 (v3.map Atom.c),.arr 3 1 true (v4.map ic),.arr 3 1 true (v5.map ic),.arr 49 1 true (v6.map isc)])/\(cl.length+v6.length<=68719476736/\(Zg6 v1 v2 v3 v4 cc (co && flat (v6.map isc)) (cl++v6) (w (v+1))=some r)))\/(∃(v7:List Ze) (v8:Bool) (v9:List Atom) (v10:List Int) (v11:List Int) (v12:Bool) (v13:List (List Int)),Zft l fr cd cn (cc++[v])=some (.own 4,[.arr 99 3 true (v7.map Ze.c),.arr 116 2 v8 (v9.map Atom.c),.arr 3 1 true (v10.map ic),.arr 3 1 true (v11.map ic),.arr 49 1 v12 (v13.map isc)])/\(cl.length+v13.length<=68719476736/\(Zg6 v7 v8 v9 v10 cc (co && flat (v13.map isc)) (cl++v13) (w (v+1))=some r))))))else(some (.own 4,[.arr 99 3 true (l.map Ze.c),.arr 116 2 fr (cd.map Atom.c),.arr 3 1 true (cn.map ic),.arr 3 1 true (cc.map ic),.arr 49 1 co (cl.map isc)])=some r))):Zg6 l fr cd cn cc co cl v=some r:=by
 unfold Zg6;rw[Zm Zr9.eq_1];simp only[Zft,Atom.c_def,Ze.c_def,mpl,dfs]at h
 try simp only[itb]at h
 try simp only[itf,gS,kk]at h
 rcases h with⟨q1,q2,q3,(⟨v1,v2,v3,v4,v5,v6,q5,q6,h⟩|⟨v7,v8,v9,v10,v11,v12,v13,q7,q8,h⟩)⟩|⟨q1,h⟩
 all_goals (refine Ya ?_ h;clear h;simp +decide[*,kk,tI,tII,Zg6,Zsa])
theorem Z1s{x:List Ze}{fr:Bool}{x1:List Atom}{x2 x3:List Int}{r:AV×List Blk}(h:(Zg5 x fr x1 x2 x3 0=some r)):Zft x fr x1 x2 x3=some r:=by
 unfold Zft;refine runM Z8f rfl ?_;refine Ya ?_ h;clear h;simp +decide[*,kk,tI,tII,Zzi,Zg5]
theorem Zsv{d:Zn}{q:Zb}{l:List Ze}{fr:Bool}{cc:List Atom}{cd i:Int}{r:AV×List Blk}(h:(if i<(q.Atoms.length:Int)then(¬i<0/\(if(andI (shrI cd i) 1)=1 then(0<=i/\(∃(e1:Atom),q.Atoms[i.toNat]?=some e1/\((∃(v:ByteArray) (v1:Int) (v2:Bool),Zfr d e1.Name=some (.tup [.agg [.t (.str v),I v1,.t .nil],Bo v2],[])/\(l.length+1<=68719476736/\(cc.length+1<=68719476736/\(Zfu d q (l++[(⟨v,v1,[]⟩:Ze)]) false (cc++[e1]) cd (w (i+1))=some r))))\/(∃(v3:List (List Int)) (v4:ByteArray) (v5:Int),Zfr d e1.Name=some (.tup [.agg [.t (.str v4),I v5,.own 0],Bo true],[.arr 49 1 true (v3.map isc)])/\(l.length+1<=68719476736/\(cc.length+1<=68719476736/\(Zfu d q (l++[(⟨v4,v5,v3⟩:Ze)]) false (cc++[e1]) cd (w (i+1))=some r)))))))else(Zfu d q l fr cc cd (w (i+1))=some r)))else(∃(v6:List Int),Zgv q cd=some (.own 0,[.arr 3 1 true (v6.map ic)])/\((∃(v7:List Ze) (v8:Bool) (v9:List Atom) (v10:List Int) (v11:List Int) (v12:List (List Int)),Zft l fr cc v6 ([]:List Int)=some (.own 4,[.arr 99 3 true (v7.map Ze.c),.arr 116 2 v8 (v9.map Atom.c),.arr 3 1 true (v10.map ic),.arr 3 1 true (v11.map ic),.arr 49 1 true (v12.map isc)])/\(some (.tup [.agg [.own 0,.own 1],Bo true],[.arr 3 1 true (v10.map ic),.arr 49 1 true (v12.map isc)])=some r))\/(∃(v13:List Ze) (v14:Bool) (v15:List Atom) (v16:List Int) (v17:List Int) (v18:Bool) (v19:List (List Int)),Zft l fr cc v6 ([]:List Int)=some (.own 4,[.arr 99 3 true (v13.map Ze.c),.arr 116 2 v14 (v15.map Atom.c),.arr 3 1 true (v16.map ic),.arr 3 1 true (v17.map ic),.arr 49 1 v18 (v19.map isc)])/\(some (.tup [.agg [.own 0,.own 1],Bo true],[.arr 3 1 true (v16.map ic),.arr 49 1 v18 (v19.map isc)])=some r)))))):Zfu d q l fr cc cd i=some r:=by
 unfold Zfu;rw[Zm Zsc.eq_1];simp only[Zfr,Zgv,Zft,Atom.c_def,Zn.c_def,Zb.c_def,Ze.c_def,mpl,dfs]at h
 try simp only[itb]at h
 try simp only[itf,gS,kk]at h
 rcases h with⟨q1,q2,(⟨q3,q4,e1,⟨g5,q5⟩,(⟨v,v1,v2,q7,q8,q9,h⟩|⟨v3,v4,v5,q10,q11,q12,h⟩)⟩|⟨q3,h⟩)⟩|⟨q1,v6,q13,(⟨v7,v8,v9,v10,v11,v12,q15,h⟩|⟨v13,v14,v15,v16,v17,v18,v19,q16,h⟩)⟩
 all_goals (refine Ya ?_ h;clear h;simp +decide[*,kk,tI,tII,Zfu,Zzj,Zsd])
theorem Zsw{a:Zn}{a1:Zb}{a2:Int}{r:AV×List Blk}(h:(∃(v:Bool),Zmc a a1=some (Bo v,[])/\(if v=true then(∃(v1:Int),Zij a1=some (I v1,[])/\(∃(v2:Bool),Zw a2 1 v1=some (Bo v2,[])/\(if v2=true then(Zfu a a1 ([]:List Ze) true ([]:List Atom) a2 0=some r)else(some (.tup [.agg [.t .nil,.t .nil],Bo false],[])=some r))))else(some (.tup [.agg [.t .nil,.t .nil],Bo false],[])=some r)))):Zg7 a a1 a2=some r:=by
 unfold Zg7;refine run Z8g rfl ?_;simp only[Zmc,Zij,Zw,Zn.c_def,Zb.c_def,mpl,dfs]at h
 try simp only[itb]at h
 try simp only[itf,gS,kk]at h
 rcases h with⟨v,q1,(⟨q2,v1,q3,v2,q4,(⟨q5,h⟩|⟨q5,h⟩)⟩|⟨q2,h⟩)⟩
 all_goals (refine Ya ?_ h;clear h;simp +decide[*,kk,tI,tII,Zzk,Zfu])
theorem Z1t{a:Zn}{a1:Zb}{a2:Int}{r:AV×List Blk}(h:((Zg7 a a1 a2=some (.tup [.agg [.t .nil,.t .nil],Bo false],[])/\(some (I (-1),[])=some r))\/(∃(v:List Int) (v1:List (List Int)),Zg7 a a1 a2=some (.tup [.agg [.own 0,.own 1],Bo true],[.arr 3 1 true (v.map ic),.arr 49 1 true (v1.map isc)])/\(some (I (v1.length:Int),[])=some r))\/(∃(v2:List Int) (v3:Bool) (v4:List (List Int)),Zg7 a a1 a2=some (.tup [.agg [.own 0,.own 1],Bo true],[.arr 3 1 true (v2.map ic),.arr 49 1 v3 (v4.map isc)])/\(some (I (v4.length:Int),[])=some r)))):Ziw a a1 a2=some r:=by
 unfold Ziw;refine run Z8h rfl ?_;simp only[Zg7,Zn.c_def,Zb.c_def,mpl,dfs]at h;rcases h with⟨q2,h⟩|⟨v,v1,q3,h⟩|⟨v2,v3,v4,q4,h⟩
 all_goals (refine Ya ?_ h;clear h;simp +decide[*,kk,tI,tII,Zzl])
theorem Zbas{x:Za}{a:List Int}{r:AV×List Blk}(h:(∃(v:Za) (v1:Int),Zq x (a.length:Int)=some (I v1,[.box (v.c.map .t)])/\(0<=v1/\(∃(e2:Int),a[v1.toNat]?=some e2/\(some (I e2,[.box (v.c.map .t)])=some r))))):Zmg x a=some r:=by
 unfold Zmg;refine runM Zzy rfl ?_;simp only[Zq,Za.c_def,mpl,dfs]at h
 try simp only[itb]at h
 try simp only[itf,gS,kk]at h
 rcases h with⟨v,v1,q1,q2,e2,⟨g3,q3⟩,h⟩
 all_goals (refine Ya ?_ h;clear h;simp +decide[*,kk,tI,tII,Zqb])
theorem Z1u{x:Kept}{cc l:List Kept}{cd:Bool}{i:Int}{r:AV×List Blk}(h:(if i<(l.length:Int)then(if cd=true then(0<=i/\(∃(e1:Kept),l[i.toNat]?=some e1/\(if e1.Mask=x.Mask then(Zdw x cc l true (w (i+1))=some r)else(cc.length+1<=68719476736/\(Zdw x (cc++[e1]) l true (w (i+1))=some r)))))else(0<=i/\(∃(e2:Kept),l[i.toNat]?=some e2/\(if x.Mask<=e2.Mask then(cc.length+1<=68719476736/\(if e2.Mask=x.Mask then(Zdw x (cc++[x]) l true (w (i+1))=some r)else(cc.length+1+1<=68719476736/\(Zdw x ((cc++[x])++[e2]) l true (w (i+1))=some r))))else(if e2.Mask=x.Mask then(Zdw x cc l false (w (i+1))=some r)else(cc.length+1<=68719476736/\(Zdw x (cc++[e2]) l false (w (i+1))=some r)))))))else(if cd=true then(some (.own 0,[.arr 40 2 true (cc.map Kept.c)])=some r)else(cc.length+1<=68719476736/\(some (.own 0,[.arr 40 2 true ((cc++[x]).map Kept.c)])=some r))))):Zdw x cc l cd i=some r:=by
 unfold Zdw;rw[Zm Zse.eq_1]
 try simp only[itb]at h
 try simp only[itf,gS,kk]at h
 rcases h with⟨q1,(⟨q2,q3,e1,⟨g4,q4⟩,(⟨q5,h⟩|⟨q5,q6,h⟩)⟩|⟨q2,q7,e2,⟨g8,q8⟩,(⟨q9,q10,(⟨q11,h⟩|⟨q11,q12,h⟩)⟩|⟨q9,(⟨q13,h⟩|⟨q13,q14,h⟩)⟩)⟩)⟩|⟨q1,(⟨q15,h⟩|⟨q15,q16,h⟩)⟩
 all_goals (refine Ya ?_ h;clear h;simp +decide[*,kk,tI,tII,Zdw,Zzm,Zzn,Zsf])
theorem Zbat{a:List Kept}{a1:Kept}{r:AV×List Blk}(h:(Zdw a1 ([]:List Kept) a false 0=some r)):Zjp a a1=some r:=by
 unfold Zjp;refine run Z8i rfl ?_;refine Ya ?_ h;clear h;simp +decide[*,kk,tI,tII,Zzo,Zdw]
theorem Zsx{c:Za}{d:Zn}{q:Zb}{l:List Kept}{k:Int}{r:AV×List Blk}(h:(if 0<k then(∃(v:Za) (v1:Int),Zl6 c q=some (I v1,[.box (v.c.map .t)])/\(∃(v2:Int),Ziw d q v1=some (I v2,[])/\(∃(v3:Za) (v4:Bool),Zbm v 8=some (Bo v4,[.box (v3.c.map .t)])/\(if v4=true then(∃(v5:Za) (v6:Int),Zmg v3 ([(-1),0,3,4097])=some (I v6,[.box (v5.c.map .t)])/\(∃(v7:List Kept),Zjp l (⟨v1,v6⟩:Kept)=some (.own 0,[.arr 40 2 true (v7.map Kept.c)])/\(Zg8 v5 d q v7 (w (k-1))=some r)))else(∃(v8:List Kept),Zjp l (⟨v1,v2⟩:Kept)=some (.own 0,[.arr 40 2 true (v8.map Kept.c)])/\(Zg8 v3 d q v8 (w (k-1))=some r))))))else(some (L 2 (l.map Kept.c),[.box (c.c.map .t)])=some r))):Zg8 c d q l k=some r:=by
 unfold Zg8;rw[Zm Zsg.eq_1];simp only[Zl6,Ziw,Zbm,Zmg,Zjp,Zn.c_def,Kept.c_def,Za.c_def,Zb.c_def,mpl,dfs]at h
 try simp only[itb]at h
 try simp only[itf,gS,kk]at h
 rcases h with⟨q1,v,v1,q2,v2,q3,v3,v4,q4,(⟨q5,v5,v6,q6,v7,q7,h⟩|⟨q5,v8,q8,h⟩)⟩|⟨q1,h⟩
 all_goals (refine Ya ?_ h;clear h;simp +decide[*,kk,tI,tII,Zg8,Zzp,Zsh])
theorem Zbau{x:Za}{a:Zn}{a1:Zb}{r:AV×List Blk}(h:(∃(v:Za) (v1:Int),Zq x 4=some (I v1,[.box (v.c.map .t)])/\(Zg8 v a a1 ([]:List Kept) v1=some r))):Zmh x a a1=some r:=by
 unfold Zmh;refine runM Z8j rfl ?_;simp only[Zq,Za.c_def,mpl,dfs]at h;rcases h with⟨v,v1,q1,h⟩
 all_goals (refine Ya ?_ h;clear h;simp +decide[*,kk,tI,tII,Zzq,Zg8])
theorem Zbav{a:List Int}{r:AV×List Blk}(h:(∃(v:Za) (v1:Zj) (v2:Zn) (v3:Zb) (v4:Plan),Zl5 a=some (.tup [.ptr 0 0,.agg (v1.c.map .t),.agg (v2.c.map .t),.agg (v3.c.map .t),.agg (v4.c.map .t)],[.box (v.c.map .t)])/\(∃(v5:Za) (v6:List Kept),Zmh v v2 v3=some (L 2 (v6.map Kept.c),[.box (v5.c.map .t)])/\(∃(v7:Za) (v8:Int),Zq v5 9=some (I v8,[.box (v7.c.map .t)])/\(∃(v9:Za) (v10:Int),Zq v7 20=some (I v10,[.box (v9.c.map .t)])/\(some (.tup [L 2 (v6.map Kept.c),.agg [I v8,I v10]],[])=some r)))))):Zjq a=some r:=by
 unfold Zjq;refine run Z8k rfl ?_;simp only[Zl5,Zmh,Zq,Zn.c_def,Za.c_def,Zj.c_def,Zc.c_def,Plan.c_def,Zb.c_def,mpl,dfs]at h;rcases h with⟨v,v1,v2,v3,v4,q1,v5,v6,q2,v7,v8,q3,v9,v10,q4,h⟩
 all_goals (refine Ya ?_ h;clear h;simp +decide[*,kk,tI,tII,Zzr])
theorem Z1v{x:Kept}{cc:List Kept}{done:Bool}{x1:List Kept}{x2 x3:Int}{r:AV×List Blk}(h:(if x3<x2 then(0<=x3/\(∃(e1:Kept),x1[x3.toNat]?=some e1/\(if done=true then(if e1.Mask=x.Mask then(Zdx x cc true x1 x2 (w (x3+1))=some r)else(cc.length+1<=68719476736/\(Zdx x (cc++[e1]) true x1 x2 (w (x3+1))=some r)))else(if x.Mask<=e1.Mask then(cc.length+1<=68719476736/\(if e1.Mask=x.Mask then(Zdx x (cc++[x]) true x1 x2 (w (x3+1))=some r)else(cc.length+1+1<=68719476736/\(Zdx x ((cc++[x])++[e1]) true x1 x2 (w (x3+1))=some r))))else(if e1.Mask=x.Mask then(Zdx x cc false x1 x2 (w (x3+1))=some r)else(cc.length+1<=68719476736/\(Zdx x (cc++[e1]) false x1 x2 (w (x3+1))=some r)))))))else(if done=true then(some (.own 0,[.arr 40 2 true (cc.map Kept.c)])=some r)else(cc.length+1<=68719476736/\(some (.own 0,[.arr 40 2 true ((cc++[x]).map Kept.c)])=some r))))):Zdx x cc done x1 x2 x3=some r:=by
 unfold Zdx;rw[Zm Zsi.eq_1]
 try simp only[itb]at h
 try simp only[itf,gS,kk]at h
 rcases h with⟨q1,q2,e1,⟨g3,q3⟩,(⟨q4,(⟨q5,h⟩|⟨q5,q6,h⟩)⟩|⟨q4,(⟨q7,q8,(⟨q9,h⟩|⟨q9,q10,h⟩)⟩|⟨q7,(⟨q11,h⟩|⟨q11,q12,h⟩)⟩)⟩)⟩|⟨q1,(⟨q13,h⟩|⟨q13,q14,h⟩)⟩
 all_goals (refine Ya ?_ h;clear h;simp +decide[*,kk,tI,tII,Zdx,Zzs,Zzt,Zsj])
theorem Zbaw{a:List Kept}{a1:Kept}{r:AV×List Blk}(h:(Zdx a1 ([]:List Kept) false a (a.length:Int) 0=some r)):Zjr a a1=some r:=by
 unfold Zjr;refine run Z8l rfl ?_;refine Ya ?_ h;clear h;simp +decide[*,kk,tI,tII,Zzu,Zdx]
theorem Z1w{x:Kept}{y:List Kept}{c:Bool}{i:Int}{r:AV×List Blk}(h:(if i<(y.length:Int)then(if 0<i then(0<=(w (i-1))/\(∃(e1:Kept),y[(w (i-1)).toNat]?=some e1/\(0<=i/\(∃(e2:Kept),y[i.toNat]?=some e2/\(if e2.Mask<=e1.Mask then(some (Bo false,[])=some r)else(if c=true then(Zei x y true (w (i+1))=some r)else(Zei x y (decide (e2.Mask=x.Mask/\e2.Size=x.Size)) (w (i+1))=some r)))))))else(if c=true then(Zei x y true (w (i+1))=some r)else(0<=i/\(∃(e3:Kept),y[i.toNat]?=some e3/\(Zei x y (decide (e3.Mask=x.Mask/\e3.Size=x.Size)) (w (i+1))=some r)))))else(some (Bo c,[])=some r))):Zei x y c i=some r:=by
 unfold Zei;rw[Zm Zsk.eq_1]
 try simp only[itb]at h
 try simp only[itf,gS,kk]at h
 rcases h with⟨q1,(⟨q2,q3,e1,⟨g4,q4⟩,q5,e2,⟨g6,q6⟩,(⟨q7,h⟩|⟨q7,(⟨q8,h⟩|⟨q8,h⟩)⟩)⟩|⟨q2,(⟨q9,h⟩|⟨q9,q10,e3,⟨g11,q11⟩,h⟩)⟩)⟩|⟨q1,h⟩
 all_goals (refine Ya ?_ h;clear h;simp +decide[*,kk,tI,tII,Zei,Zsl])
theorem Zbax(a:List Int)(r:AV×List Blk)(h:(∃(v:Bool),Zn0 a=some (Bo v,[])/\(if v=true then(some (Bo true,[])=some r)else(∃(v1:Zj) (v2:Int) (v3:Int),Zk1 a=some (.tup [.agg (v1.c.map .t),I v2,I v3],[])/\(∃(v4:Bool),Zk8 v1 v2 v3=some (Bo v4,[])/\(∃(v5:Bool),Zlh v1 v2 v3=some (Bo v5,[])/\(v4=v5/\(∃(v6:Int),Zh1 v1 v3=some (I v6,[])/\(∃(v7:Int),Zh4 v1 v3=some (I v7,[])/\(v6=v7/\(if v4=true then(∃(v8:List Zd) (v9:Int) (v10:Int) (v11:Int) (v12:Int) (v13:Int),Zli v1 v2=some (.tup [.agg [I v9,I v10,I v11,I v12,I v13,.own 0],Bo true],[.arr 60 2 true (v8.map Zd.c)])/\(∃(v14:Int),Zjk a 0=some (I v14,[])/\(∃(v15:Int),Zeg (Int.tmod v14 9)=some (I v15,[])/\(∃(v16:Int),Zjk a 1=some (I v16,[])/\(∃(v17:Int),Zeg (Int.tmod v16 9)=some (I v17,[])/\(∃(v18:Int),Zeg v3=some (I v18,[])/\(∃(v19:Int),Zee (⟨v9,v10,v11,v12,v13,v8⟩:Zc) v15 v17 v18=some (I v19,[])/\(¬(v19<v6)/\(∃(v20:List Kept) (v21:Kept),Zjq a=some (.tup [L 2 (v20.map Kept.c),.agg (v21.c.map .t)],[])/\(∃(v22:List Kept),Zjr v20 v21=some (.own 0,[.arr 40 2 true (v22.map Kept.c)])/\(Zei v21 v22 false 0=some r)))))))))))else(∃(v23:List Kept) (v24:Kept),Zjq a=some (.tup [L 2 (v23.map Kept.c),.agg (v24.c.map .t)],[])/\(∃(v25:List Kept),Zjr v23 v24=some (.own 0,[.arr 40 2 true (v25.map Kept.c)])/\(Zei v24 v25 false 0=some r)))))))))))))):Zzx a=some r:=by
 unfold Zzx;refine run Z8m rfl ?_;simp only[Zn0,Zk1,Zk8,Zlh,Zh1,Zh4,Zli,Zjk,Zeg,Zee,Zjq,Zjr,Z5l,Kept.c_def,Zj.c_def,Zc.c_def,mpl,dfs]at h
 try simp only[itb]at h
 try simp only[itf,gS,kk]at h
 rcases h with⟨v,q1,(⟨q2,h⟩|⟨q2,v1,v2,v3,q3,v4,q4,v5,q5,q6,v6,q7,v7,q8,q9,(⟨q10,v8,v9,v10,v11,v12,v13,q11,v14,q12,v15,q13,v16,q14,v17,q15,v18,q16,v19,q17,q18,v20,v21,q19,v22,q20,h⟩|⟨q10,v23,v24,q21,v25,q22,h⟩)⟩)⟩
 all_goals try subst q9
 all_goals try subst q6
 all_goals (refine Ya ?_ h;clear h;simp +decide[*,kk,tI,tII,Zzw,Zei,Zzv])
end Go.Proofs.Ytdbnflilbkjbhaa
