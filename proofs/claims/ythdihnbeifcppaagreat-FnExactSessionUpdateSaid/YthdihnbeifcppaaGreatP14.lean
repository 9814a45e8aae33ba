/-
  Parts of the proofs for this seat: G1 G2 G3.
-/
import Derived.Test.YthdihnbeifcppaaGreatP13
set_option linter.all false
set_option maxRecDepth 100000
set_option maxHeartbeats 4000000
namespace Go.Proofs.YthdihnbeifcppaaGreat
open Go.AM
def ZFb:((((iM Uv λa r=>qM a (qs3 a r))/\
 (iM ZcP λout x x1 x2 r=>if x2<x1 then qG x x2 (λu1=>qs2 (Uv u1) (λu2=>qN out (r (ZcP (out++[u2]) x x1 (w (x2+1))))))else KB out r))/\
 ((iM Zae λa r=>r (ZcP ([]:V4) a (a.length:Int) 0))/\
 (iM WJ λa r=>KC (Zae a.Rows) (λu1=>r (some (.agg [.t (.str a.Name),I a.Arity,.own 0],[.arr 42 1 true (u1.map isc)]))))))/\
 (((iM ZnT λx x1 x2 r=>if x2<x1 then qG x x2 (λu1=>∃(u2:V4),∃u3,∃u4,WJ u1=some (.agg [.t (.str u3),I u4,.own 0],[.arr 42 1 true (u2.map isc)])/\r (Zfr ([(⟨u3,u4,u2⟩:Zc)]) x x1 (w (x2+1))))else ZcE ([]:List Zc) r)/\
 (iM Zfr λx x1 x2 x3 r=>if x3<x2 then qG x1 x3 (λu1=>∃(u2:V4),∃u3,∃u4,WJ u1=some (.agg [.t (.str u3),I u4,.own 0],[.arr 42 1 true (u2.map isc)])/\qN x (r (Zfr (x++[(⟨u3,u4,u2⟩:Zc)]) x1 x2 (w (x3+1)))))else ZcE x r))/\
 ((iM QZ λa r=>r (ZnT a.Tables (a.Tables.length:Int) 0))/\
 ((iM Zft λs Name Arity RowCount groups x x1 x2 r=>if x2<x1 then qG x x2 (λu1=>qs2 (Uv u1.Columns) (λu2=>KC (Zae u1.Values) (λu3=>qs2 (Uv u1.Counts) (λu4=>qN groups (r (Zft s Name Arity RowCount (groups++[(⟨u2,u3,u4⟩:Zy)]) x x1 (w (x2+1))))))))else r (some (.agg [.t (.str s.Name),I s.Arity,I s.RowCount,.own 0],[.arr 249 3 true (groups.map Zy.c)])))/\
 (iM Zfs λa r=>r (Zft a (⟨#[]⟩:UP) 0 0 ([]:List Zy) a.Groups (a.Groups.length:Int) 0))))))/\
 ((((iM Zob λVersion Version1 x x1 x2 r=>if x2<x1 then qG x x2 (λu1=>∃(u2:List Zy),∃u3,∃u4,∃u5,Zfs u1=some (.agg [.t (.str u3),I u4,I u5,.own 0],[.arr 249 3 true (u2.map Zy.c)])/\r (Zfu Version Version1 ([(⟨u3,u4,u5,u2⟩:Zk)]) x x1 (w (x2+1))))else Zjo Version1 ([]:List Zk) r)/\
 (iM Zfu λVersion Version1 x x1 x2 x3 r=>if x3<x2 then qG x1 x3 (λu1=>∃(u2:List Zy),∃u3,∃u4,∃u5,Zfs u1=some (.agg [.t (.str u3),I u4,I u5,.own 0],[.arr 249 3 true (u2.map Zy.c)])/\qN x (r (Zfu Version Version1 (x++[(⟨u3,u4,u5,u2⟩:Zk)]) x1 x2 (w (x3+1)))))else Zjo Version1 x r))/\
 ((iM ZjK λa r=>r (Zob 0 a.Version a.Tables (a.Tables.length:Int) 0))/\
 (iM Zfv λout x x1 x2 r=>if x2<x1 then qG x x2 (λu1=>qs2 (Uv u1.From) (λu2=>qN out (r (Zfv (out++[(⟨u1.Name,u2,u1.To⟩:Zp)]) x x1 (w (x2+1))))))else Zjp out r)))/\
 (((iM Zof λa r=>r (Zfv ([]:List Zp) a (a.length:Int) 0))/\
 (iM Zbv λa r=>qs6 (QZ a.Zl) (λu1=>∃(u2:List Zk),∃u3,ZjK a.Zu=some (.agg [I u3,.own 0],[.arr 191 4 true (u2.map Zk.c)])/\Zfi (Zof a.Dependencies) (λu4=>qM a.Inclusions (Zjq u3 u1 u2 u4 a.Inclusions r)))))/\
 ((iM Zol λZm VariableCount1 x x1 x2 r=>if x2<x1 then qG x x2 (λu1=>qs2 (Uv u1.Vars) (λu2=>r (Zfw Zm VariableCount1 ([(⟨u1.Name,u2⟩:Ze)]) x x1 (w (x2+1)))))else Zjr VariableCount1 ([]:List Ze) r)/\
 ((iM Zfw λZm VariableCount1 x x1 x2 x3 r=>if x3<x2 then qG x1 x3 (λu1=>qs2 (Uv u1.Vars) (λu2=>qN x (r (Zfw Zm VariableCount1 (x++[(⟨u1.Name,u2⟩:Ze)]) x1 x2 (w (x3+1))))))else Zjr VariableCount1 x r)/\
 (iM ZcQ λa r=>r (Zol 0 a.Zm a.Atoms (a.Atoms.length:Int) 0)))))):=by
 refine qu ?_
 and_intros
 all_goals(intros;unfold Im;(try simp only[Uv,ZcP,Zae,WJ,ZnT,Zfr,QZ,Zft,Zfs,Zob,Zfu,ZjK,Zfv,Zof,Zbv,Zol,Zfw,ZcQ,Zc.c_def,Zk.c_def,Zu.c_def,Zl.c_def,Zp.c_def,lpz,ZnS,Zoa,Zok,mpl,dfs]);(try simp only[itb]);(try simp only[itf,gS,kk]))
 all_goals(repeat' first|refine exI λ_=>?_|refine anJ λ_ _=>?_|refine anI λ_=>?_|refine orE2 ?_ ?_|exact False.elim)
 all_goals(intro h;first|refine run ZBz rfl ?_|rw[Zn ZnN.eq_1]|refine run ZB0 rfl ?_|refine run ZB1 rfl ?_|rw[Zn ZnQ.eq_1]|refine run ZB2 rfl ?_|rw[Zn ZnV.eq_1]|refine run ZB3 rfl ?_|rw[Zn ZnY.eq_1]|refine run ZB4 rfl ?_|rw[Zn Zod.eq_1]|refine run ZB5 rfl ?_|refine run ZB6 rfl ?_|rw[Zn Zoi.eq_1]|refine run ZB8 rfl ?_)
 all_goals (refine Ye ?_ h;clear h;simp +decide[*,kk,tI,tII,ZxS,ZnO,ZxT,ZxU,ZnR,ZxV,ZnW,ZxW,ZnZ,ZxX,Zoe,ZxY,ZxZ,Zoj,Zyd])
abbrev XW:=uq ZFb
def ZFc:(((iM Ka λa r=>qM a.Steps (KD a.Steps r))/\
 ((iM ZjM λa r=>qs2 (Uv a.Low) (λu1=>qs2 (Uv a.High) (λu2=>r (some (.agg [.own 0,.own 1],[.arr 3 1 true (u1.map ic),.arr 3 1 true (u2.map ic)])))))/\
 (iM Zfx λa r=>qs4 (Ka a.Zg) (λu1=>∃(u2:V6) (u3:V6),ZjM a.Box=some (.agg [.own 0,.own 1],[.arr 3 1 true (u2.map ic),.arr 3 1 true (u3.map ic)])/\r (some (.agg [.own 0,.own 1,.own 2,I a.Percent],[.arr 277 3 true (u1.map Zh.c),.arr 3 1 true (u2.map ic),.arr 3 1 true (u3.map ic)]))))))/\
 ((iM Zoq λClock Clock1 x x1 x2 r=>if x2<x1 then qG x x2 (λu1=>∃(u2:List Ze),∃u3,ZcQ u1.Zj=some (.agg [I u3,.own 0],[.arr 251 2 true (u2.map Ze.c)])/\Zjs (Zfx u1.Region) (λu4 u5 u6 u7=>r (Zfy Clock Clock1 ([(⟨(⟨u3,u2⟩:Zj),(⟨(⟨u4⟩:Zg),(⟨u5,u6⟩:Box),u7⟩:Region),u1.Version,u1.Used⟩:Zo)]) x x1 (w (x2+1)))))else Zjt Clock1 ([]:List Zo) r)/\
 ((iM Zfy λClock Clock1 x x1 x2 x3 r=>if x3<x2 then qG x1 x3 (λu1=>∃(u2:List Ze),∃u3,ZcQ u1.Zj=some (.agg [I u3,.own 0],[.arr 251 2 true (u2.map Ze.c)])/\Zjs (Zfx u1.Region) (λu4 u5 u6 u7=>qN x (r (Zfy Clock Clock1 (x++[(⟨(⟨u3,u2⟩:Zj),(⟨(⟨u4⟩:Zg),(⟨u5,u6⟩:Box),u7⟩:Region),u1.Version,u1.Used⟩:Zo)]) x1 x2 (w (x3+1))))))else Zjt Clock1 x r)/\
 (iM ZcR λa r=>r (Zoq 0 a.Clock a.Entries (a.Entries.length:Int) 0)))))/\
 (((iM Zfz λa r=>JY (Zbv a.Zs) (λu1 u2 u3 u4 u5=>Zju (ZjL a.Za) (λu6 u7 u8 u9 u10 u11 u12 u13 u14 u15 u16 u17 u18 u19 u20 u21 u22 u23 u24 u25 u26 u27 u28 u29 u30 u31 u32 u33 u34 u35=>∃(cc:List Zo),∃u37,ZcR a.Cache=some (.agg [I u37,.own 0],[.arr 128 8 true (cc.map Zo.c)])/\r (some (.agg [.own 0,I u5,.own 1,.own 2,.own 3,I u11,I u12,I u13,I u14,I u15,.own 4,I u16,I u17,I u18,I u19,I u20,.own 5,I u21,I u22,I u23,I u24,I u25,.own 6,I u26,I u27,I u28,I u29,I u30,.own 7,I u31,I u32,I u33,I u34,I u35,.own 8,I u37,.own 9,I a.Ratio,I a.Slack,I a.Queries,I a.Spent],[.arr 179 3 true (u1.map Zc.c),.arr 191 4 true (u2.map Zk.c),.arr 185 3 true (u3.map Zp.c),.arr 187 4 true (u4.map Zr.c),.arr 256 2 true (u6.map Zd.c),.arr 256 2 true (u7.map Zd.c),.arr 256 2 true (u8.map Zd.c),.arr 256 2 true (u9.map Zd.c),.arr 256 2 true (u10.map Zd.c),.arr 128 8 true (cc.map Zo.c)])))))/\
 ((iM ZV λa a1 a2 r=>if a1<=a then qb (decide (a<=a2)) r else qb false r)/\
 (iM Zf0 λrow arity x x1 x2 r=>if x2<x1 then qG x x2 (λu1=>qB (ZV u1 0 9) (r (Zf0 row arity x x1 (w (x2+1)))) (qb false r))else qb (decide ((row.length:Int)=arity)) r)))/\
 ((iM Zbw λa a1 r=>r (Zf0 a a1 a (a.length:Int) 0))/\
 ((iM Zbx λa r=>if(a.size:Int)=1 then ∃u1,a[0]?=some u1/\if 97<=(u1.toNat:Int)then qb (decide ((u1.toNat:Int)<=122)) r else qb false r else qb false r)/\
 (iM Zf1 λa r=>qb (!(decide (a=a))) r)))):=by
 refine qu ?_
 and_intros
 all_goals(intros;unfold Im;(try simp only[Ka,ZjM,Zfx,Zoq,Zfy,ZcR,Zfz,ZV,Zf0,Zbw,Zbx,Zf1,Uv,Box.c_def,Zg.c_def,ZcQ,Zj.c_def,Region.c_def,Zbv,ZjL,Zu.c_def,Zl.c_def,Za.c_def,Z0.c_def,ZH.c_def,Zs.c_def,Zop,lpz,mpl,dfs]);(try simp only[itb]);(try simp only[itf,gS,kk]))
 all_goals(repeat' first|refine exI λ_=>?_|refine anJ λ_ _=>?_|refine anI λ_=>?_|refine orE2 ?_ ?_|exact False.elim)
 all_goals(intro h;first|refine run ZB9 rfl ?_|refine run ZBA rfl ?_|refine run ZBB rfl ?_|rw[Zn Zon.eq_1]|refine run ZBC rfl ?_|refine run ZBD rfl ?_|refine run ZBE rfl ?_|rw[Zn Zos.eq_1]|refine run ZBF rfl ?_|refine run ZBG rfl ?_|refine run ZBH rfl ?_)
 all_goals (refine Ye ?_ h;clear h;simp +decide[*,kk,tI,tII,Zye,Zyf,Zyg,Zoo,Zyh,Zyi,Zyj,Zot,Zyk,Zyl,Zym])
abbrev VL:=uq ZFc
def ZFd:((((iM ZjN λa a1 r=>qV (Zf1 a) (λu1=>qV (Zf1 a1) (λu2=>if u1=true then if u2=true then qi 0 r else qi (-1) r else if u2=true then qi 1 r else if a<a1 then qi (-1) r else if a1<a then qi 1 r else qi 0 r)))/\
 (iM Zf2 λs1 s2 x x1 x2 r=>if x2<x1 then qG x x2 (λu1=>if(s2.length:Int)<=x2 then qi 1 r else qH s2 x2 (λu2=>qI (ZjN u1 u2) (λu3=>if u3=0 then r (Zf2 s1 s2 x x1 (w (x2+1)))else qi u3 r)))else if(s1.length:Int)<(s2.length:Int)then qi (-1) r else qi 0 r))/\
 ((iM Zox λa a1 r=>r (Zf2 a a1 a (a.length:Int) 0))/\
 (iM ZjO λa a1 r=>qI (Zox a a1) (λu1=>qi u1 r))))/\
 (((iM Zf3 λrows i r=>if i<(rows.length:Int)then 0<=(w (i-1))/\∃u1,rows[(w (i-1)).toNat]?=some u1/\qG rows i (λu2=>qI (ZjO u1 u2) (λu3=>if 0<=u3 then qb false r else r (Zf3 rows (w (i+1)))))else qb true r)/\
 (iM ZjP λa r=>r (Zf3 a 1)))/\
 ((iM Zf4 λt x x1 x2 r=>qL (qb false r) λk1=>if x2<x1 then qG x x2 (λu1=>qB (Zbw u1 t.Arity) (r (Zf4 t x x1 (w (x2+1)))) k1)else qB (Zbx t.Name) (qB (ZV t.Arity 1 3) (if(t.Rows.length:Int)<=8 then qV (ZjP t.Rows) (λu3=>qb u3 r)else k1) k1) k1)/\
 ((iM Q4 λa r=>r (Zf4 a a.Rows (a.Rows.length:Int) 0))/\
 (iM Zf5 λdb x x1 x2 r=>if x2<x1 then qG x x2 (λu1=>qB (Q4 u1) (qL (r (Zf5 db x x1 (w (x2+1)))) λk1=>if 0<x2 then 0<=(w (x2-1))/\∃u3,db.Tables[(w (x2-1)).toNat]?=some u3/\if(Op.bytesLess u3.Name.toList u1.Name.toList)=true then k1 else qb false r else k1) (qb false r))else qb (decide ((db.Tables.length:Int)<=6)) r)))))/\
 ((((iM Zaf λa r=>r (Zf5 a a.Tables (a.Tables.length:Int) 0))/\
 (iM ZoC λVersion Version1 x x1 x2 r=>if x2<x1 then qG x x2 (λu1=>∃(u2:List Zy),∃u3,∃u4,∃u5,Zf6 u1=some (.agg [.t (.str u3),I u4,I u5,.own 0],[.arr 249 3 true (u2.map Zy.c)])/\r (Zf7 Version Version1 ([(⟨u3,u4,u5,u2⟩:Zk)]) x x1 (w (x2+1))))else Zjv Version1 ([]:List Zk) r))/\
 ((iM Zf7 λVersion Version1 x x1 x2 x3 r=>if x3<x2 then qG x1 x3 (λu1=>∃(u2:List Zy),∃u3,∃u4,∃u5,Zf6 u1=some (.agg [.t (.str u3),I u4,I u5,.own 0],[.arr 249 3 true (u2.map Zy.c)])/\qN x (r (Zf7 Version Version1 (x++[(⟨u3,u4,u5,u2⟩:Zk)]) x1 x2 (w (x3+1)))))else Zjv Version1 x r)/\
 (iM Zby λa a1 r=>qL (qs52 ([]:List Zk) r) λk1=>qB (Zaf a) (qB (ZV a1 1 999) (r (ZoC 0 a1 a.Tables (a.Tables.length:Int) 0)) k1) k1)))/\
 (((iM Zf8 λs1 s2 x x1 r=>if x1<x then qG s1 x1 (λu1=>qH s2 x1 (λu2=>if u1=u2 then r (Zf8 s1 s2 x (w (x1+1)))else qb false r))else qb true r)/\
 (iM Qa λa a1 r=>if(a.length:Int)=(a1.length:Int)then r (Zf8 a a1 (a.length:Int) 0)else qb false r))/\
 ((iM ZoG λa a1 r=>qV (Qa a a1) (λu1=>qb u1 r))/\
 ((iM Zf9 λs2 x x1 x2 r=>if x2<x1 then qG x x2 (λu1=>qH s2 x2 (λu2=>qB (ZoG u1 u2) (r (Zf9 s2 x x1 (w (x2+1)))) (qb false r)))else qb true r)/\
 (iM ZjQ λa a1 r=>if(a.length:Int)=(a1.length:Int)then r (Zf9 a1 a (a.length:Int) 0)else qb false r))))):=by
 refine qu ?_
 and_intros
 all_goals(intros;unfold Im;(try simp only[ZjN,Zf2,Zox,ZjO,Zf3,ZjP,Zf4,Q4,Zf5,Zaf,ZoC,Zf7,Zby,Zf8,Qa,ZoG,Zf9,ZjQ,Zf1,Zbw,Zbx,ZV,Zc.c_def,Zf6,Zl.c_def,lpz,ZoB,mpl,dfs]);(try simp only[itb]);(try simp only[itf,gS,kk]))
 all_goals(repeat' first|refine exI λ_=>?_|refine anJ λ_ _=>?_|refine anI λ_=>?_|refine orE2 ?_ ?_|exact False.elim)
 all_goals(intro h;first|refine run ZBI rfl ?_|rw[Zn Zov.eq_1]|refine run ZBJ rfl ?_|refine run ZBK rfl ?_|rw[Zn Zoz.eq_1]|refine run ZBL rfl ?_|rw[Zn Zo2.eq_1]|refine run ZBM rfl ?_|rw[Zn Zo5.eq_1]|refine run ZBN rfl ?_|rw[Zn Zo9.eq_1]|refine run ZBP rfl ?_|rw[Zn ZoE.eq_1]|refine run ZBQ rfl ?_|refine run ZBR rfl ?_|rw[Zn ZoI.eq_1]|refine run ZBS rfl ?_)
 all_goals (refine Ye ?_ h;clear h;simp +decide[*,kk,tI,tII,Zyn,Zow,Zyo,Zyp,Zo0,Zyq,Zo3,Zyr,Zo6,Zys,ZoA,Zyw,ZoF,Zyx,Zyy,ZoJ,Zyz])
abbrev Wh:=uq ZFd
def ZFe:(((iM ZjR λa a1 r=>qV (ZjQ a a1) (λu1=>qb u1 r))/\
 (iM ZjS λa a1 r=>qB (Qa a.Columns a1.Columns) (qB (ZjR a.Values a1.Values) (qV (Qa a.Counts a1.Counts) (λu3=>qb u3 r)) (qb false r)) (qb false r)))/\
 ((iM ZfA λs2 x x1 x2 r=>if x2<x1 then qG x x2 (λu1=>qH s2 x2 (λu2=>qB (ZjS u1 u2) (r (ZfA s2 x x1 (w (x2+1)))) (qb false r)))else qb true r)/\
 ((iM ZoN λa a1 r=>if(a.length:Int)=(a1.length:Int)then r (ZfA a1 a (a.length:Int) 0)else qb false r)/\
 (iM ZjT λa a1 r=>if a.Name=a1.Name then if a.Arity=a1.Arity then if a.RowCount=a1.RowCount then qV (ZoN a.Groups a1.Groups) (λu1=>qb u1 r)else qb false r else qb false r else qb false r))))/\
 (((iM ZfB λs2 x x1 x2 r=>if x2<x1 then qG x x2 (λu1=>qH s2 x2 (λu2=>qB (ZjT u1 u2) (r (ZfB s2 x x1 (w (x2+1)))) (qb false r)))else qb true r)/\
 ((iM ZoR λa a1 r=>if(a.length:Int)=(a1.length:Int)then r (ZfB a1 a (a.length:Int) 0)else qb false r)/\
 (iM ZfC λa a1 r=>if a.Version=a1.Version then qV (ZoR a.Tables a1.Tables) (λu1=>qb u1 r)else qb false r)))/\
 ((iM ZoS λa a1 r=>qb (decide (a.Name=a1)) r)/\
 ((iM ZfD λs f x x1 r=>if x1<x then qG s x1 (λu1=>qB (ZoS u1 f) (qi x1 r) (r (ZfD s f x (w (x1+1)))))else qi (-1) r)/\
 (iM ZjU λa a1 r=>r (ZfD a a1 (a.length:Int) 0))))):=by
 refine qu ?_
 and_intros
 all_goals(intros;unfold Im;(try simp only[ZjR,ZjS,ZfA,ZoN,ZjT,ZfB,ZoR,ZfC,ZoS,ZfD,ZjU,ZjQ,Qa,Zy.c_def,Zk.c_def,Zc.c_def,lpz,mpl,dfs]);(try simp only[itb]);(try simp only[itf,gS,kk]))
 all_goals(repeat' first|refine exI λ_=>?_|refine anJ λ_ _=>?_|refine anI λ_=>?_|refine orE2 ?_ ?_|exact False.elim)
 all_goals(intro h;first|refine run ZBT rfl ?_|refine run ZBU rfl ?_|rw[Zn ZoL.eq_1]|refine run ZBV rfl ?_|refine run ZBW rfl ?_|rw[Zn ZoP.eq_1]|refine run ZBX rfl ?_|refine run ZBY rfl ?_|refine run ZBZ rfl ?_|rw[Zn ZoU.eq_1]|refine run ZCa rfl ?_)
 all_goals (refine Ye ?_ h;clear h;simp +decide[*,kk,tI,tII,Zy0,Zy1,ZoM,Zy2,Zy3,ZoQ,Zy4,Zy5,Zy6,ZoV,Zy7])
abbrev Uz:=uq ZFe
def ZFf:(((iM V0 λa a1 r=>qI (ZjU a.Tables a1) (λu1=>if u1<0 then ZcF r else qB (Zaf a) (qG a.Tables u1 (λu3=>∃(u4:V4),∃u5,∃u6,WJ u3=some (.agg [.t (.str u5),I u6,.own 0],[.arr 42 1 true (u4.map isc)])/\r (some (.tup [.agg [.t (.str u5),I u6,.own 0],Bo true],[.arr 42 1 true (u4.map isc)])))) (ZcF r)))/\
 ((iM ZfE λcolumns arity x x1 x2 r=>if x2<x1 then qG x x2 (λu1=>qB (ZV u1 0 (w (arity-1))) (qL (r (ZfE columns arity x x1 (w (x2+1)))) λk1=>if 0<x2 then 0<=(w (x2-1))/\∃u3,columns[(w (x2-1)).toNat]?=some u3/\if u1<=u3 then qb false r else k1 else k1) (qb false r))else qb true r)/\
 (iM ZcS λa a1 r=>r (ZfE a a1 a (a.length:Int) 0))))/\
 (((iM ZfF λs v x x1 r=>if x1<x then qG s x1 (λu1=>if v=u1 then qi x1 r else r (ZfF s v x (w (x1+1))))else qi (-1) r)/\
 (iM ZjV λa a1 r=>r (ZfF a a1 (a.length:Int) 0)))/\
 ((iM Qb λa a1 r=>qI (ZjV a a1) (λu1=>qb (decide (0<=u1)) r))/\
 (iM ZfG λa a1 r=>(∃u1 u2,V0 a a1.Name=some (.tup [.agg [.t (.str u1),I u2,.t .nil],Bo false],[])/\qb false r)\/(∃(u1:V4),∃u2,∃u3,V0 a a1.Name=some (.tup [.agg [.t (.str u2),I u3,.own 0],Bo true],[.arr 42 1 true (u1.map isc)])/\qB (ZcS a1.From u3) (qB (ZV a1.To 0 (w (u3-1))) (qV (Qb a1.From a1.To) (λu6=>qb (!u6) r)) (qb false r)) (qb false r))))))/\
 (((iM ZfH λout row x x1 x2 r=>if x2<x1 then qG x x2 (λu1=>qB (ZV u1 0 (w ((row.length:Int)-1))) (qG row u1 (λu3=>qN out (r (ZfH (out++[u3]) row x x1 (w (x2+1)))))) (Zbk r))else Zjw out r)/\
 ((iM Kb λa a1 r=>r (ZfH ([]:V6) a a1 (a1.length:Int) 0))/\
 (iM ZcT λf t x x1 x2 r=>if x2<x1 then qG x x2 (λu1=>x2.toNat<=t.Rows.length/\r (Zag f t x2 u1 x x1 x2 (t.Rows.take x2.toNat) ((t.Rows.take x2.toNat).length:Int) 0))else r (some (.t .nil,[])))))/\
 (((iM Zag λf t k y x x1 x2 x3 x4 x5 r=>if x5<x4 then qG x3 x5 (λu1=>qL (r (Zag f t k y x x1 x2 x3 x4 (w (x5+1)))) λk1=>qL (qs3 ([x5,k]) r) λk4=>qL (qG u1 f.To (λu4=>qH y f.To (λu5=>if u4=u5 then k1 else k4))) λk2=>qL (Kb y f.From) λk3=>(Kb u1 f.From=some (.tup [.t .nil,Bo false],[])/\((k3=some (.tup [.t .nil,Bo false],[])/\qB ZyE (qG u1 f.To (λu3=>qH y f.To (λu4=>if u3=u4 then k1 else k4))) k1)\/(Zfj k3 (λu2=>qB (ZyF u2) k2 k1))))\/(Zfj (Kb u1 f.From) (λu2=>(k3=some (.tup [.t .nil,Bo false],[])/\qB (ZyG u2) k2 k1)\/(Zfj k3 (λu3=>qB (Qa u2 u3) (qG u1 f.To (λu5=>qH y f.To (λu6=>if u5=u6 then k1 else k4))) k1)))))else r (ZcT f t x x1 (w (x2+1))))/\
 (iM ZfJ λa a1 r=>qB (ZfG a a1) ((∃u2 u3,V0 a a1.Name=some (.tup [.agg [.t (.str u2),I u3,.t .nil],Bo false],[])/\r (ZyI a1 u2 u3 0 0))\/(∃(u2:V4),∃u3,∃u4,V0 a a1.Name=some (.tup [.agg [.t (.str u3),I u4,.own 0],Bo true],[.arr 42 1 true (u2.map isc)])/\r (ZcT a1 (⟨u3,u4,u2⟩:Zc) u2 (u2.length:Int) 0))) (QX r)))/\
 ((iM ZfK λa a1 r=>qB (ZfG a a1) ((ZfJ a a1=some (.t .nil,[])/\qb true r)\/(qs2 (ZfJ a a1) (λu2=>qb (decide ((u2.length:Int)=0)) r))) (qb false r))/\
 (iM ZcU λa a1 r=>qL (V0 a a1.Into) λk1=>qL (qb false r) λk2=>(∃u1 u2,V0 a a1.Name=some (.tup [.agg [.t (.str u1),I u2,.t .nil],Bo false],[])/\((∃u3 u4,k1=some (.tup [.agg [.t (.str u3),I u4,.t .nil],Bo false],[])/\k2)\/(∃(u3:V4),∃u4,∃u5,k1=some (.tup [.agg [.t (.str u4),I u5,.own 0],Bo true],[.arr 42 1 true (u3.map isc)])/\k2)))\/(∃(u1:V4),∃u2,∃u3,V0 a a1.Name=some (.tup [.agg [.t (.str u2),I u3,.own 0],Bo true],[.arr 42 1 true (u1.map isc)])/\((∃u4 u5,k1=some (.tup [.agg [.t (.str u4),I u5,.t .nil],Bo false],[])/\k2)\/(∃(u4:V4),∃u5,∃u6,k1=some (.tup [.agg [.t (.str u5),I u6,.own 0],Bo true],[.arr 42 1 true (u4.map isc)])/\qB (ZV a1.Column 0 (w (u3-1))) (qV (ZV a1.IntoColumn 0 (w (u6-1))) (λu8=>qb u8 r)) k2))))))):=by
 refine qu ?_
 and_intros
 all_goals(intros;unfold Im;(try simp only[V0,ZfE,ZcS,ZfF,ZjV,Qb,ZfG,ZfH,Kb,ZcT,Zag,ZfJ,ZfK,ZcU,ZjU,Zaf,WJ,Zl.c_def,Zc.c_def,ZV,ZyE,ZyF,ZyG,Qa,Zp.c_def,ZyI,lpz,Zpj,Zpi,mpl,dfs]);(try simp only[itb]);(try simp only[itf,gS,kk]))
 all_goals(repeat' first|refine exI λ_=>?_|refine anJ λ_ _=>?_|refine anI λ_=>?_|refine orE2 ?_ ?_|exact False.elim)
 all_goals(intro h;first|refine run ZCb rfl ?_|rw[Zn ZoX.eq_1]|refine run ZCc rfl ?_|rw[Zn Zpa.eq_1]|refine run ZCd rfl ?_|refine run ZCe rfl ?_|refine run ZCf rfl ?_|rw[Zn Zpd.eq_1]|refine run ZCg rfl ?_|rw[Zn ZjW.eq_1]|rw[Zn Zpf.eq_1]|refine run ZCh rfl ?_|refine run ZCi rfl ?_|refine run ZCj rfl ?_)
 all_goals (refine Ye ?_ h;clear h;simp +decide[*,kk,tI,tII,Zy8,ZoY,Zy9,Zpb,ZyA,ZyB,ZyC,Zpe,ZyD,Zph,Zpg,ZyH,ZyJ,ZyK])
abbrev WY:=uq ZFf
