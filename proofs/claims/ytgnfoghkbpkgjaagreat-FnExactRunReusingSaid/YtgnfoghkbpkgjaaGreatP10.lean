/-
  Parts of the proofs for this seat: T3 T4 G1 G2 SN G3 G4 G5 G6 G7 G8 G9 G10 G11 G12.
-/
import Derived.Test.YtgnfoghkbpkgjaaGreatP6
import Derived.Test.YtgnfoghkbpkgjaaGreatP9
set_option linter.unusedSimpArgs false
set_option linter.unusedVariables false
set_option maxRecDepth 100000
set_option maxHeartbeats 4000000
namespace Go.Proofs.YtgnfoghkbpkgjaaGreat
open Go.AM
theorem Zbty:tbl 339=some Zbcp:=Zc Tryz.func339 (by kernel_rfl) (by kernel_rfl)
theorem Zbtz:tbl 395=some Zbcq:=Zc Tryz.func395 (by kernel_rfl) (by kernel_rfl)
theorem Zbt0:tbl 396=some Zbcs:=Zc Tryz.func396 (by kernel_rfl) (by kernel_rfl)
theorem Zbeh:tbl 338=some Z2t:=Zc Tryz.func338 (by kernel_rfl) (by kernel_rfl)
theorem Zbt1:tbl 337=some Zbct:=Zc Tryz.func337 (by kernel_rfl) (by kernel_rfl)
theorem Zbt2:tbl 265=some Zbcu:=Zc Tryz.func265 (by kernel_rfl) (by kernel_rfl)
theorem Zbt3:tbl 266=some Zbcv:=Zc Tryz.func266 (by kernel_rfl) (by kernel_rfl)
theorem Zbt4:tbl 340=some Zbcw:=Zc Tryz.func340 (by kernel_rfl) (by kernel_rfl)
theorem Zbt5:tbl 267=some Zbcx:=Zc Tryz.func267 (by kernel_rfl) (by kernel_rfl)
theorem Zbt6:tbl 144=some Zbcz:=Zc Tryz.func144 (by kernel_rfl) (by kernel_rfl)
theorem Zbt7:tbl 164=some Zbc0:=Zc Tryz.func164 (by kernel_rfl) (by kernel_rfl)
theorem Zbt8:tbl 350=some Zbc1:=Zc Tryz.func350 (by kernel_rfl) (by kernel_rfl)
theorem Zbt9:tbl 274=some Zbc2:=Zc Tryz.func274 (by kernel_rfl) (by kernel_rfl)
theorem Zbua:tbl 208=some Zbc3:=Zc Tryz.func208 (by kernel_rfl) (by kernel_rfl)
theorem Zbub:tbl 163=some Zbc5:=Zc Tryz.func163 (by kernel_rfl) (by kernel_rfl)
theorem Zbuc:tbl 397=some Zbc6:=Zc Tryz.func397 (by kernel_rfl) (by kernel_rfl)
theorem Zbud:tbl 341=some Zbc7:=Zc Tryz.func341 (by kernel_rfl) (by kernel_rfl)
theorem Zbue:tbl 342=some Zbc8:=Zc Tryz.func342 (by kernel_rfl) (by kernel_rfl)
theorem Zbuf:tbl 268=some Zbc9:=Zc Tryz.func268 (by kernel_rfl) (by kernel_rfl)
theorem Zbug:tbl 145=some Zbda:=Zc Tryz.func145 (by kernel_rfl) (by kernel_rfl)
theorem Zbuh:tbl 152=some Zbdb:=Zc Tryz.func152 (by kernel_rfl) (by kernel_rfl)
theorem Zbui:tbl 151=some Zbdc:=Zc Tryz.func151 (by kernel_rfl) (by kernel_rfl)
theorem Zbuj:tbl 147=some Zbdd:=Zc Tryz.func147 (by kernel_rfl) (by kernel_rfl)
theorem Zbuk:tbl 150=some Zbde:=Zc Tryz.func150 (by kernel_rfl) (by kernel_rfl)
theorem Zbul:tbl 270=some Zbdi:=Zc Tryz.func270 (by kernel_rfl) (by kernel_rfl)
theorem Zbum:tbl 154=some Zbdj:=Zc Tryz.func154 (by kernel_rfl) (by kernel_rfl)
theorem Zbun:tbl 237=some Zbdk:=Zc Tryz.func237 (by kernel_rfl) (by kernel_rfl)
theorem Zbuo:tbl 360=some Zbdl:=Zc Tryz.func360 (by kernel_rfl) (by kernel_rfl)
theorem Zbup:tbl 286=some Zbdm:=Zc Tryz.func286 (by kernel_rfl) (by kernel_rfl)
theorem Zbuq:tbl 230=some Zbdn:=Zc Tryz.func230 (by kernel_rfl) (by kernel_rfl)
theorem Zbur:tbl 207=some Zbdo:=Zc Tryz.func207 (by kernel_rfl) (by kernel_rfl)
theorem Zbus:tbl 283=some Zbdp:=Zc Tryz.func283 (by kernel_rfl) (by kernel_rfl)
theorem Zbut:tbl 180=some Zbdq:=Zc Tryz.func180 (by kernel_rfl) (by kernel_rfl)
theorem Zbuu:tbl 81=some Zbdr:=Zc Tryz.func81 (by kernel_rfl) (by kernel_rfl)
theorem Zbuv:tbl 158=some Zbds:=Zc Tryz.func158 (by kernel_rfl) (by kernel_rfl)
theorem Zbuw:tbl 157=some Zbdt:=Zc Tryz.func157 (by kernel_rfl) (by kernel_rfl)
theorem Zbux:tbl 138=some Zbdu:=Zc Tryz.func138 (by kernel_rfl) (by kernel_rfl)
theorem Zbuy:tbl 159=some Zhm:=Zc Tryz.func159 (by kernel_rfl) (by kernel_rfl)
theorem Zbuz:tbl 134=some Zbdv:=Zc Tryz.func134 (by kernel_rfl) (by kernel_rfl)
theorem Zbu0:tbl 160=some Zbdw:=Zc Tryz.func160 (by kernel_rfl) (by kernel_rfl)
theorem Zbei:tbl 254=some Z3w:=Zc Tryz.func254 (by kernel_rfl) (by kernel_rfl)
theorem Zbej:tbl 132=some Z3y:=Zc Tryz.func132 (by kernel_rfl) (by kernel_rfl)
theorem Zbu1:tbl 50=some Zbdz:=Zc Tryz.func50 (by kernel_rfl) (by kernel_rfl)
theorem Zbu2:tbl 133=some Zbd0:=Zc Tryz.func133 (by kernel_rfl) (by kernel_rfl)
theorem Zbu3:tbl 142=some Zbd3:=Zc Tryz.func142 (by kernel_rfl) (by kernel_rfl)
theorem Zbu4:tbl 46=some Zbd4:=Zc Tryz.func46 (by kernel_rfl) (by kernel_rfl)
theorem Zbu5:tbl 162=some Zbd6:=Zc Tryz.func162 (by kernel_rfl) (by kernel_rfl)
theorem Zbu6:tbl 149=some Zbd7:=Zc Tryz.func149 (by kernel_rfl) (by kernel_rfl)
theorem Zbu7:tbl 51=some Zbd9:=Zc Tryz.func51 (by kernel_rfl) (by kernel_rfl)
theorem Zbu8:tbl 146=some Zbea:=Zc Tryz.func146 (by kernel_rfl) (by kernel_rfl)
theorem Zbu9:tbl 153=some Zbed:=Zc Tryz.func153 (by kernel_rfl) (by kernel_rfl)
theorem Zbva:tbl 47=some Zbee:=Zc Tryz.func47 (by kernel_rfl) (by kernel_rfl)
theorem Zey:(∀⦃a a1 a2 r⦄,Im (Zz a a1 a2=some r) (if a1<=a then(some (Bo (decide (a<=a2)),[])=some r)else(some (Bo false,[])=some r)))/\
 (∀⦃a r⦄,Im (Zmb a=some r) (if(a.size:Int)=1 then(∃b1,a[0]?=some b1/\(if 97<=(b1.toNat:Int)then(some (Bo (decide ((b1.toNat:Int)<=122)),[])=some r)else(some (Bo false,[])=some r)))else(some (Bo false,[])=some r)))/\
 (∀⦃s v x x1 r⦄,Im (Zpt s v x x1=some r) (if x1<x then(0<=x1/\(∃e1,s[x1.toNat]?=some e1/\(if v=e1 then(some (I x1,[])=some r)else(Zpt s v x (w (x1+1))=some r))))else(some (I (-1),[])=some r)))/\
 (∀⦃a a1 r⦄,Im (Zda a a1=some r) (Zpt a a1 (a.length:Int) 0=some r))/\
 (∀⦃a a1 r⦄,Im (Zeh a a1=some r) (∃v1,Zda a a1=some (I v1,[])/\(some (Bo (decide (0<=v1)),[])=some r)))/\
 (∀⦃s v x x1 r⦄,Im (Zpu s v x x1=some r) (if x1<x then(0<=x1/\(∃e1,s[x1.toNat]?=some e1/\(if v=e1 then(some (I x1,[])=some r)else(Zpu s v x (w (x1+1))=some r))))else(some (I (-1),[])=some r)))/\
 (∀⦃a a1 r⦄,Im (Zt4 a a1=some r) (Zpu a a1 (a.length:Int) 0=some r))/\
 (∀⦃a a1 r⦄,Im (Zt5 a a1=some r) (∃v1,Zt4 a a1=some (I v1,[])/\(some (Bo (decide (0<=v1)),[])=some r)))/\
 (∀⦃q cc x x1 x2 r⦄,Im (Zjw q cc x x1 x2=some r) (if x2<x1 then(0<=x2/\(∃e1,x[x2.toNat]?=some e1/\(∃v2,Zmb e1.Name=some (Bo v2,[])/\(if v2=true then(∃v3,Zz (e1.Vars.length:Int) 1 3=some (Bo v3,[])/\(if v3=true then(Zpv q cc e1 x x1 x2 e1.Vars (e1.Vars.length:Int) 0=some r)else(some (Bo false,[])=some r)))else(some (Bo false,[])=some r)))))else(∃v4,Zt5 cc false=some (Bo v4,[])/\(some (Bo (!v4),[])=some r))))/\
 (∀⦃q cc a x x1 x2 x3 x4 x5 r⦄,Im (Zpv q cc a x x1 x2 x3 x4 x5=some r) (if x5<x4 then(0<=x5/\(∃e1,x3[x5.toNat]?=some e1/\(∃v2,Zz e1 0 (w (q.Zm-1))=some (Bo v2,[])/\(if v2=true then(x5.toNat<=a.Vars.length/\(∃v3,Zeh (a.Vars.take x5.toNat) e1=some (Bo v3,[])/\(if v3=true then(some (Bo false,[])=some r)else(0<=e1/\(∃e4,cc[e1.toNat]?=some e4/\(Zpv q (cc.set e1.toNat true) a x x1 x2 x3 x4 (w (x5+1))=some r))))))else(some (Bo false,[])=some r)))))else(Zjw q cc x x1 (w (x2+1))=some r)))/\
 (∀⦃q cd c v r⦄,Im (Zia q cd c v=some r) (if v<q.Zm then(Zmd q cd c v q.Atoms (q.Atoms.length:Int) 0=some r)else(some (.own 0,[.arr 3 1 true (cd.map ic)])=some r)))/\
 (∀⦃q cd c v x x1 x2 r⦄,Im (Zmd q cd c v x x1 x2=some r) (if x2<x1 then(0<=x2/\(∃e1,x[x2.toNat]?=some e1/\(¬x2<0/\(if(andI (shrI c x2) 1)=1 then(∃v2,Zeh e1.Vars v=some (Bo v2,[])/\(if v2=true then(cd.length+1<=68719476736/\(Zia q (cd++[v]) c (w (v+1))=some r))else(Zmd q cd c v x x1 (w (x2+1))=some r)))else(Zmd q cd c v x x1 (w (x2+1))=some r)))))else(Zia q cd c (w (v+1))=some r))):=by
 and_intros
 all_goals intros
 all_goals unfold Im
 all_goals try simp only[Zz,Zmb,Zpt,Zda,Zeh,Zpu,Zt4,Zt5,Zjw,Zpv,Zia,Zmd,mpl,dfs]
 all_goals try simp only[itb]
 all_goals try simp only[itf,gS,kk]
 all_goals repeat' first|refine exI λ_=>?_|refine anJ λ_ _=>?_|refine anI λ_=>?_|refine orE2 ?_ ?_|exact False.elim
 all_goals (intro h;first|refine run Zbrg rfl ?_|refine run Zbrh rfl ?_|rw[Zd Zy8.eq_1]|refine run Zbri rfl ?_|refine run Zbrj rfl ?_|rw[Zd Zza.eq_1]|refine run Zbrk rfl ?_|refine run Zbrl rfl ?_|rw[Zd Zt6.eq_1]|rw[Zd Zzc.eq_1]|rw[Zd Zt9.eq_1]|rw[Zd Zze.eq_1])
 all_goals (refine Ya ?_ h;clear h;simp +decide[*,kk,tI,tII,Z9u,Z9v,Zy9,Z9w,Z9x,Zzb,Z9y,Z9z,Zt7,Zzd,Zua,Zzf])
abbrev Zbvb:=Zey.1
abbrev Zbvc:=Zey.2.1
abbrev Zbek:=Zey.2.2.1
abbrev Zbvd:=Zey.2.2.2.1
abbrev Zbve:=Zey.2.2.2.2.1
abbrev Zbel:=Zey.2.2.2.2.2.1
abbrev Zbvf:=Zey.2.2.2.2.2.2.1
abbrev Zbvg:=Zey.2.2.2.2.2.2.2.1
abbrev Zbem:=Zey.2.2.2.2.2.2.2.2.1
abbrev Zben:=Zey.2.2.2.2.2.2.2.2.2.1
abbrev Zbeo:=Zey.2.2.2.2.2.2.2.2.2.2.1
abbrev Zbep:=Zey.2.2.2.2.2.2.2.2.2.2.2
theorem Zgm:(∀⦃a a1 r⦄,Im (Zmc a a1=some r) (Zia a ([]:List Int) a1 0=some r))/\
 (∀⦃cl b x x1 x2 r⦄,Im (Zme cl b x x1 x2=some r) (if x2<x1 then(0<=x2/\(∃e1,x[x2.toNat]?=some e1/\(∃v1,Zeh b e1=some (Bo v1,[])/\(if v1=true then(cl.length+1<=68719476736/\(Zme (cl++[e1]) b x x1 (w (x2+1))=some r))else(Zme cl b x x1 (w (x2+1))=some r)))))else(some (.own 0,[.arr 3 1 true (cl.map ic)])=some r)))/\
 (∀⦃a a1 r⦄,Im (Zub a a1=some r) (Zme ([]:List Int) a1 a (a.length:Int) 0=some r))/\
 (∀⦃a a1 a2 a3 r⦄,Im (Zmf a a1 a2 a3=some r) (if a1.Kind=1 then(∃v,Zz a1.Atom 0 (w ((a.Atoms.length:Int)-1))=some (Bo v,[])/\(if v=true then(if a1.Order=0 then(¬a1.Atom<0/\(0<=a1.Atom/\(∃e2,a.Atoms[a1.Atom.toNat]?=some e2/\(∃e3,e2.Vars[0]?=some e3/\(some (.tup [.agg [I (shlI 1 a1.Atom),I e3,I (-1),I (-1)],Bo true],[])=some r)))))else(some (.tup [.agg [I 0,I (-1),I (-1),I (-1)],Bo false],[])=some r))else(some (.tup [.agg [I 0,I (-1),I (-1),I (-1)],Bo false],[])=some r)))else(if a1.Atom=0 then(if a1.Kind=2 then(if(a3.length:Int)<1 then(some (.tup [.agg [I 0,I (-1),I (-1),I (-1)],Bo false],[])=some r)else(0<=(w ((a3.length:Int)-1))/\(∃e4,a3[(w ((a3.length:Int)-1)).toNat]?=some e4/\(0<=e4/\(∃e5,a2[e4.toNat]?=some e5/\(∃(v3:List Int),Zmc a e5.Mask=some (.own 0,[.arr 3 1 true (v3.map ic)])/\(∃v4,Zeh v3 a1.Order=some (Bo v4,[])/\(if v4=true then(if e5.Order=a1.Order then(some (.tup [.agg [I 0,I (-1),I (-1),I (-1)],Bo false],[])=some r)else(some (.tup [.agg [I e5.Mask,I a1.Order,I e4,I (-1)],Bo true],[])=some r))else(some (.tup [.agg [I 0,I (-1),I (-1),I (-1)],Bo false],[])=some r)))))))))else(if(a3.length:Int)<2 then(some (.tup [.agg [I 0,I (-1),I (-1),I (-1)],Bo false],[])=some r)else(0<=(w ((a3.length:Int)-2))/\(∃e8,a3[(w ((a3.length:Int)-2)).toNat]?=some e8/\(0<=(w ((a3.length:Int)-1))/\(∃e9,a3[(w ((a3.length:Int)-1)).toNat]?=some e9/\(0<=e8/\(∃e10,a2[e8.toNat]?=some e10/\(0<=e9/\(∃e11,a2[e9.toNat]?=some e11/\(∃(v5:List Int),Zmc a e10.Mask=some (.own 0,[.arr 3 1 true (v5.map ic)])/\(∃(v6:List Int),Zmc a e11.Mask=some (.own 0,[.arr 3 1 true (v6.map ic)])/\(∃(v7:List Int),Zub v5 v6=some (.own 0,[.arr 3 1 true (v7.map ic)])/\(if(andI e10.Mask e11.Mask)=0 then(if(v7.length:Int)=0 then(some (.tup [.agg [I (orI e10.Mask e11.Mask),I (-1),I e8,I e9],Bo false],[])=some r)else(if a1.Kind=3 then(some (.tup [.agg [I (orI e10.Mask e11.Mask),I (-1),I e8,I e9],Bo (decide (a1.Order=0))],[])=some r)else(if a1.Kind=5 then(some (.tup [.agg [I (orI e10.Mask e11.Mask),I e10.Order,I e8,I e9],Bo (decide (a1.Order=0))],[])=some r)else(if a1.Kind=4 then(∃v8,Zeh v7 a1.Order=some (Bo v8,[])/\(if v8=true then(if e10.Order=a1.Order then(some (.tup [.agg [I (orI e10.Mask e11.Mask),I a1.Order,I e8,I e9],Bo (decide (e11.Order=a1.Order))],[])=some r)else(some (.tup [.agg [I (orI e10.Mask e11.Mask),I a1.Order,I e8,I e9],Bo false],[])=some r))else(some (.tup [.agg [I (orI e10.Mask e11.Mask),I a1.Order,I e8,I e9],Bo false],[])=some r)))else(some (.tup [.agg [I (orI e10.Mask e11.Mask),I (-1),I e8,I e9],Bo false],[])=some r)))))else(some (.tup [.agg [I (orI e10.Mask e11.Mask),I (-1),I e8,I e9],Bo false],[])=some r)))))))))))))))else(some (.tup [.agg [I 0,I (-1),I (-1),I (-1)],Bo false],[])=some r))))/\
 (∀⦃q cd cc x x1 x2 r⦄,Im (Zjx q cd cc x x1 x2=some r) (if x2<x1 then(0<=x2/\(∃e1,x[x2.toNat]?=some e1/\(∃(v1:Za),∃v2,Zmf q e1 cd cc=some (.tup [.agg (v1.c.map .t),Bo v2],[])/\(if v2=true then(cd.length+1<=68719476736/\(if 0<=v1.Right then(0<=(w ((cc.length:Int)-2))/\((w ((cc.length:Int)-2)).toNat<=cc.length/\((w ((cc.length:Int)-2)).toNat+1<=68719476736/\(Zjx q (cd++[v1]) ((cc.take ((w ((cc.length:Int)-2)).toNat))++[x2]) x x1 (w (x2+1))=some r))))else(if 0<=v1.Left then(0<=(w ((cc.length:Int)-1))/\((w ((cc.length:Int)-1)).toNat<=cc.length/\((w ((cc.length:Int)-1)).toNat+1<=68719476736/\(Zjx q (cd++[v1]) ((cc.take ((w ((cc.length:Int)-1)).toNat))++[x2]) x x1 (w (x2+1))=some r))))else(cc.length+1<=68719476736/\(Zjx q (cd++[v1]) (cc++[x2]) x x1 (w (x2+1))=some r)))))else(some (.tup [.t .nil,Bo false],[])=some r)))))else(if(cc.length:Int)=1 then(some (.tup [.own 0,Bo true],[.arr 209 4 true (cd.map Za.c)])=some r)else(some (.tup [.t .nil,Bo false],[])=some r))))/\
 (∀⦃a a1 r⦄,Im (Zha a a1=some r) (∃v,Zg9 a=some (Bo v,[])/\(if v=true then(∃v1,Zz (a1.Steps.length:Int) 1 14=some (Bo v1,[])/\(if v1=true then(Zjx a ([]:List Za) ([]:List Int) a1.Steps (a1.Steps.length:Int) 0=some r)else(some (.tup [.t .nil,Bo false],[])=some r)))else(some (.tup [.t .nil,Bo false],[])=some r))))/\
 (∀⦃cl x x1 x2 r⦄,Im (Zmg cl x x1 x2=some r) (if x2<x1 then(0<=x2/\(∃e1,x[x2.toNat]?=some e1/\(if 3<=e1.Kind then(cl.length+1<=68719476736/\(Zmg (cl++[x2]) x x1 (w (x2+1))=some r))else(Zmg cl x x1 (w (x2+1))=some r))))else(some (.own 0,[.arr 3 1 true (cl.map ic)])=some r)))/\
 (∀⦃a r⦄,Im (Zpw a=some r) (Zmg ([]:List Int) a.Steps (a.Steps.length:Int) 0=some r))/\
 (∀⦃cd cn r⦄,Im (Zpy cd cn=some r) (0<=cn/\(∃e1,cd[cn.toNat]?=some e1/\(if 0<=e1.Left then(Zpy cd e1.Left=some r)else(some (I cn,[])=some r)))))/\
 (∀⦃a a1 r⦄,Im (Zpx a a1=some r) (Zpy a a1=some r)):=by
 and_intros
 all_goals intros
 all_goals unfold Im
 all_goals try simp only[Zmc,Zme,Zub,Zmf,Zjx,Zha,Zmg,Zpw,Zpy,Zpx,Zeh,Zz,Ze.c_def,Zf.c_def,Za.c_def,Zg9,Zia,mpl,dfs]
 all_goals try simp only[itb]
 all_goals try simp only[itf,gS,kk]
 all_goals repeat' first|refine exI λ_=>?_|refine anJ λ_ _=>?_|refine anI λ_=>?_|refine orE2 ?_ ?_|exact False.elim
 all_goals (intro h;first|refine run Zbrn rfl ?_|rw[Zd Zzg.eq_1]|refine run Zbro rfl ?_|refine run Zbrp rfl ?_|rw[Zd Zzi.eq_1]|refine run Zbrq rfl ?_|rw[Zd Zzk.eq_1]|refine run Zbrr rfl ?_|rw[Zd Zzm.eq_1]|refine run Zbrs rfl ?_)
 all_goals (refine Ya ?_ h;clear h;simp +decide[*,kk,tI,tII,Z90,Z91,Zzh,Z92,Z93,Z94,Zzj,Z95,Z96,Zzl,Z97,Zzn,Z98])
abbrev Zbvh:=Zgm.1
abbrev Zbeq:=Zgm.2.1
abbrev Zbvi:=Zgm.2.2.1
abbrev Zi3:=Zgm.2.2.2.1
abbrev Zber:=Zgm.2.2.2.2.1
abbrev Zbvj:=Zgm.2.2.2.2.2.1
abbrev Zbes:=Zgm.2.2.2.2.2.2.1
abbrev Zbvk:=Zgm.2.2.2.2.2.2.2.1
abbrev Zbvl:=Zgm.2.2.2.2.2.2.2.2.1
abbrev Zbvm:=Zgm.2.2.2.2.2.2.2.2.2
theorem Zbvn{a:Ze}{r:AV×List Blk}(h:(∃(v:Bool),Zz a.Zm 1 4=some (Bo v,[])/\(if v=true then(∃(v1:Bool),Zz (a.Atoms.length:Int) 1 4=some (Bo v1,[])/\(if v1=true then(0<=a.Zm/\(a.Zm.toNat*1<=room/\(a.Zm<=140737488355328/\(Zjw a (List.replicate (a.Zm).toNat false) a.Atoms (a.Atoms.length:Int) 0=some r))))else(some (Bo false,[])=some r)))else(some (Bo false,[])=some r)))):Zg9 a=some r:=by
 unfold Zg9;refine run Zbrm rfl ?_;obtain⟨v,q1,h⟩:=h;unfold Zz at q1
 try simp at q1
 by_cases q2:v=true
 .rw[if_pos q2]at h;obtain⟨v1,q3,h⟩:=h;unfold Zz at q3
  try simp at q3
  by_cases q4:v1=true
  .rw[if_pos q4]at h;obtain⟨q5,h⟩:=h;obtain⟨q6,h⟩:=h;have zq6:=q6;try simp at zq6
   obtain⟨q7,h⟩:=h;refine Ya ?_ h;clear h;simp +decide[*,Zt8,tI,tII,Zjw]
  .rw[if_neg q4]at h;refine Ya ?_ h;clear h;simp +decide[*,Zt8,tI,tII]
 .rw[if_neg q2]at h;refine Ya ?_ h;clear h;simp +decide[*,Zt8,tI,tII]
theorem Zez:(∀⦃a a1 r⦄,Im (Zzo a a1=some r) (some (Bo (decide (a.Name=a1)),[])=some r))/\
 (∀⦃s f x x1 r⦄,Im (Zpz s f x x1=some r) (if x1<x then(0<=x1/\(∃e1,s[x1.toNat]?=some e1/\(∃v1,Zzo e1 f=some (Bo v1,[])/\(if v1=true then(some (I x1,[])=some r)else(Zpz s f x (w (x1+1))=some r)))))else(some (I (-1),[])=some r)))/\
 (∀⦃a a1 r⦄,Im (Zuc a a1=some r) (Zpz a a1 (a.length:Int) 0=some r))/\
 (∀⦃cd cc x x1 x2 r⦄,Im (Zp0 cd cc x x1 x2=some r) (if x2<x1 then(0<=x2/\(∃e1,x[x2.toNat]?=some e1/\(∃v1,Zz e1 0 9=some (Bo v1,[])/\(if v1=true then(Zp0 cd cc x x1 (w (x2+1))=some r)else(some (Bo false,[])=some r)))))else(some (Bo (decide ((cd.length:Int)=cc)),[])=some r)))/\
 (∀⦃a a1 r⦄,Im (Zjy a a1=some r) (Zp0 a a1 a (a.length:Int) 0=some r))/\
 (∀⦃a r⦄,Im (Zud a=some r) (some (Bo (!(decide (a=a))),[])=some r))/\
 (∀⦃a a1 r⦄,Im (Zue a a1=some r) (∃v,Zud a=some (Bo v,[])/\(∃v1,Zud a1=some (Bo v1,[])/\(if v=true then(if v1=true then(some (I 0,[])=some r)else(some (I (-1),[])=some r))else(if v1=true then(some (I 1,[])=some r)else(if a<a1 then(some (I (-1),[])=some r)else(if a1<a then(some (I 1,[])=some r)else(some (I 0,[])=some r))))))))/\
 (∀⦃s1 s2 x x1 x2 r⦄,Im (Zp1 s1 s2 x x1 x2=some r) (if x2<x1 then(0<=x2/\(∃e1,x[x2.toNat]?=some e1/\(if(s2.length:Int)<=x2 then(some (I 1,[])=some r)else(∃e2,s2[x2.toNat]?=some e2/\(∃v2,Zue e1 e2=some (I v2,[])/\(if v2=0 then(Zp1 s1 s2 x x1 (w (x2+1))=some r)else(some (I v2,[])=some r)))))))else(if(s1.length:Int)<(s2.length:Int)then(some (I (-1),[])=some r)else(some (I 0,[])=some r))))/\
 (∀⦃a a1 r⦄,Im (Zzv a a1=some r) (Zp1 a a1 a (a.length:Int) 0=some r))/\
 (∀⦃a a1 r⦄,Im (Zuf a a1=some r) (∃v,Zzv a a1=some (I v,[])/\(some (I v,[])=some r)))/\
 (∀⦃c i r⦄,Im (Zp3 c i=some r) (if i<(c.length:Int)then(0<=(w (i-1))/\(∃e1,c[(w (i-1)).toNat]?=some e1/\(0<=i/\(∃e2,c[i.toNat]?=some e2/\(∃v2,Zuf e1 e2=some (I v2,[])/\(if 0<=v2 then(some (Bo false,[])=some r)else(Zp3 c (w (i+1))=some r)))))))else(some (Bo true,[])=some r)))/\
 (∀⦃a r⦄,Im (Zp2 a=some r) (Zp3 a 1=some r)):=by
 and_intros
 all_goals intros
 all_goals unfold Im
 all_goals try simp only[Zzo,Zpz,Zuc,Zp0,Zjy,Zud,Zue,Zp1,Zzv,Zuf,Zp3,Zp2,Zj.c_def,Zz,mpl,dfs]
 all_goals try simp only[itb]
 all_goals try simp only[itf,gS,kk]
 all_goals repeat' first|refine exI λ_=>?_|refine anJ λ_ _=>?_|refine anI λ_=>?_|refine orE2 ?_ ?_|exact False.elim
 all_goals (intro h;first|refine run Zbrt rfl ?_|rw[Zd Zzp.eq_1]|refine run Zbru rfl ?_|rw[Zd Zzr.eq_1]|refine run Zbrv rfl ?_|refine run Zbrw rfl ?_|refine run Zbrx rfl ?_|rw[Zd Zzt.eq_1]|refine run Zbry rfl ?_|refine run Zbrz rfl ?_|rw[Zd Zzw.eq_1]|refine run Zbr0 rfl ?_)
 all_goals (refine Ya ?_ h;clear h;simp +decide[*,kk,tI,tII,Z99,Zzq,Zbaa,Zzs,Zbab,Zbac,Zbad,Zzu,Zbae,Zbaf,Zzx,Zbag])
abbrev Zbvo:=Zez.1
abbrev Zbet:=Zez.2.1
abbrev Zbvp:=Zez.2.2.1
abbrev Zbeu:=Zez.2.2.2.1
abbrev Zbvq:=Zez.2.2.2.2.1
abbrev Zbev:=Zez.2.2.2.2.2.1
abbrev Zbvr:=Zez.2.2.2.2.2.2.1
abbrev Zbew:=Zez.2.2.2.2.2.2.2.1
abbrev Zbvs:=Zez.2.2.2.2.2.2.2.2.1
abbrev Zbvt:=Zez.2.2.2.2.2.2.2.2.2.1
abbrev Z4j:=Zez.2.2.2.2.2.2.2.2.2.2.1
abbrev Zbvu:=Zez.2.2.2.2.2.2.2.2.2.2.2
theorem Ze0:(∀⦃t x x1 x2 r⦄,Im (Zp4 t x x1 x2=some r) (if x2<x1 then(0<=x2/\(∃e1,x[x2.toNat]?=some e1/\(∃v1,Zjy e1 t.Arity=some (Bo v1,[])/\(if v1=true then(Zp4 t x x1 (w (x2+1))=some r)else(some (Bo false,[])=some r)))))else(∃v3,Zmb t.Name=some (Bo v3,[])/\(if v3=true then(∃v6,Zz t.Arity 1 3=some (Bo v6,[])/\(if v6=true then(if(t.Rows.length:Int)<=8 then(∃v9,Zp2 t.Rows=some (Bo v9,[])/\(some (Bo v9,[])=some r))else(some (Bo false,[])=some r))else(some (Bo false,[])=some r)))else(some (Bo false,[])=some r)))))/\
 (∀⦃a r⦄,Im (Zug a=some r) (Zp4 a a.Rows (a.Rows.length:Int) 0=some r))/\
 (∀⦃db x x1 x2 r⦄,Im (Zmh db x x1 x2=some r) (if x2<x1 then(0<=x2/\(∃e1,x[x2.toNat]?=some e1/\(∃v1,Zug e1=some (Bo v1,[])/\(if v1=true then(if 0<x2 then(0<=(w (x2-1))/\(∃e3,db.Tables[(w (x2-1)).toNat]?=some e3/\(if(Op.bytesLess e3.Name.toList e1.Name.toList)=true then(Zmh db x x1 (w (x2+1))=some r)else(some (Bo false,[])=some r))))else(Zmh db x x1 (w (x2+1))=some r))else(some (Bo false,[])=some r)))))else(some (Bo (decide ((db.Tables.length:Int)<=6)),[])=some r)))/\
 (∀⦃a r⦄,Im (Zuh a=some r) (Zmh a a.Tables (a.Tables.length:Int) 0=some r))/\
 (∀⦃a r⦄,Im (Zdz a=some r) (a.length<=68719476736/\(some (.own 0,[.arr 3 1 true (a.map ic)])=some r)))/\
 (∀⦃c x x1 x2 r⦄,Im (Zp5 c x x1 x2=some r) (if x2<x1 then(0<=x2/\(∃e1,x[x2.toNat]?=some e1/\(∃(v1:List Int),Zdz e1=some (.own 0,[.arr 3 1 true (v1.map ic)])/\(c.length+1<=68719476736/\(Zp5 (c++[v1]) x x1 (w (x2+1))=some r)))))else(some (.own 0,[.arr 30 1 true (c.map isc)])=some r)))/\
 (∀⦃a r⦄,Im (Zib a=some r) (Zp5 ([]:List (List Int)) a (a.length:Int) 0=some r))/\
 (∀⦃a r⦄,Im (Zz4 a=some r) (∃(v:List (List Int)),Zib a.Rows=some (.own 0,[.arr 30 1 true (v.map isc)])/\(some (.agg [.t (.str a.Name),I a.Arity,.own 0],[.arr 30 1 true (v.map isc)])=some r)))/\
 (∀⦃a a1 r⦄,Im (Zic a a1=some r) (∃v,Zuc a.Tables a1=some (I v,[])/\(if v<0 then(some (.tup [.agg [.t (.str ⟨#[]⟩),I 0,.t .nil],Bo false],[])=some r)else(∃v1,Zuh a=some (Bo v1,[])/\(if v1=true then(0<=v/\(∃e3,a.Tables[v.toNat]?=some e3/\(∃(v6:List (List Int)),∃v7,∃v8,Zz4 e3=some (.agg [.t (.str v7),I v8,.own 0],[.arr 30 1 true (v6.map isc)])/\(some (.tup [.agg [.t (.str v7),I v8,.own 0],Bo true],[.arr 30 1 true (v6.map isc)])=some r))))else(some (.tup [.agg [.t (.str ⟨#[]⟩),I 0,.t .nil],Bo false],[])=some r))))))/\
 (∀⦃db x x1 x2 r⦄,Im (Zp6 db x x1 x2=some r) (if x2<x1 then(0<=x2/\(∃e1,x[x2.toNat]?=some e1/\((∃v1 v2,Zic db e1.Name=some (.tup [.agg [.t (.str v1),I v2,.t .nil],Bo false],[])/\(some (Bo false,[])=some r))\/(∃(v3:List (List Int)),∃v4,∃v5,Zic db e1.Name=some (.tup [.agg [.t (.str v4),I v5,.own 0],Bo true],[.arr 30 1 true (v3.map isc)])/\(if v5=(e1.Vars.length:Int)then(Zp6 db x x1 (w (x2+1))=some r)else(some (Bo false,[])=some r))))))else(some (Bo true,[])=some r)))/\
 (∀⦃a a1 r⦄,Im (Zjz a a1=some r) (∃v,Zg9 a1=some (Bo v,[])/\(if v=true then(Zp6 a a1.Atoms (a1.Atoms.length:Int) 0=some r)else(some (Bo false,[])=some r))))/\
 (∀⦃a x x1 x2 x3 r⦄,Im (Zul a x x1 x2 x3=some r) (if x3<x2 then(0<=x3/\(∃e1,x1[x3.toNat]?=some e1/\(Zmi a x ([]:List Int) x1 e1 x2 x3 (x.length:Int) 0=some r)))else(some (.tup [.agg [.own 0,.t .nil],Bo true],[.arr 3 1 true (x.map ic)])=some r))):=by
 and_intros
 all_goals intros
 all_goals unfold Im
 all_goals try simp only[Zp4,Zug,Zmh,Zuh,Zdz,Zp5,Zib,Zz4,Zic,Zp6,Zjz,Zul,Zjy,Zmb,Zz,Zp2,Zj.c_def,Zuc,Zl.c_def,Zg9,Ze.c_def,Zmi,mpl,dfs]
 all_goals try simp only[itb]
 all_goals try simp only[itf,gS,kk]
 all_goals repeat' first|refine exI λ_=>?_|refine anJ λ_ _=>?_|refine anI λ_=>?_|refine orE2 ?_ ?_|exact False.elim
 all_goals (intro h;first|rw[Zd Zzy.eq_1]|refine run Zbr1 rfl ?_|rw[Zd Zz0.eq_1]|refine run Zbr2 rfl ?_|refine run Zbr3 rfl ?_|rw[Zd Zz2.eq_1]|refine run Zbr4 rfl ?_|refine run Zbr5 rfl ?_|refine run Zbr6 rfl ?_|rw[Zd Zz5.eq_1]|refine run Zbr7 rfl ?_|rw[Zd Zid.eq_1])
 all_goals (refine Ya ?_ h;clear h;simp +decide[*,kk,tI,tII,Zzz,Zbah,Zz1,Zbai,Zbaj,Zz3,Zbak,Zbal,Zbam,Zz6,Zban,Zie])
abbrev Zbex:=Ze0.1
abbrev Zbvv:=Ze0.2.1
abbrev Zbey:=Ze0.2.2.1
abbrev Zbvw:=Ze0.2.2.2.1
abbrev Zbvx:=Ze0.2.2.2.2.1
abbrev Zbez:=Ze0.2.2.2.2.2.1
abbrev Zbvy:=Ze0.2.2.2.2.2.2.1
abbrev Zbvz:=Ze0.2.2.2.2.2.2.2.1
abbrev Zbv0:=Ze0.2.2.2.2.2.2.2.2.1
abbrev Zbe0:=Ze0.2.2.2.2.2.2.2.2.2.1
abbrev Zbv1:=Ze0.2.2.2.2.2.2.2.2.2.2.1
abbrev Zbv2:=Ze0.2.2.2.2.2.2.2.2.2.2.2
theorem Zv4:(∀⦃a x x1 x2 c x3 x4 x5 x6 r⦄,Im (Zmi a x x1 x2 c x3 x4 x5 x6=some r) (if x6<x5 then(0<=x6/\(∃e1,x[x6.toNat]?=some e1/\(∃v1,Zda a.Vars e1=some (I v1,[])/\(0<=v1/\(∃e3,c[v1.toNat]?=some e3/\(x1.length+1<=68719476736/\(Zmi a x (x1++[e3]) x2 c x3 x4 x5 (w (x6+1))=some r)))))))else(Zj2 a x ([x1]) x2 x3 (w (x4+1))=some r)))/\
 (∀⦃a x x1 x2 x3 x4 r⦄,Im (Zj2 a x x1 x2 x3 x4=some r) (if x4<x3 then(0<=x4/\(∃e1,x2[x4.toNat]?=some e1/\(Zp7 a x x1 ([]:List Int) x2 e1 x3 x4 (x.length:Int) 0=some r)))else(some (.tup [.agg [.own 0,.own 1],Bo true],[.arr 3 1 true (x.map ic),.arr 30 1 true (x1.map isc)])=some r)))/\
 (∀⦃a x x1 x2 x3 c x4 x5 x6 x7 r⦄,Im (Zp7 a x x1 x2 x3 c x4 x5 x6 x7=some r) (if x7<x6 then(0<=x7/\(∃e1,x[x7.toNat]?=some e1/\(∃v1,Zda a.Vars e1=some (I v1,[])/\(0<=v1/\(∃e3,c[v1.toNat]?=some e3/\(x2.length+1<=68719476736/\(Zp7 a x x1 (x2++[e3]) x3 c x4 x5 x6 (w (x7+1))=some r)))))))else(x1.length+1<=68719476736/\(Zj2 a x (x1++[x2]) x3 x4 (w (x5+1))=some r))))/\
 (∀⦃a a1 a2 r⦄,Im (Zj1 a a1 a2=some r) (∃v,Zjz a a1=some (Bo v,[])/\(if v=true then(∃v1,Zz a2 0 (w ((a1.Atoms.length:Int)-1))=some (Bo v1,[])/\(if v1=true then(0<=a2/\(∃e3,a1.Atoms[a2.toNat]?=some e3/\((∃v2 v3,Zic a e3.Name=some (.tup [.agg [.t (.str v2),I v3,.t .nil],Bo false],[])/\(∃(v4:List Int),Zdz e3.Vars=some (.own 0,[.arr 3 1 true (v4.map ic)])/\(∃(v5:List Int),Zj0 v4=some (.tup [],[.arr 3 1 true (v5.map ic)])/\(Zbap e3 v5 0 0=some r))))\/(∃(v6:List (List Int)),∃v7,∃v8,Zic a e3.Name=some (.tup [.agg [.t (.str v7),I v8,.own 0],Bo true],[.arr 30 1 true (v6.map isc)])/\(∃(v9:List Int),Zdz e3.Vars=some (.own 0,[.arr 3 1 true (v9.map ic)])/\(∃(v10:List Int),Zj0 v9=some (.tup [],[.arr 3 1 true (v10.map ic)])/\(Zul e3 v10 v6 (v6.length:Int) 0=some r)))))))else(some (.tup [.agg [.t .nil,.t .nil],Bo false],[])=some r)))else(some (.tup [.agg [.t .nil,.t .nil],Bo false],[])=some r)))):=by
 and_intros
 all_goals intros
 all_goals unfold Im
 all_goals try simp only[Zmi,Zj2,Zp7,Zj1,Zda,Zjz,Zz,Zic,Zdz,Zj0,Zl.c_def,Ze.c_def,Zbap,Zul,mpl,dfs]
 all_goals try simp only[itb]
 all_goals try simp only[itf,gS,kk]
 all_goals repeat' first|refine exI λ_=>?_|refine anJ λ_ _=>?_|refine anI λ_=>?_|refine orE2 ?_ ?_|exact False.elim
 all_goals (intro h;first|rw[Zd Zui.eq_1]|rw[Zd Zid.eq_1]|refine run Zbr8 rfl ?_)
 all_goals (refine Ya ?_ h;clear h;simp +decide[*,kk,tI,tII,Zuk,Zuj,Zie,Zbao])
abbrev Zbe1:=Zv4.1
abbrev Zbe2:=Zv4.2.1
abbrev Zbe3:=Zv4.2.2.1
abbrev Zbv3:=Zv4.2.2.2
end Go.Proofs.YtgnfoghkbpkgjaaGreat
namespace Go.AM
theorem setI(l:List (List Int))(i:Nat)(e:List Int):(l.map isc).set i [.lst 1 (e.map ic)]=(l.set i e).map isc:=by rw[List.map_set];rfl
theorem appI(l:List Int)(v:Int):l.map ic++[[.int .i64 v]]=(l++[v]).map ic:=by simp
theorem Zco(a b:Int)(k:IntKind):binT .shr (.int .u64 a) (.int k b)=if b<0 then none else some (.int .u64 (shrI a b)):=by simp[binT,shrI,IntKind.bits]
end Go.AM
namespace Go.Proofs.YtgnfoghkbpkgjaaGreat
open Go.AM
theorem Zn2:(∀⦃c cc x x1 x2 r⦄,Im (Zmj c cc x x1 x2=some r) (if x2<x1 then(0<=x2/\(∃e1,x[x2.toNat]?=some e1/\(∃v1,Zz e1 0 (w (cc-1))=some (Bo v1,[])/\(if v1=true then(if 0<x2 then(0<=(w (x2-1))/\(∃e3,c[(w (x2-1)).toNat]?=some e3/\(if e1<=e3 then(some (Bo false,[])=some r)else(Zmj c cc x x1 (w (x2+1))=some r))))else(Zmj c cc x x1 (w (x2+1))=some r))else(some (Bo false,[])=some r)))))else(some (Bo true,[])=some r)))/\
 (∀⦃a a1 r⦄,Im (Zz9 a a1=some r) (Zmj a a1 a (a.length:Int) 0=some r))/\
 (∀⦃a r⦄,Im (Z0a a=some r) (∃v,Zz9 a 4=some (Bo v,[])/\(some (Bo v,[])=some r)))/\
 (∀⦃s x x1 x2 r⦄,Im (Zp8 s x x1 x2=some r) (if x2<x1 then(0<=x2/\(∃e1,x[x2.toNat]?=some e1/\(∃v1,Zjy e1 (s.Vars.length:Int)=some (Bo v1,[])/\(if v1=true then(Zp8 s x x1 (w (x2+1))=some r)else(some (Bo false,[])=some r)))))else(∃v2,Z0a s.Vars=some (Bo v2,[])/\(if v2=true then(some (Bo (decide ((s.Rows.length:Int)<=4096)),[])=some r)else(some (Bo false,[])=some r)))))/\
 (∀⦃a r⦄,Im (Zd0 a=some r) (Zp8 a a.Rows (a.Rows.length:Int) 0=some r))/\
 (∀⦃x a a1 r⦄,Im (Zfl x a a1=some r) (0<=x/\(∃e1,a[x.toNat]?=some e1/\(∃e2,a1[x.toNat]?=some e2/\(some (I (w (e1-e2)),[.box [I x]])=some r))))):=by
 and_intros
 all_goals intros
 all_goals unfold Im
 all_goals try simp only[Zmj,Zz9,Z0a,Zp8,Zd0,Zfl,Zz,Zjy,mpl,dfs]
 all_goals try simp only[itb]
 all_goals try simp only[itf,gS,kk]
 all_goals repeat' first|refine exI λ_=>?_|refine anJ λ_ _=>?_|refine anI λ_=>?_|refine orE2 ?_ ?_|exact False.elim
 all_goals (intro h;first|rw[Zd Zz7.eq_1]|refine run Zbr9 rfl ?_|refine run Zbsa rfl ?_|rw[Zd Z0b.eq_1]|refine run Zbsb rfl ?_|refine runM Zbsc rfl ?_)
 all_goals (refine Ya ?_ h;clear h;simp +decide[*,kk,tI,tII,Zz8,Zbaq,Zbar,Z0c,Zbas,Zbat])
abbrev Zbe4:=Zn2.1
abbrev Zbv4:=Zn2.2.1
abbrev Zbv5:=Zn2.2.2.1
abbrev Zbe5:=Zn2.2.2.2.1
abbrev Zbv6:=Zn2.2.2.2.2.1
abbrev Zbv7:=Zn2.2.2.2.2.2
theorem Zbe6{fr:Bool}{c:List (List Int)}{x a b i:Int}{r:AV×List Blk}(h:(if i<b then(Zj3 fr c x a b i i=some r)else(some (.tup [],[.arr 30 1 fr (c.map isc),.box [I x]])=some r))):Zhb fr c x a b i=some r:=by
 unfold Zhb;rw[Zd Zum.eq_1]
 try simp only[itb]at h
 try simp only[itf,gS,kk]at h
 rcases h with⟨q1,h⟩|⟨q1,h⟩
 all_goals (refine Ya ?_ h;clear h;simp +decide[*,-List.map_set,setI,Zco,kk,tI,tII,Zj3])
theorem Zv5{fr:Bool}{c:List (List Int)}{x a b i j:Int}{r:AV×List Blk}(h:(if a<j then(0<=j/\(∃(e1:List Int),c[j.toNat]?=some e1/\(0<=(w (j-1))/\(∃(e2:List Int),c[(w (j-1)).toNat]?=some e2/\(∃(v:Int) (v1:Int),Zfl x e1 e2=some (I v1,[.box [I v]])/\(if v1<0 then(∃(e4:List Int),(c.set j.toNat e2)[(w (j-1)).toNat]?=some e4/\(Zj3 false ((c.set j.toNat e2).set ((w (j-1)).toNat) e1) v a b i (w (j-1))=some r))else(Zhb fr c v a b (w (i+1))=some r)))))))else(Zhb fr c x a b (w (i+1))=some r))):Zj3 fr c x a b i j=some r:=by
 unfold Zj3;rw[Zd Z0d.eq_1];simp only[Zfl,mpl,dfs]at h
 try simp only[itb]at h
 try simp only[itf,gS,kk]at h
 rcases h with⟨q1,q2,e1,⟨g3,q3⟩,q4,e2,⟨g5,q5⟩,v,v1,q6,(⟨q7,e4,⟨g8,q8⟩,h⟩|⟨q7,h⟩)⟩|⟨q1,h⟩
 all_goals (refine Ya ?_ h;clear h;simp +decide[*,-List.map_set,setI,Zco,kk,tI,tII,Zj3,Zhb,Z0e])
theorem Zbv8{fr:Bool}{x:List (List Int)}{x1 a a1:Int}{r:AV×List Blk}(h:(Zhb fr x x1 a a1 (w (a+1))=some r)):Zmk fr x x1 a a1=some r:=by
 unfold Zmk;refine runM Zbsd rfl ?_;refine Ya ?_ h;clear h;simp +decide[*,-List.map_set,setI,Zco,kk,tI,tII,Zbau,Zhb]
theorem Zbe7{fr:Bool}{c:List (List Int)}{x a b n i:Int}{r:AV×List Blk}(h:(if i<n then(0<=(w (b+i))/\(∃(e1:List Int),c[(w (b+i)).toNat]?=some e1/\(0<=(w (a+i))/\(∃(e2:List Int),c[(w (a+i)).toNat]?=some e2/\(∃(e3:List Int),(c.set ((w (a+i)).toNat) e1)[(w (b+i)).toNat]?=some e3/\(Zj5 false ((c.set ((w (a+i)).toNat) e1).set ((w (b+i)).toNat) e2) x a b n (w (i+1))=some r))))))else(some (.tup [],[.arr 30 1 fr (c.map isc),.box [I x]])=some r))):Zj5 fr c x a b n i=some r:=by
 unfold Zj5;rw[Zd Z0f.eq_1]
 try simp only[itb]at h
 try simp only[itf,gS,kk]at h
 rcases h with⟨q1,q2,e1,⟨g3,q3⟩,q4,e2,⟨g5,q5⟩,e3,⟨g6,q6⟩,h⟩|⟨q1,h⟩
 all_goals (refine Ya ?_ h;clear h;simp +decide[*,-List.map_set,setI,Zco,kk,tI,tII,Zj5])
theorem Zbv9{fr:Bool}{x:List (List Int)}{x1 a a1 a2:Int}{r:AV×List Blk}(h:(Zj5 fr x x1 a a1 a2 0=some r)):Zj4 fr x x1 a a1 a2=some r:=by
 unfold Zj4;refine runM Zbse rfl ?_;refine Ya ?_ h;clear h;simp +decide[*,-List.map_set,setI,Zco,kk,tI,tII,Zbav,Zj5]
theorem Z4k{fr:Bool}{c:List (List Int)}{x m i j:Int}{r:AV×List Blk}(h:(if i=j then(∃(v:Bool) (v1:List (List Int)) (v2:Int),Zj4 fr c x (w (m-i)) m i=some (.tup [],[.arr 30 1 v (v1.map isc),.box [I v2]])/\(some (.tup [],[.arr 30 1 v (v1.map isc),.box [I v2]])=some r))else(if j<i then(∃(v3:Bool) (v4:List (List Int)) (v5:Int),Zj4 fr c x (w (m-i)) m j=some (.tup [],[.arr 30 1 v3 (v4.map isc),.box [I v5]])/\(Zif v3 v4 v5 m (w (i-j)) j=some r))else(∃(v6:Bool) (v7:List (List Int)) (v8:Int),Zj4 fr c x (w (m-i)) (w ((w (m+j))-i)) i=some (.tup [],[.arr 30 1 v6 (v7.map isc),.box [I v8]])/\(Zif v6 v7 v8 m i (w (j-i))=some r))))):Zif fr c x m i j=some r:=by
 unfold Zif;rw[Zd Z0g.eq_1];simp only[Zj4,mpl,dfs]at h
 try simp only[itb]at h
 try simp only[itf,gS,kk]at h
 rcases h with⟨q1,v,v1,v2,q2,h⟩|⟨q1,(⟨q3,v3,v4,v5,q4,h⟩|⟨q3,v6,v7,v8,q5,h⟩)⟩
 all_goals (refine Ya ?_ h;clear h;simp +decide[*,-List.map_set,setI,Zco,kk,tI,tII,Z0h,Zif])
theorem Zbwa{fr:Bool}{x:List (List Int)}{x1 a a1 a2:Int}{r:AV×List Blk}(h:(Zif fr x x1 a1 (w (a1-a)) (w (a2-a1))=some r)):Zp9 fr x x1 a a1 a2=some r:=by
 unfold Zp9;refine runM Zbsf rfl ?_;refine Ya ?_ h;clear h;simp +decide[*,-List.map_set,setI,Zco,kk,tI,tII,Zbaw,Zif]
theorem Z4l{fr:Bool}{c:List (List Int)}{x a i j:Int}{r:AV×List Blk}(h:(if i<j then(0<=(w (shrI (IntKind.wrap .u64 (w (i+j))) 1))/\(∃(e1:List Int),c[(w (shrI (IntKind.wrap .u64 (w (i+j))) 1)).toNat]?=some e1/\(0<=a/\(∃(e2:List Int),c[a.toNat]?=some e2/\(∃(v:Int) (v1:Int),Zfl x e1 e2=some (I v1,[.box [I v]])/\(if v1<0 then(Zig fr c v a (w ((w (shrI (IntKind.wrap .u64 (w (i+j))) 1))+1)) j=some r)else(Zig fr c v a i (w (shrI (IntKind.wrap .u64 (w (i+j))) 1))=some r)))))))else(Zj6 fr c x i a=some r))):Zig fr c x a i j=some r:=by
 unfold Zig;rw[Zd Z0i.eq_1];simp only[Zfl,mpl,dfs]at h
 try simp only[itb]at h
 try simp only[itf,gS,kk]at h
 rcases h with⟨q1,q2,e1,⟨g3,q3⟩,q4,e2,⟨g5,q5⟩,v,v1,q6,(⟨q7,h⟩|⟨q7,h⟩)⟩|⟨q1,h⟩
 all_goals (refine Ya ?_ h;clear h;simp +decide[*,-List.map_set,setI,Zco,kk,tI,tII,Zig,Zj6,Z0l])
theorem Z4m{fr:Bool}{c:List (List Int)}{x m i j:Int}{r:AV×List Blk}(h:(if i<j then(0<=m/\(∃(e1:List Int),c[m.toNat]?=some e1/\(0<=(w (shrI (IntKind.wrap .u64 (w (i+j))) 1))/\(∃(e2:List Int),c[(w (shrI (IntKind.wrap .u64 (w (i+j))) 1)).toNat]?=some e2/\(∃(v:Int) (v1:Int),Zfl x e1 e2=some (I v1,[.box [I v]])/\(if v1<0 then(Zih fr c v m i (w (shrI (IntKind.wrap .u64 (w (i+j))) 1))=some r)else(Zih fr c v m (w ((w (shrI (IntKind.wrap .u64 (w (i+j))) 1))+1)) j=some r)))))))else(Zj7 fr c x i m=some r))):Zih fr c x m i j=some r:=by
 unfold Zih;rw[Zd Z0m.eq_1];simp only[Zfl,mpl,dfs]at h
 try simp only[itb]at h
 try simp only[itf,gS,kk]at h
 rcases h with⟨q1,q2,e1,⟨g3,q3⟩,q4,e2,⟨g5,q5⟩,v,v1,q6,(⟨q7,h⟩|⟨q7,h⟩)⟩|⟨q1,h⟩
 all_goals (refine Ya ?_ h;clear h;simp +decide[*,-List.map_set,setI,Zco,kk,tI,tII,Zih,Zj7,Z0p])
theorem Zrz{fr:Bool}{cc:List (List Int)}{x a m b cd n c cl p:Int}{r:AV×List Blk}(h:(if c<cl then(0<=(w (p-(w (shrI (IntKind.wrap .u64 (w (c+cl))) 1))))/\(∃(e1:List Int),cc[(w (p-(w (shrI (IntKind.wrap .u64 (w (c+cl))) 1)))).toNat]?=some e1/\(0<=(w (shrI (IntKind.wrap .u64 (w (c+cl))) 1))/\(∃(e2:List Int),cc[(w (shrI (IntKind.wrap .u64 (w (c+cl))) 1)).toNat]?=some e2/\(∃(v:Int) (v1:Int),Zfl x e1 e2=some (I v1,[.box [I v]])/\(if v1<0 then(Zhc fr cc v a m b cd n c (w (shrI (IntKind.wrap .u64 (w (c+cl))) 1)) p=some r)else(Zhc fr cc v a m b cd n (w ((w (shrI (IntKind.wrap .u64 (w (c+cl))) 1))+1)) cl p=some r)))))))else(if c<m then(if m<(w (n-c))then(∃(v2:Bool) (v3:List (List Int)) (v4:Int),Zp9 fr cc x c m (w (n-c))=some (.tup [],[.arr 30 1 v2 (v3.map isc),.box [I v4]])/\(if a<c then(if c<cd then(∃(v5:Bool) (v6:List (List Int)) (v7:Int),Zdb v2 v3 v4 a c cd=some (.tup [],[.arr 30 1 v5 (v6.map isc),.box [I v7]])/\(Zhd v5 v6 v7 b cd (w (n-c))=some r))else(Zfm v2 v3 v4 a b cd c (w (n-c)) false=some r))else(Zfm v2 v3 v4 a b cd c (w (n-c)) false=some r)))else(Zml fr cc x a m b cd c (w (n-c)) false=some r))else(Zml fr cc x a m b cd c (w (n-c)) false=some r)))):Zhc fr cc x a m b cd n c cl p=some r:=by
 unfold Zhc;rw[Zd Z0q.eq_1];simp only[Zfl,Zp9,Zdb,mpl,dfs]at h
 try simp only[itb]at h
 try simp only[itf,gS,kk]at h
 rcases h with⟨q1,q2,e1,⟨g3,q3⟩,q4,e2,⟨g5,q5⟩,v,v1,q6,(⟨q7,h⟩|⟨q7,h⟩)⟩|⟨q1,(⟨q8,(⟨q9,v2,v3,v4,q10,(⟨q11,(⟨q12,v5,v6,v7,q13,h⟩|⟨q12,h⟩)⟩|⟨q11,h⟩)⟩|⟨q9,h⟩)⟩|⟨q8,h⟩)⟩
 all_goals (refine Ya ?_ h;clear h;simp +decide[*,-List.map_set,setI,Zco,kk,tI,tII,Zhc,Zhd,Zun,Z0r,Zfm,Zml])
theorem Zbe8{fr:Bool}{c:List (List Int)}{x i k:Int}{r:AV×List Blk}(h:(if k<(w (i-1))then(0<=(w (k+1))/\(∃(e1:List Int),c[(w (k+1)).toNat]?=some e1/\(0<=k/\(∃(e2:List Int),c[k.toNat]?=some e2/\(∃(e3:List Int),(c.set k.toNat e1)[(w (k+1)).toNat]?=some e3/\(Zj6 false ((c.set k.toNat e1).set ((w (k+1)).toNat) e2) x i (w (k+1))=some r))))))else(some (.tup [],[.arr 30 1 fr (c.map isc),.box [I x]])=some r))):Zj6 fr c x i k=some r:=by
 unfold Zj6;rw[Zd Z0j.eq_1]
 try simp only[itb]at h
 try simp only[itf,gS,kk]at h
 rcases h with⟨q1,q2,e1,⟨g3,q3⟩,q4,e2,⟨g5,q5⟩,e3,⟨g6,q6⟩,h⟩|⟨q1,h⟩
 all_goals (refine Ya ?_ h;clear h;simp +decide[*,-List.map_set,setI,Zco,kk,tI,tII,Zj6,Z0k])
theorem Zbe9{fr:Bool}{c:List (List Int)}{x i k:Int}{r:AV×List Blk}(h:(if i<k then(0<=(w (k-1))/\(∃(e1:List Int),c[(w (k-1)).toNat]?=some e1/\(0<=k/\(∃(e2:List Int),c[k.toNat]?=some e2/\(∃(e3:List Int),(c.set k.toNat e1)[(w (k-1)).toNat]?=some e3/\(Zj7 false ((c.set k.toNat e1).set ((w (k-1)).toNat) e2) x i (w (k-1))=some r))))))else(some (.tup [],[.arr 30 1 fr (c.map isc),.box [I x]])=some r))):Zj7 fr c x i k=some r:=by
 unfold Zj7;rw[Zd Z0n.eq_1]
 try simp only[itb]at h
 try simp only[itf,gS,kk]at h
 rcases h with⟨q1,q2,e1,⟨g3,q3⟩,q4,e2,⟨g5,q5⟩,e3,⟨g6,q6⟩,h⟩|⟨q1,h⟩
 all_goals (refine Ya ?_ h;clear h;simp +decide[*,-List.map_set,setI,Zco,kk,tI,tII,Zj7,Z0o])
theorem Zbfa{fr:Bool}{c:List (List Int)}{x b cc x1:Int}{r:AV×List Blk}(h:(if cc<x1 then(if x1<b then(∃(v:Bool) (v1:List (List Int)) (v2:Int),Zdb fr c x cc x1 b=some (.tup [],[.arr 30 1 v (v1.map isc),.box [I v2]])/\(some (.tup [],[.arr 30 1 v (v1.map isc),.box [I v2]])=some r))else(some (.tup [],[.arr 30 1 fr (c.map isc),.box [I x]])=some r))else(some (.tup [],[.arr 30 1 fr (c.map isc),.box [I x]])=some r))):Zhd fr c x b cc x1=some r:=by
 unfold Zhd;rw[Ev_eq Zqa.eq_1];simp only[Zdb,mpl,dfs]at h
 try simp only[itb]at h
 try simp only[itf,gS,kk]at h
 rcases h with⟨q1,(⟨q2,v,v1,v2,q3,h⟩|⟨q2,h⟩)⟩|⟨q1,h⟩
 all_goals (refine Ya ?_ h;clear h;simp +decide[*,-List.map_set,setI,Zco,kk,tI,tII])
theorem Zbfb{fr:Bool}{c:List (List Int)}{x a b cc cd x1:Int}{x2:Bool}{r:AV×List Blk}(h:(if cc<x1 then(if x1<b then(∃(v:Bool) (v1:List (List Int)) (v2:Int),Zdb fr c x cc x1 b=some (.tup [],[.arr 30 1 v (v1.map isc),.box [I v2]])/\(some (.tup [],[.arr 30 1 v (v1.map isc),.box [I v2]])=some r))else(some (.tup [],[.arr 30 1 fr (c.map isc),.box [I x]])=some r))else(some (.tup [],[.arr 30 1 fr (c.map isc),.box [I x]])=some r))):Zfm fr c x a b cc cd x1 x2=some r:=by
 unfold Zfm;rw[Ev_eq Zqa.eq_1];simp only[Zdb,mpl,dfs]at h
 try simp only[itb]at h
 try simp only[itf,gS,kk]at h
 rcases h with⟨q1,(⟨q2,v,v1,v2,q3,h⟩|⟨q2,h⟩)⟩|⟨q1,h⟩
 all_goals (refine Ya ?_ h;clear h;simp +decide[*,-List.map_set,setI,Zco,kk,tI,tII])
theorem Zbfc{fr:Bool}{cd:List (List Int)}{x a m b cc c x1:Int}{x2:Bool}{r:AV×List Blk}(h:(if a<c then(if c<cc then(∃(v:Bool) (v1:List (List Int)) (v2:Int),Zdb fr cd x a c cc=some (.tup [],[.arr 30 1 v (v1.map isc),.box [I v2]])/\(Zhd v v1 v2 b cc x1=some r))else(Zfm fr cd x a b cc c x1 false=some r))else(Zfm fr cd x a b cc c x1 false=some r))):Zml fr cd x a m b cc c x1 x2=some r:=by
 unfold Zml;rw[Ev_eq Zun.eq_1];simp only[Zdb,mpl,dfs]at h
 try simp only[itb]at h
 try simp only[itf,gS,kk]at h
 rcases h with⟨q1,(⟨q2,v,v1,v2,q3,h⟩|⟨q2,h⟩)⟩|⟨q1,h⟩
 all_goals (refine Ya ?_ h;clear h;simp +decide[*,-List.map_set,setI,Zco,kk,tI,tII,Zhd,Zfm])
theorem Zv6{fr:Bool}{x:List (List Int)}{x1 a a1 a2:Int}{r:AV×List Blk}(h:(if(w (a1-a))=1 then(Zig fr x x1 a a1 a2=some r)else(if(w (a2-a1))=1 then(Zih fr x x1 a1 a a1=some r)else(if(w (shrI (IntKind.wrap .u64 (w (a+a2))) 1))<a1 then(Zhc fr x x1 a a1 a2 (w (shrI (IntKind.wrap .u64 (w (a+a2))) 1)) (w ((w (shrI (IntKind.wrap .u64 (w (a+a2))) 1))+a1)) (w ((w ((w (shrI (IntKind.wrap .u64 (w (a+a2))) 1))+a1))-a2)) (w (shrI (IntKind.wrap .u64 (w (a+a2))) 1)) (w ((w ((w (shrI (IntKind.wrap .u64 (w (a+a2))) 1))+a1))-1))=some r)else(Zhc fr x x1 a a1 a2 (w (shrI (IntKind.wrap .u64 (w (a+a2))) 1)) (w ((w (shrI (IntKind.wrap .u64 (w (a+a2))) 1))+a1)) a a1 (w ((w ((w (shrI (IntKind.wrap .u64 (w (a+a2))) 1))+a1))-1))=some r))))):Zdb fr x x1 a a1 a2=some r:=by
 unfold Zdb;refine runM Zbsg rfl ?_
 try simp only[itb]at h
 try simp only[itf,gS,kk]at h
 rcases h with⟨q1,h⟩|⟨q1,(⟨q2,h⟩|⟨q2,(⟨q3,h⟩|⟨q3,h⟩)⟩)⟩
 all_goals (refine Ya ?_ h;clear h;simp +decide[*,-List.map_set,setI,Zco,kk,tI,tII,Zbay,Zig,Zih,Zup,Zhc,Zbax,Zuo])
theorem Zbfd{fr:Bool}{cc:List (List Int)}{x n c a b:Int}{r:AV×List Blk}(h:(if b<=n then(∃(v:Bool) (v1:List (List Int)) (v2:Int),Zmk fr cc x a b=some (.tup [],[.arr 30 1 v (v1.map isc),.box [I v2]])/\(Zj8 v v1 v2 n c b (w (b+c))=some r))else(∃(v3:Bool) (v4:List (List Int)) (v5:Int),Zmk fr cc x a n=some (.tup [],[.arr 30 1 v3 (v4.map isc),.box [I v5]])/\(Zhe v3 v4 v5 n c=some r)))):Zj8 fr cc x n c a b=some r:=by
 unfold Zj8;rw[Zd Z0s.eq_1];simp only[Zmk,mpl,dfs]at h
 try simp only[itb]at h
 try simp only[itf,gS,kk]at h
 rcases h with⟨q1,v,v1,v2,q2,h⟩|⟨q1,v3,v4,v5,q3,h⟩
 all_goals (refine Ya ?_ h;clear h;simp +decide[*,-List.map_set,setI,Zco,kk,tI,tII,Zj8,Zhe,Z0v])
theorem Zbfe{fr:Bool}{cc:List (List Int)}{x n c:Int}{r:AV×List Blk}(h:(if c<n then(Zj9 fr cc x n c 0 (w (2*c))=some r)else(some (.tup [],[.arr 30 1 fr (cc.map isc),.box [I x]])=some r))):Zhe fr cc x n c=some r:=by
 unfold Zhe;rw[Zd Zuq.eq_1]
 try simp only[itb]at h
 try simp only[itf,gS,kk]at h
 rcases h with⟨q1,h⟩|⟨q1,h⟩
 all_goals (refine Ya ?_ h;clear h;simp +decide[*,-List.map_set,setI,Zco,kk,tI,tII,Zj9])
theorem Z4n{fr:Bool}{cc:List (List Int)}{x n c a b:Int}{r:AV×List Blk}(h:(if b<=n then(∃(v:Bool) (v1:List (List Int)) (v2:Int),Zdb fr cc x a (w (a+c)) b=some (.tup [],[.arr 30 1 v (v1.map isc),.box [I v2]])/\(Zj9 v v1 v2 n c b (w (b+(w (2*c))))=some r))else(if(w (a+c))<n then(∃(v3:Bool) (v4:List (List Int)) (v5:Int),Zdb fr cc x a (w (a+c)) n=some (.tup [],[.arr 30 1 v3 (v4.map isc),.box [I v5]])/\(Zhe v3 v4 v5 n (w (c*2))=some r))else(Zhe fr cc x n (w (c*2))=some r)))):Zj9 fr cc x n c a b=some r:=by
 unfold Zj9;rw[Zd Z0t.eq_1];simp only[Zdb,mpl,dfs]at h
 try simp only[itb]at h
 try simp only[itf,gS,kk]at h
 rcases h with⟨q1,v,v1,v2,q2,h⟩|⟨q1,(⟨q3,v3,v4,v5,q4,h⟩|⟨q3,h⟩)⟩
 all_goals (refine Ya ?_ h;clear h;simp +decide[*,-List.map_set,setI,Zco,kk,tI,tII,Zj9,Zhe,Zbaz,Z0u])
theorem Zbwb{x:List (List Int)}{x1 a:Int}{r:AV×List Blk}(h:(Zj8 true x x1 a 20 0 20=some r)):Zur x x1 a=some r:=by
 unfold Zur;refine runM Zbsh rfl ?_;refine Ya ?_ h;clear h;simp +decide[*,-List.map_set,setI,Zco,kk,tI,tII,Zba0,Zj8]
theorem Zn3:(∀⦃x x1 r⦄,Im (Zus x x1=some r) (∃v,∃(v1:List (List Int)),∃v2,Zur x x1 (x.length:Int)=some (.tup [],[.arr 30 1 v (v1.map isc),.box [I v2]])/\(some (.tup [],[.arr 30 1 v (v1.map isc),.box [I v2]])=some r)))/\
 (∀⦃a a1 r⦄,Im (Zmm a a1=some r) (∃v,Zda a.Vars a1=some (I v,[])/\(if v<0 then(some (.tup [.agg [.t .nil,.t .nil],Bo false],[])=some r)else(∃v3,Zd0 a=some (Bo v3,[])/\(if v3=true then(∃(v4:List Int),Zdz a.Vars=some (.own 0,[.arr 3 1 true (v4.map ic)])/\(∃(v5:List (List Int)),Zib a.Rows=some (.own 0,[.arr 30 1 true (v5.map isc)])/\(∃v6,∃(v7:List (List Int)),∃v8,Zus v5 v=some (.tup [],[.arr 30 1 v6 (v7.map isc),.box [I v8]])/\(some (.tup [.agg [.own 0,.own 1],Bo true],[.arr 3 1 true (v4.map ic),.arr 30 1 v6 (v7.map isc)])=some r))))else(some (.tup [.agg [.t .nil,.t .nil],Bo false],[])=some r))))))/\
 (∀⦃a a1 r⦄,Im (Zka a a1=some r) (∃(v:List Int),Zdz a.Vars=some (.own 0,[.arr 3 1 true (v.map ic)])/\(v.length+a1.Vars.length<=68719476736/\(∃(v3:List Int),Zj0 (v++a1.Vars)=some (.tup [],[.arr 3 1 true (v3.map ic)])/\(∃(v4:List Int),Zut v3=some (.own 1,[.dead,.arr 3 1 true (v4.map ic)])/\(some (.ptr 0 0,[.box [L 1 (a.Vars.map ic),L 1 (a.Rows.map isc),L 1 (a1.Vars.map ic),L 1 (a1.Rows.map isc),.own 1,.t .nil],.arr 3 1 true (v4.map ic)])=some r))))))/\
 (∀⦃a b x c x1 y x2 x3 r⦄,Im (Zkb a b x c x1 y x2 x3=some r) (if x3<x2 then(0<=x3/\(∃e1,x[x3.toNat]?=some e1/\(∃v3,Zda a.Vars e1=some (I v3,[])/\(∃v4,Zda b.Vars e1=some (I v4,[])/\(if v3<0 then(0<=v4/\(∃e4,y[v4.toNat]?=some e4/\(c.length+1<=68719476736/\(Zkb a b x (c++[e4]) x1 y x2 (w (x3+1))=some r))))else(if 0<=v4 then(0<=v3/\(∃e5,x1[v3.toNat]?=some e5/\(∃e6,y[v4.toNat]?=some e6/\(if e5=e6 then(c.length+1<=68719476736/\(Zkb a b x (c++[e5]) x1 y x2 (w (x3+1))=some r))else(some (.tup [],[.box [L 1 (a.Vars.map ic),L 1 (a.Rows.map isc),L 1 (b.Vars.map ic),L 1 (b.Rows.map isc),.own 1,.t .nil],.arr 3 1 true (x.map ic)])=some r)))))else(0<=v3/\(∃e7,x1[v3.toNat]?=some e7/\(c.length+1<=68719476736/\(Zkb a b x (c++[e7]) x1 y x2 (w (x3+1))=some r))))))))))else(some (.tup [],[.box [L 1 (a.Vars.map ic),L 1 (a.Rows.map isc),L 1 (b.Vars.map ic),L 1 (b.Rows.map isc),.own 1,.own 2],.arr 3 1 true (x.map ic),.arr 30 1 true (([c]).map isc)])=some r)))/\
 (∀⦃a b x a1 a2 r⦄,Im (Zhf a b x a1 a2=some r) (Zkb a b x ([]:List Int) a1 a2 (x.length:Int) 0=some r))/\
 (∀⦃a b x r⦄,Im (Zmn a b x=some r) (some (.tup [.agg [.own 1,.t .nil],Bo true],[.box [L 1 (a.Vars.map ic),L 1 (a.Rows.map isc),L 1 (b.Vars.map ic),L 1 (b.Rows.map isc),.own 1,.t .nil],.arr 3 1 true (x.map ic)])=some r)):=by
 and_intros
 all_goals intros
 all_goals unfold Im
 all_goals try simp only[Zus,Zmm,Zka,Zkb,Zhf,Zmn,Zur,Zda,Zd0,Zdz,Zib,Zb.c_def,Zj0,Zut,mpl,dfs]
 all_goals try simp only[itb]
 all_goals try simp only[itf,gS,kk]
 all_goals repeat' first|refine exI λ_=>?_|refine anJ λ_ _=>?_|refine anI λ_=>?_|refine orE2 ?_ ?_|exact False.elim
 all_goals (intro h;first|refine runM Zbsi rfl ?_|refine run Zbsj rfl ?_|refine run Zbsk rfl ?_|rw[Zd Zqb.eq_1]|refine runM Zbef rfl ?_|refine runM Zbeg rfl ?_)
 all_goals (refine Ya ?_ h;clear h;simp +decide[*,kk,tI,tII,Zba1,Zba2,Zba3,Z0w,Zqc,Z0x,Z0y])
abbrev Zbwc:=Zn3.1
abbrev Zbwd:=Zn3.2.1
abbrev Zbwe:=Zn3.2.2.1
abbrev Zbff:=Zn3.2.2.2.1
abbrev Zbwf:=Zn3.2.2.2.2.1
abbrev Zbfg:=Zn3.2.2.2.2.2
theorem Ze1:(∀⦃a b x x1 c x2 y x3 x4 r⦄,Im (Zkc a b x x1 c x2 y x3 x4=some r) (if x4<x3 then(0<=x4/\(∃e1,x[x4.toNat]?=some e1/\(∃v1,Zda a.Vars e1=some (I v1,[])/\(∃v5,Zda b.Vars e1=some (I v5,[])/\(if v1<0 then(0<=v5/\(∃e4,y[v5.toNat]?=some e4/\(c.length+1<=68719476736/\(Zkc a b x x1 (c++[e4]) x2 y x3 (w (x4+1))=some r))))else(if 0<=v5 then(0<=v1/\(∃e5,x2[v1.toNat]?=some e5/\(∃e6,y[v5.toNat]?=some e6/\(if e5=e6 then(c.length+1<=68719476736/\(Zkc a b x x1 (c++[e5]) x2 y x3 (w (x4+1))=some r))else(some (.tup [],[.box [L 1 (a.Vars.map ic),L 1 (a.Rows.map isc),L 1 (b.Vars.map ic),L 1 (b.Rows.map isc),.own 1,.own 2],.arr 3 1 true (x.map ic),.arr 30 1 true (x1.map isc)])=some r)))))else(0<=v1/\(∃e7,x2[v1.toNat]?=some e7/\(c.length+1<=68719476736/\(Zkc a b x x1 (c++[e7]) x2 y x3 (w (x4+1))=some r))))))))))else(x1.length+1<=68719476736/\(some (.tup [],[.box [L 1 (a.Vars.map ic),L 1 (a.Rows.map isc),L 1 (b.Vars.map ic),L 1 (b.Rows.map isc),.own 1,.own 3],.arr 3 1 true (x.map ic),.dead,.arr 30 1 true ((x1++[c]).map isc)])=some r))))/\
 (∀⦃a b x x1 a1 a2 r⦄,Im (Zii a b x x1 a1 a2=some r) (Zkc a b x x1 ([]:List Int) a1 a2 (x.length:Int) 0=some r))/\
 (∀⦃a b x x1 r⦄,Im (Zfn a b x x1=some r) (if 4096<(x1.length:Int)then(some (.tup [.agg [.t .nil,.t .nil],Bo false],[.box [L 1 (a.Vars.map ic),L 1 (a.Rows.map isc),L 1 (b.Vars.map ic),L 1 (b.Rows.map isc),.own 1,.own 2],.arr 3 1 true (x.map ic),.arr 30 1 true (x1.map isc)])=some r)else(some (.tup [.agg [.own 1,.own 2],Bo true],[.box [L 1 (a.Vars.map ic),L 1 (a.Rows.map isc),L 1 (b.Vars.map ic),L 1 (b.Rows.map isc),.own 1,.own 2],.arr 3 1 true (x.map ic),.arr 30 1 true (x1.map isc)])=some r)))/\
 (∀⦃a a1 b x x1 x2 x3 r⦄,Im (Zqd a a1 b x x1 x2 x3=some r) (if x3<x2 then(0<=x3/\(∃e1,x1[x3.toNat]?=some e1/\(Zqe a a1 b x e1 x1 x2 x3 a.Rows (a.Rows.length:Int) 0=some r)))else(Zmn a1 b x=some (.tup [.agg [.own 1,.t .nil],Bo true],[.box [L 1 (a1.Vars.map ic),L 1 (a1.Rows.map isc),L 1 (b.Vars.map ic),L 1 (b.Rows.map isc),.own 1,.t .nil],.arr 3 1 true (x.map ic)])/\(some (.tup [.agg [.own 0,.t .nil],Bo true],[.arr 3 1 true (x.map ic)])=some r))))/\
 (∀⦃a a1 b x y x1 x2 x3 x4 x5 x6 r⦄,Im (Zqe a a1 b x y x1 x2 x3 x4 x5 x6=some r) (if x6<x5 then(0<=x6/\(∃e1,x4[x6.toNat]?=some e1/\((∃(v1:Zb) (v2:Zb) (v3:List Int),Zhf a1 b x e1 y=some (.tup [],[.box [L 1 (v1.Vars.map ic),L 1 (v1.Rows.map isc),L 1 (v2.Vars.map ic),L 1 (v2.Rows.map isc),.own 1,.t .nil],.arr 3 1 true (v3.map ic)])/\(Zqe a v1 v2 v3 y x1 x2 x3 x4 x5 (w (x6+1))=some r))\/(∃(v5:Zb) (v6:Zb) (v7:List Int) (v8:List (List Int)),Zhf a1 b x e1 y=some (.tup [],[.box [L 1 (v5.Vars.map ic),L 1 (v5.Rows.map isc),L 1 (v6.Vars.map ic),L 1 (v6.Rows.map isc),.own 1,.own 2],.arr 3 1 true (v7.map ic),.arr 30 1 true (v8.map isc)])/\(Zke a v5 v6 v7 v8 y x1 x2 x3 x4 x5 (w (x6+1))=some r)))))else(Zqd a a1 b x x1 x2 (w (x3+1))=some r)))/\
 (∀⦃a a1 b x x1 y x2 x3 x4 x5 x6 x7 r⦄,Im (Zke a a1 b x x1 y x2 x3 x4 x5 x6 x7=some r) (if x7<x6 then(0<=x7/\(∃e1,x5[x7.toNat]?=some e1/\((∃(v1:Zb) (v2:Zb) (v3:List Int) (v4:List (List Int)),Zii a1 b x x1 e1 y=some (.tup [],[.box [L 1 (v1.Vars.map ic),L 1 (v1.Rows.map isc),L 1 (v2.Vars.map ic),L 1 (v2.Rows.map isc),.own 1,.own 2],.arr 3 1 true (v3.map ic),.arr 30 1 true (v4.map isc)])/\(Zke a v1 v2 v3 v4 y x2 x3 x4 x5 x6 (w (x7+1))=some r))\/(∃(v5:Zb) (v6:Zb) (v7:List Int) (v8:List (List Int)),Zii a1 b x x1 e1 y=some (.tup [],[.box [L 1 (v5.Vars.map ic),L 1 (v5.Rows.map isc),L 1 (v6.Vars.map ic),L 1 (v6.Rows.map isc),.own 1,.own 3],.arr 3 1 true (v7.map ic),.dead,.arr 30 1 true (v8.map isc)])/\(Zke a v5 v6 v7 v8 y x2 x3 x4 x5 x6 (w (x7+1))=some r)))))else(if 4096<(x1.length:Int)then((Zfn a1 b x x1=some (.tup [.agg [.t .nil,.t .nil],Bo false],[.box [L 1 (a1.Vars.map ic),L 1 (a1.Rows.map isc),L 1 (b.Vars.map ic),L 1 (b.Rows.map isc),.own 1,.own 2],.arr 3 1 true (x.map ic),.arr 30 1 true (x1.map isc)])/\(some (.tup [.agg [.t .nil,.t .nil],Bo false],[])=some r))\/(Zfn a1 b x x1=some (.tup [.agg [.own 1,.own 2],Bo true],[.box [L 1 (a1.Vars.map ic),L 1 (a1.Rows.map isc),L 1 (b.Vars.map ic),L 1 (b.Rows.map isc),.own 1,.own 2],.arr 3 1 true (x.map ic),.arr 30 1 true (x1.map isc)])/\(some (.tup [.agg [.own 0,.own 1],Bo true],[.arr 3 1 true (x.map ic),.arr 30 1 true (x1.map isc)])=some r)))else(Zqf a a1 b x x1 x2 x3 (w (x4+1))=some r))))/\
 (∀⦃a a1 b x x1 x2 x3 x4 r⦄,Im (Zqf a a1 b x x1 x2 x3 x4=some r) (if x4<x3 then(0<=x4/\(∃e1,x2[x4.toNat]?=some e1/\(Zke a a1 b x x1 e1 x2 x3 x4 a.Rows (a.Rows.length:Int) 0=some r)))else((Zfn a1 b x x1=some (.tup [.agg [.t .nil,.t .nil],Bo false],[.box [L 1 (a1.Vars.map ic),L 1 (a1.Rows.map isc),L 1 (b.Vars.map ic),L 1 (b.Rows.map isc),.own 1,.own 2],.arr 3 1 true (x.map ic),.arr 30 1 true (x1.map isc)])/\(some (.tup [.agg [.t .nil,.t .nil],Bo false],[])=some r))\/(Zfn a1 b x x1=some (.tup [.agg [.own 1,.own 2],Bo true],[.box [L 1 (a1.Vars.map ic),L 1 (a1.Rows.map isc),L 1 (b.Vars.map ic),L 1 (b.Rows.map isc),.own 1,.own 2],.arr 3 1 true (x.map ic),.arr 30 1 true (x1.map isc)])/\(some (.tup [.agg [.own 0,.own 1],Bo true],[.arr 3 1 true (x.map ic),.arr 30 1 true (x1.map isc)])=some r)))))/\
 (∀⦃a a1 r⦄,Im (Zkd a a1=some r) (∃v,Zd0 a=some (Bo v,[])/\(if v=true then(∃v1,Zd0 a1=some (Bo v1,[])/\(if v1=true then(∃(v5:Zb) (v6:Zb) (v7:List Int),Zka a a1=some (.ptr 0 0,[.box [L 1 (v5.Vars.map ic),L 1 (v5.Rows.map isc),L 1 (v6.Vars.map ic),L 1 (v6.Rows.map isc),.own 1,.t .nil],.arr 3 1 true (v7.map ic)])/\(Zqd a v5 v6 v7 a1.Rows (a1.Rows.length:Int) 0=some r))else(some (.tup [.agg [.t .nil,.t .nil],Bo false],[])=some r)))else(some (.tup [.agg [.t .nil,.t .nil],Bo false],[])=some r))))/\
 (∀⦃a a1 a2 r⦄,Im (Z0z a a1 a2=some r) (0<=a2/\(∃e1,a[a2.toNat]?=some e1/\(∃e2,a1[a2.toNat]?=some e2/\(some (I (w (e1-e2)),[])=some r)))))/\
 (∀⦃x cc i r⦄,Im (Zqg x cc i=some r) (if 0<i then(0<=i/\(∃e1,x[i.toNat]?=some e1/\(0<=(w (i-1))/\(∃e2,x[(w (i-1)).toNat]?=some e2/\(∃v5,Z0z e1 e2 cc=some (I v5,[])/\(if v5<0 then(some (Bo false,[])=some r)else(Zqg x cc (w (i-1))=some r)))))))else(some (Bo true,[])=some r)))/\
 (∀a a1 r,Im (Z02 a a1=some r) (Zqg a a1 (w ((a.length:Int)-1))=some r))/\
 (∀⦃a a1 r⦄,Im (Zmq a a1=some r) (∃v,Zda a.Vars a1=some (I v,[])/\(if v<0 then(some (Bo false,[])=some r)else(∃v1,Zd0 a=some (Bo v1,[])/\(if v1=true then(∃v5,Z02 a.Rows v=some (Bo v5,[])/\(some (Bo v5,[])=some r))else(some (Bo false,[])=some r)))))):=by
 and_intros
 all_goals intros
 all_goals unfold Im
 all_goals try simp only[Zkc,Zii,Zfn,Zqd,Zqe,Zke,Zqf,Zkd,Z0z,Zqg,Z02,Zmq,Zda,Zmn,Zb.c_def,Zhf,Zd0,Zka,mpl,dfs]
 all_goals try simp only[itb]
 all_goals try simp only[itf,gS,kk]
 all_goals repeat' first|refine exI λ_=>?_|refine anJ λ_ _=>?_|refine anI λ_=>?_|refine orE2 ?_ ?_|exact False.elim
 all_goals (intro h;first|rw[Zd Zqb.eq_1]|refine runM Zbef rfl ?_|refine runM Zbeg rfl ?_|rw[Zd Zmo.eq_1]|rw[Zd Zuu.eq_1]|refine run Zbsl rfl ?_|refine run Zbsm rfl ?_|rw[Zd Z00.eq_1]|refine run Zbsn rfl ?_|refine run Zbso rfl ?_)
 all_goals (refine Ya ?_ h;clear h;simp +decide[*,kk,tI,tII,Z0w,Zqc,Z0x,Z0y,Zmp,Zuw,Zuv,Zba4,Zba5,Z01,Zba6,Zba7])
abbrev Zbfh:=Ze1.1
abbrev Zbwg:=Ze1.2.1
abbrev Zbfi:=Ze1.2.2.1
abbrev Zbfj:=Ze1.2.2.2.1
abbrev Zbfk:=Ze1.2.2.2.2.1
abbrev Zbfl:=Ze1.2.2.2.2.2.1
abbrev Zbfm:=Ze1.2.2.2.2.2.2.1
abbrev Zbwh:=Ze1.2.2.2.2.2.2.2.1
abbrev Zbwi:=Ze1.2.2.2.2.2.2.2.2.1
abbrev Z4o:=Ze1.2.2.2.2.2.2.2.2.2.1
abbrev Zbwj:=Ze1.2.2.2.2.2.2.2.2.2.2.1
abbrev Zbwk:=Ze1.2.2.2.2.2.2.2.2.2.2.2
theorem Zn4:(∀⦃b a b1 x x1 x2 x3 r⦄,Im (Zqh b a b1 x x1 x2 x3=some r) (if x3<x2 then(0<=x3/\(∃e1,x1[x3.toNat]?=some e1/\(Zqi b a b1 x e1 x1 x2 x3 b.Rows (b.Rows.length:Int) 0=some r)))else(Zmn a b1 x=some (.tup [.agg [.own 1,.t .nil],Bo true],[.box [L 1 (a.Vars.map ic),L 1 (a.Rows.map isc),L 1 (b1.Vars.map ic),L 1 (b1.Rows.map isc),.own 1,.t .nil],.arr 3 1 true (x.map ic)])/\(some (.tup [.agg [.own 0,.t .nil],Bo true],[.arr 3 1 true (x.map ic)])=some r))))/\
 (∀⦃b a b1 x x1 x2 x3 x4 x5 x6 x7 r⦄,Im (Zqi b a b1 x x1 x2 x3 x4 x5 x6 x7=some r) (if x7<x6 then(0<=x7/\(∃e1,x5[x7.toNat]?=some e1/\((∃(v1:Zb) (v2:Zb) (v3:List Int),Zhf a b1 x x1 e1=some (.tup [],[.box [L 1 (v1.Vars.map ic),L 1 (v1.Rows.map isc),L 1 (v2.Vars.map ic),L 1 (v2.Rows.map isc),.own 1,.t .nil],.arr 3 1 true (v3.map ic)])/\(Zqi b v1 v2 v3 x1 x2 x3 x4 x5 x6 (w (x7+1))=some r))\/(∃(v5:Zb) (v6:Zb) (v7:List Int) (v8:List (List Int)),Zhf a b1 x x1 e1=some (.tup [],[.box [L 1 (v5.Vars.map ic),L 1 (v5.Rows.map isc),L 1 (v6.Vars.map ic),L 1 (v6.Rows.map isc),.own 1,.own 2],.arr 3 1 true (v7.map ic),.arr 30 1 true (v8.map isc)])/\(Zkf b v5 v6 v7 v8 x1 x2 x3 x4 x5 x6 (w (x7+1))=some r)))))else(Zqh b a b1 x x2 x3 (w (x4+1))=some r)))/\
 (∀⦃b a b1 x x1 x2 x3 x4 x5 x6 x7 x8 r⦄,Im (Zkf b a b1 x x1 x2 x3 x4 x5 x6 x7 x8=some r) (if x8<x7 then(0<=x8/\(∃e1,x6[x8.toNat]?=some e1/\((∃(v1:Zb) (v2:Zb) (v3:List Int) (v4:List (List Int)),Zii a b1 x x1 x2 e1=some (.tup [],[.box [L 1 (v1.Vars.map ic),L 1 (v1.Rows.map isc),L 1 (v2.Vars.map ic),L 1 (v2.Rows.map isc),.own 1,.own 2],.arr 3 1 true (v3.map ic),.arr 30 1 true (v4.map isc)])/\(Zkf b v1 v2 v3 v4 x2 x3 x4 x5 x6 x7 (w (x8+1))=some r))\/(∃(v5:Zb) (v6:Zb) (v7:List Int) (v8:List (List Int)),Zii a b1 x x1 x2 e1=some (.tup [],[.box [L 1 (v5.Vars.map ic),L 1 (v5.Rows.map isc),L 1 (v6.Vars.map ic),L 1 (v6.Rows.map isc),.own 1,.own 3],.arr 3 1 true (v7.map ic),.dead,.arr 30 1 true (v8.map isc)])/\(Zkf b v5 v6 v7 v8 x2 x3 x4 x5 x6 x7 (w (x8+1))=some r)))))else(if 4096<(x1.length:Int)then((Zfn a b1 x x1=some (.tup [.agg [.t .nil,.t .nil],Bo false],[.box [L 1 (a.Vars.map ic),L 1 (a.Rows.map isc),L 1 (b1.Vars.map ic),L 1 (b1.Rows.map isc),.own 1,.own 2],.arr 3 1 true (x.map ic),.arr 30 1 true (x1.map isc)])/\(some (.tup [.agg [.t .nil,.t .nil],Bo false],[])=some r))\/(Zfn a b1 x x1=some (.tup [.agg [.own 1,.own 2],Bo true],[.box [L 1 (a.Vars.map ic),L 1 (a.Rows.map isc),L 1 (b1.Vars.map ic),L 1 (b1.Rows.map isc),.own 1,.own 2],.arr 3 1 true (x.map ic),.arr 30 1 true (x1.map isc)])/\(some (.tup [.agg [.own 0,.own 1],Bo true],[.arr 3 1 true (x.map ic),.arr 30 1 true (x1.map isc)])=some r)))else(Zqj b a b1 x x1 x3 x4 (w (x5+1))=some r))))/\
 (∀⦃b a b1 x x1 x2 x3 x4 r⦄,Im (Zqj b a b1 x x1 x2 x3 x4=some r) (if x4<x3 then(0<=x4/\(∃e1,x2[x4.toNat]?=some e1/\(Zkf b a b1 x x1 e1 x2 x3 x4 b.Rows (b.Rows.length:Int) 0=some r)))else((Zfn a b1 x x1=some (.tup [.agg [.t .nil,.t .nil],Bo false],[.box [L 1 (a.Vars.map ic),L 1 (a.Rows.map isc),L 1 (b1.Vars.map ic),L 1 (b1.Rows.map isc),.own 1,.own 2],.arr 3 1 true (x.map ic),.arr 30 1 true (x1.map isc)])/\(some (.tup [.agg [.t .nil,.t .nil],Bo false],[])=some r))\/(Zfn a b1 x x1=some (.tup [.agg [.own 1,.own 2],Bo true],[.box [L 1 (a.Vars.map ic),L 1 (a.Rows.map isc),L 1 (b1.Vars.map ic),L 1 (b1.Rows.map isc),.own 1,.own 2],.arr 3 1 true (x.map ic),.arr 30 1 true (x1.map isc)])/\(some (.tup [.agg [.own 0,.own 1],Bo true],[.arr 3 1 true (x.map ic),.arr 30 1 true (x1.map isc)])=some r)))))/\
 (∀⦃a a1 r⦄,Im (Zge a a1=some r) (∃v,Zd0 a=some (Bo v,[])/\(if v=true then(∃v1,Zd0 a1=some (Bo v1,[])/\(if v1=true then(∃(v5:Zb) (v6:Zb) (v7:List Int),Zka a a1=some (.ptr 0 0,[.box [L 1 (v5.Vars.map ic),L 1 (v5.Rows.map isc),L 1 (v6.Vars.map ic),L 1 (v6.Rows.map isc),.own 1,.t .nil],.arr 3 1 true (v7.map ic)])/\(Zqh a1 v5 v6 v7 a.Rows (a.Rows.length:Int) 0=some r))else(some (.tup [.agg [.t .nil,.t .nil],Bo false],[])=some r)))else(some (.tup [.agg [.t .nil,.t .nil],Bo false],[])=some r))))/\
 (∀⦃a a1 a2 r⦄,Im (Zkg a a1 a2=some r) (∃v,Zmq a a2=some (Bo v,[])/\(if v=true then(∃v1,Zmq a1 a2=some (Bo v1,[])/\(if v1=true then((Zge a a1=some (.tup [.agg [.t .nil,.t .nil],Bo false],[])/\(some (.tup [.agg [.t .nil,.t .nil],Bo false],[])=some r))\/(∃(v9:List Int),Zge a a1=some (.tup [.agg [.own 0,.t .nil],Bo true],[.arr 3 1 true (v9.map ic)])/\(some (.tup [.agg [.own 0,.t .nil],Bo true],[.arr 3 1 true (v9.map ic)])=some r))\/(∃(v10:List Int) (v11:List (List Int)),Zge a a1=some (.tup [.agg [.own 0,.own 1],Bo true],[.arr 3 1 true (v10.map ic),.arr 30 1 true (v11.map isc)])/\(some (.tup [.agg [.own 0,.own 1],Bo true],[.arr 3 1 true (v10.map ic),.arr 30 1 true (v11.map isc)])=some r)))else(some (.tup [.agg [.t .nil,.t .nil],Bo false],[])=some r)))else(some (.tup [.agg [.t .nil,.t .nil],Bo false],[])=some r)))):=by
 and_intros
 all_goals intros
 all_goals unfold Im
 all_goals try simp only[Zqh,Zqi,Zkf,Zqj,Zge,Zkg,Zmn,Zb.c_def,Zhf,Zii,Zfn,Zd0,Zka,Zmq,mpl,dfs]
 all_goals try simp only[itb]
 all_goals try simp only[itf,gS,kk]
 all_goals repeat' first|refine exI λ_=>?_|refine anJ λ_ _=>?_|refine anI λ_=>?_|refine orE2 ?_ ?_|exact False.elim
 all_goals (intro h;first|rw[Zd Zmr.eq_1]|rw[Zd Zux.eq_1]|refine run Zbsp rfl ?_|refine run Zbsq rfl ?_)
 all_goals (refine Ya ?_ h;clear h;simp +decide[*,kk,tI,tII,Zms,Zuz,Zuy,Zba8,Zba9])
abbrev Zbfn:=Zn4.1
abbrev Zbfo:=Zn4.2.1
abbrev Zbfp:=Zn4.2.2.1
abbrev Zbfq:=Zn4.2.2.2.1
abbrev Zbwl:=Zn4.2.2.2.2.1
abbrev Zbwm:=Zn4.2.2.2.2.2
theorem Ze2:(∀⦃db q cd fr cc x x1 x2 r⦄,Im (Zd1 db q cd fr cc x x1 x2=some r) (if x2<x1 then(0<=x2/\(∃e1,x[x2.toNat]?=some e1/\(if e1.Kind=1 then((Zj1 db q e1.Atom=some (.tup [.agg [.t .nil,.t .nil],Bo false],[])/\(some (.tup [.t .nil,.t .nil,Bo false],[])=some r))\/(∃(v2:List Int),Zj1 db q e1.Atom=some (.tup [.agg [.own 0,.t .nil],Bo true],[.arr 3 1 true (v2.map ic)])/\(cc.length+1<=68719476736/\(Zd1 db q cd fr (cc++[(⟨v2,[]⟩:Zb)]) x x1 (w (x2+1))=some r)))\/(∃(v3:List Int) (v4:List (List Int)),Zj1 db q e1.Atom=some (.tup [.agg [.own 0,.own 1],Bo true],[.arr 3 1 true (v3.map ic),.arr 30 1 true (v4.map isc)])/\(cc.length+1<=68719476736/\(Zd1 db q cd fr (cc++[(⟨v3,v4⟩:Zb)]) x x1 (w (x2+1))=some r))))else(if e1.Kind=2 then(∃e5,cd[x2.toNat]?=some e5/\(0<=e5.Left/\(∃e6,cc[e5.Left.toNat]?=some e6/\((Zmm e6 e1.Order=some (.tup [.agg [.t .nil,.t .nil],Bo false],[])/\(some (.tup [.t .nil,.t .nil,Bo false],[])=some r))\/(∃(v5:List Int),∃v6,∃(v7:List (List Int)),Zmm e6 e1.Order=some (.tup [.agg [.own 0,.own 1],Bo true],[.arr 3 1 true (v5.map ic),.arr 30 1 v6 (v7.map isc)])/\(cc.length+1<=68719476736/\(Zd1 db q cd (fr && v6) (cc++[(⟨v5,v7⟩:Zb)]) x x1 (w (x2+1))=some r)))))))else(if e1.Kind=3 then(∃e9,cd[x2.toNat]?=some e9/\(0<=e9.Left/\(∃e10,cc[e9.Left.toNat]?=some e10/\(0<=e9.Right/\(∃e11,cc[e9.Right.toNat]?=some e11/\((Zkd e10 e11=some (.tup [.agg [.t .nil,.t .nil],Bo false],[])/\(some (.tup [.t .nil,.t .nil,Bo false],[])=some r))\/(∃(v8:List Int),Zkd e10 e11=some (.tup [.agg [.own 0,.t .nil],Bo true],[.arr 3 1 true (v8.map ic)])/\(cc.length+1<=68719476736/\(Zd1 db q cd fr (cc++[(⟨v8,[]⟩:Zb)]) x x1 (w (x2+1))=some r)))\/(∃(v9:List Int) (v10:List (List Int)),Zkd e10 e11=some (.tup [.agg [.own 0,.own 1],Bo true],[.arr 3 1 true (v9.map ic),.arr 30 1 true (v10.map isc)])/\(cc.length+1<=68719476736/\(Zd1 db q cd fr (cc++[(⟨v9,v10⟩:Zb)]) x x1 (w (x2+1))=some r)))))))))else(if e1.Kind=4 then(∃e15,cd[x2.toNat]?=some e15/\(0<=e15.Left/\(∃e16,cc[e15.Left.toNat]?=some e16/\(0<=e15.Right/\(∃e17,cc[e15.Right.toNat]?=some e17/\((Zkg e16 e17 e1.Order=some (.tup [.agg [.t .nil,.t .nil],Bo false],[])/\(some (.tup [.t .nil,.t .nil,Bo false],[])=some r))\/(∃(v11:List Int),Zkg e16 e17 e1.Order=some (.tup [.agg [.own 0,.t .nil],Bo true],[.arr 3 1 true (v11.map ic)])/\(cc.length+1<=68719476736/\(Zd1 db q cd fr (cc++[(⟨v11,[]⟩:Zb)]) x x1 (w (x2+1))=some r)))\/(∃(v12:List Int) (v13:List (List Int)),Zkg e16 e17 e1.Order=some (.tup [.agg [.own 0,.own 1],Bo true],[.arr 3 1 true (v12.map ic),.arr 30 1 true (v13.map isc)])/\(cc.length+1<=68719476736/\(Zd1 db q cd fr (cc++[(⟨v12,v13⟩:Zb)]) x x1 (w (x2+1))=some r)))))))))else(∃e21,cd[x2.toNat]?=some e21/\(0<=e21.Left/\(∃e22,cc[e21.Left.toNat]?=some e22/\(0<=e21.Right/\(∃e23,cc[e21.Right.toNat]?=some e23/\((Zge e22 e23=some (.tup [.agg [.t .nil,.t .nil],Bo false],[])/\(some (.tup [.t .nil,.t .nil,Bo false],[])=some r))\/(∃(v14:List Int),Zge e22 e23=some (.tup [.agg [.own 0,.t .nil],Bo true],[.arr 3 1 true (v14.map ic)])/\(cc.length+1<=68719476736/\(Zd1 db q cd fr (cc++[(⟨v14,[]⟩:Zb)]) x x1 (w (x2+1))=some r)))\/(∃(v15:List Int) (v16:List (List Int)),Zge e22 e23=some (.tup [.agg [.own 0,.own 1],Bo true],[.arr 3 1 true (v15.map ic),.arr 30 1 true (v16.map isc)])/\(cc.length+1<=68719476736/\(Zd1 db q cd fr (cc++[(⟨v15,v16⟩:Zb)]) x x1 (w (x2+1))=some r)))))))))))))))else(some (.tup [.own 0,.own 1,Bo true],[.arr 209 4 true (cd.map Za.c),.arr 199 2 fr (cc.map Zb.c)])=some r)))/\
 (∀⦃a a1 a2 r⦄,Im (Zkh a a1 a2=some r) ((Zha a1 a2=some (.tup [.t .nil,Bo false],[])/\(some (.tup [.t .nil,.t .nil,Bo false],[])=some r))\/(∃(v1:List Za),Zha a1 a2=some (.tup [.own 0,Bo true],[.arr 209 4 true (v1.map Za.c)])/\(∃v2,Zjz a a1=some (Bo v2,[])/\(if v2=true then(Zd1 a a1 v1 true ([]:List Zb) a2.Steps (a2.Steps.length:Int) 0=some r)else(some (.tup [.t .nil,.t .nil,Bo false],[])=some r))))))/\
 (∀⦃x r⦄,Im (Zd2 x=some r) (some (.bsl 1 5,[.box (x.c.map .t),.box [.ptr 0 0,.ptr 0 6,.ptr 0 12,.ptr 0 18,.ptr 0 24]])=some r))/\
 (∀⦃x r⦄,Im (Zu0 x=some r) (some (.bsl 1 5,[.box (x.c.map .t),.box [.ptr 0 0,.ptr 0 1,.ptr 0 2,.ptr 0 3,.ptr 0 4]])=some r))/\
 (∀⦃o x x1 x2 r⦄,Im (Zij o x x1 x2=some r) (if x2<x1 then(0<=x2/\(∃e1,x[x2.toNat]?=some e1/\(∃v1,Zz e1.Add (-99) 99=some (Bo v1,[])/\(if v1=true then(∃v2,Zz e1.From 1 8192=some (Bo v2,[])/\(if v2=true then(if 0<x2 then(0<=(w (x2-1))/\(∃e4,o.Steps[(w (x2-1)).toNat]?=some e4/\(if e1.From<=e4.From then(some (Bo false,[])=some r)else(Zij o x x1 (w (x2+1))=some r))))else(Zij o x x1 (w (x2+1))=some r))else(some (Bo false,[])=some r)))else(some (Bo false,[])=some r)))))else(some (Bo (decide ((o.Steps.length:Int)<=4)),[])=some r)))/\
 (∀⦃a r⦄,Im (Zcf a=some r) (Zu0 a=some (.bsl 1 5,[.box (a.c.map .t),.box [.ptr 0 0,.ptr 0 1,.ptr 0 2,.ptr 0 3,.ptr 0 4]])/\(Zd3 a 5 0=some r)))/\
 (∀⦃cc a r⦄,Im (Zmt cc a=some r) (if a<=7 then(Zki cc a 0=some r)else(some (.own 0,[.arr 30 1 true (cc.map isc)])=some r)))/\
 (∀⦃cc a b r⦄,Im (Zki cc a b=some r) (if b<=7 then(Zmu cc a b 0=some r)else(Zmt cc (w (a+1))=some r)))/\
 (∀⦃cc a b c r⦄,Im (Zmu cc a b c=some r) (if c<=7 then(cc.length+1<=68719476736/\(Zmu (cc++[[a,b,c]]) a b (w (c+1))=some r))else(Zki cc a (w (b+1))=some r)))/\
 (∀⦃r⦄,Im (Zdq=some r) (Zmt ([]:List (List Int)) 0=some r))/\
 (∀⦃a r⦄,Im (Zet a=some r) (∃v,Zz a 0 7=some (Bo v,[])/\(if v=true then(if a=0 then(some (I 0,[])=some r)else(¬(w (2*(w (a-1))))<0/\(some (I (shlI 1 (w (2*(w (a-1))))),[])=some r)))else(some (I (-1),[])=some r))))/\
 (∀⦃cn cl n x x1 x2 r⦄,Im (Zkj cn cl n x x1 x2=some r) (if x2<x1 then(0<=x2/\(∃e1,x[x2.toNat]?=some e1/\(if e1.From<=(w (cn+cl))then(Zkj cn cl (w (n+e1.Add)) x x1 (w (x2+1))=some r)else(Zkj cn cl n x x1 (w (x2+1))=some r))))else(some (I n,[])=some r))):=by
 and_intros
 all_goals intros
 all_goals unfold Im
 all_goals try simp only[Zd1,Zkh,Zd2,Zu0,Zij,Zcf,Zmt,Zki,Zmu,Zdq,Zet,Zkj,Zj1,Zmm,Zkd,Zkg,Zge,Zl.c_def,Ze.c_def,Zb.c_def,Zha,Zjz,Plan.c_def,Zz,Zk.c_def,Zd3,mpl,dfs]
 all_goals try simp only[itb]
 all_goals try simp only[itf,gS,kk]
 all_goals repeat' first|refine exI λ_=>?_|refine anJ λ_ _=>?_|refine anI λ_=>?_|refine orE2 ?_ ?_|exact False.elim
 all_goals (intro h;first|rw[Zd Z03.eq_1]|refine run Zbsr rfl ?_|refine runM Zbss rfl ?_|refine runM Zbst rfl ?_|rw[Zd Z06.eq_1]|refine run Zbsu rfl ?_|rw[Zd Zqk.eq_1]|rw[Zd Zu1.eq_1]|rw[Zd Z09.eq_1]|refine run Zbsv rfl ?_|refine run Zbsw rfl ?_|rw[Zd Z1b.eq_1])
 all_goals (refine Ya ?_ h;clear h;simp +decide[*,kk,tI,tII,Zbba,Z04,Zbbb,Zbbc,Zbbd,Z07,Zbbe,Zql,Zu2,Z1a,Zbbf,Zbbg,Zbbh,Z1c])
abbrev Zv7:=Ze2.1
abbrev Z4p:=Ze2.2.1
abbrev Zbfr:=Ze2.2.2.1
abbrev Zbwn:=Ze2.2.2.2.1
abbrev Zbfs:=Ze2.2.2.2.2.1
abbrev Zbwo:=Ze2.2.2.2.2.2.1
abbrev Zbft:=Ze2.2.2.2.2.2.2.1
abbrev Zbfu:=Ze2.2.2.2.2.2.2.2.1
abbrev Zbfv:=Ze2.2.2.2.2.2.2.2.2.1
abbrev Zbwp:=Ze2.2.2.2.2.2.2.2.2.2.1
abbrev Zbwq:=Ze2.2.2.2.2.2.2.2.2.2.2.1
abbrev Zbfw:=Ze2.2.2.2.2.2.2.2.2.2.2.2
theorem Zr0:(∀⦃a a1 a2 a3 r⦄,Im (Zik a a1 a2 a3=some r) (Zkj a1 a2 (w ((w ((w ((w (a.Fixed+(w (a.Z2*a1))))+(w (a.Z3*a2))))+(w (a.Z4*a3))))+(w ((w (a.Z5*a1))*a2)))) a.Steps (a.Steps.length:Int) 0=some r))/\
 (∀⦃a a1 r⦄,Im (Zfo a a1=some r) (∃e1,a1[0]?=some e1/\(∃v1,Zet e1=some (I v1,[])/\(∃e3,a1[1]?=some e3/\(∃v2,Zet e3=some (I v2,[])/\(∃e5,a1[2]?=some e5/\(∃v4,Zet e5=some (I v4,[])/\(∃v5,Zik a v1 v2 v4=some (I v5,[])/\(some (I v5,[])=some r)))))))))/\
 (∀⦃o x x1 x2 r⦄,Im (Zil o x x1 x2=some r) (if x2<x1 then(0<=x2/\(∃e1,x[x2.toNat]?=some e1/\(Zeu o x e1 x1 x2 (e1.length:Int) 0=some r)))else(some (.tup [.t .nil,.t .nil,Bo false],[])=some r)))/\
 (∀⦃o x t x1 x2 x3 x4 r⦄,Im (Zeu o x t x1 x2 x3 x4=some r) (if x4<x3 then(0<=x4/\(∃e1,t[x4.toNat]?=some e1/\(if e1=7 then(Zeu o x t x1 x2 x3 (w (x4+1))=some r)else(∃(v1:List Int),Zdz t=some (.own 0,[.arr 3 1 true (v1.map ic)])/\(∃e3,v1[x4.toNat]?=some e3/\(∃v2,Zfo o (v1.set x4.toNat (w (e3+1)))=some (I v2,[])/\(∃v3,Zfo o t=some (I v3,[])/\(if v2<v3 then(some (.tup [L 1 (t.map ic),.own 0,Bo true],[.arr 3 1 true ((v1.set x4.toNat (w (e3+1))).map ic)])=some r)else(Zeu o x t x1 x2 x3 (w (x4+1))=some r)))))))))else(Zil o x x1 (w (x2+1))=some r)))/\
 (∀⦃a r⦄,Im (Zb8 a=some r) (∃v,Zcf a=some (Bo v,[])/\(if v=true then(∃(v1:List (List Int)),Zdq=some (.own 0,[.arr 30 1 true (v1.map isc)])/\(Zil a v1 (v1.length:Int) 0=some r))else(some (.tup [.t .nil,.t .nil,Bo false],[])=some r)))):=by
 and_intros
 all_goals intros
 all_goals unfold Im
 all_goals try simp only[Zik,Zfo,Zil,Zeu,Zb8,Zet,Zk.c_def,Zdz,Zcf,Zdq,Zkj,mpl,dfs]
 all_goals try simp only[itb]
 all_goals try simp only[itf,gS,kk]
 all_goals repeat' first|refine exI λ_=>?_|refine anJ λ_ _=>?_|refine anI λ_=>?_|refine orE2 ?_ ?_|exact False.elim
 all_goals (intro h;first|refine run Zbsx rfl ?_|refine run Zbsy rfl ?_|rw[Zd Zu3.eq_1]|rw[Zd Z1d.eq_1]|refine run Zbsz rfl ?_)
 all_goals (refine Ya ?_ h;clear h;simp +decide[*,kk,tI,tII,Zbbi,Zbbj,Zu4,Zbbk,Z1e,Zbbl])
abbrev Zbwr:=Zr0.1
abbrev Zbws:=Zr0.2.1
abbrev Zbfx:=Zr0.2.2.1
abbrev Z4q:=Zr0.2.2.2.1
abbrev Zbwt:=Zr0.2.2.2.2
theorem Zn5{o:Zk}{x x1:Int}{r:AV×List Blk}(h:(if x1<x then(if x1=0 then(∃(v:Bool),Zz o.Fixed (-99) 99=some (Bo v,[])/\(if v=true then(Zd3 o x (w (x1+1))=some r)else(some (Bo false,[])=some r)))else(if x1=1 then(∃(v1:Bool),Zz o.Z2 (-99) 99=some (Bo v1,[])/\(if v1=true then(Zd3 o x (w (x1+1))=some r)else(some (Bo false,[])=some r)))else(if x1=2 then(∃(v2:Bool),Zz o.Z3 (-99) 99=some (Bo v2,[])/\(if v2=true then(Zd3 o x (w (x1+1))=some r)else(some (Bo false,[])=some r)))else(if x1=3 then(∃(v3:Bool),Zz o.Z4 (-99) 99=some (Bo v3,[])/\(if v3=true then(Zd3 o x (w (x1+1))=some r)else(some (Bo false,[])=some r)))else(if x1=4 then(∃(v4:Bool),Zz o.Z5 (-99) 99=some (Bo v4,[])/\(if v4=true then(Zd3 o x (w (x1+1))=some r)else(some (Bo false,[])=some r)))else False)))))else(Zij o o.Steps (o.Steps.length:Int) 0=some r))):Zd3 o x x1=some r:=by
 unfold Zd3;rw[Zd Z05.eq_1];by_cases q1:x1<x
 .rw[if_pos q1]at h;by_cases q2:x1=0
  .rw[if_pos q2]at h;subst q2;obtain⟨v,q3,h⟩:=h;unfold Zz at q3
   try simp at q3
   by_cases q4:v=true
   .rw[if_pos q4]at h;refine Ya ?_ h;clear h;simp +decide[*,tI,tII,Zd3]
   .rw[if_neg q4]at h;refine Ya ?_ h;clear h;simp +decide[*,tI,tII]
  .rw[if_neg q2]at h;replace q2:=eq_false q2;by_cases q5:x1=1
   .rw[if_pos q5]at h;subst q5;obtain⟨v1,q6,h⟩:=h;unfold Zz at q6
    try simp at q6
    by_cases q7:v1=true
    .rw[if_pos q7]at h;refine Ya ?_ h;clear h;simp +decide[*,tI,tII,Zd3]
    .rw[if_neg q7]at h;refine Ya ?_ h;clear h;simp +decide[*,tI,tII]
   .rw[if_neg q5]at h;replace q5:=eq_false q5;by_cases q8:x1=2
    .rw[if_pos q8]at h;subst q8;obtain⟨v2,q9,h⟩:=h;unfold Zz at q9
     try simp at q9
     by_cases q10:v2=true
     .rw[if_pos q10]at h;refine Ya ?_ h;clear h;simp +decide[*,tI,tII,Zd3]
     .rw[if_neg q10]at h;refine Ya ?_ h;clear h;simp +decide[*,tI,tII]
    .rw[if_neg q8]at h;replace q8:=eq_false q8;by_cases q11:x1=3
     .rw[if_pos q11]at h;subst q11;obtain⟨v3,q12,h⟩:=h;unfold Zz at q12
      try simp at q12
      by_cases q13:v3=true
      .rw[if_pos q13]at h;refine Ya ?_ h;clear h;simp +decide[*,tI,tII,Zd3]
      .rw[if_neg q13]at h;refine Ya ?_ h;clear h;simp +decide[*,tI,tII]
     .rw[if_neg q11]at h;replace q11:=eq_false q11;by_cases q14:x1=4
      .rw[if_pos q14]at h;subst q14;obtain⟨v4,q15,h⟩:=h;unfold Zz at q15
       try simp at q15
       by_cases q16:v4=true
       .rw[if_pos q16]at h;refine Ya ?_ h;clear h;simp +decide[*,tI,tII,Zd3]
       .rw[if_neg q16]at h;refine Ya ?_ h;clear h;simp +decide[*,tI,tII]
      .rw[if_neg q14]at h;replace q14:=eq_false q14;cases h
 .rw[if_neg q1]at h;refine Ya ?_ h;clear h;simp +decide[*,tI,tII,Zij,Z08]
theorem Zn6{x:Zi}{x1 x2:Int}{r:AV×List Blk}(h:(if x2<x1 then(if x2=0 then(∃(v:Bool),Zcf x.Scan=some (Bo v,[])/\(if v=true then((Zb8 x.Scan=some (.tup [.t .nil,.t .nil,Bo false],[])/\(∃(v1:List (List Int)),Zdq=some (.own 0,[.arr 30 1 true (v1.map isc)])/\(Zio x v1 (w (1+x2)) x1 x2 (v1.length:Int) 0=some r)))\/(∃(v2:List Int) (v3:List Int),Zb8 x.Scan=some (.tup [L 1 (v3.map ic),.own 0,Bo true],[.arr 3 1 true (v2.map ic)])/\(some (.tup [I (w (1+x2)),L 1 (v3.map ic),.own 0],[.arr 3 1 true (v2.map ic)])=some r)))else(some (.tup [I (w (1+x2)),.t .nil,.t .nil],[])=some r)))else(if x2=1 then(∃(v4:Bool),Zcf x.Sort_=some (Bo v4,[])/\(if v4=true then((Zb8 x.Sort_=some (.tup [.t .nil,.t .nil,Bo false],[])/\(∃(v5:List (List Int)),Zdq=some (.own 0,[.arr 30 1 true (v5.map isc)])/\(Zip x v5 (w (1+x2)) x1 x2 (v5.length:Int) 0=some r)))\/(∃(v6:List Int) (v7:List Int),Zb8 x.Sort_=some (.tup [L 1 (v7.map ic),.own 0,Bo true],[.arr 3 1 true (v6.map ic)])/\(some (.tup [I (w (1+x2)),L 1 (v7.map ic),.own 0],[.arr 3 1 true (v6.map ic)])=some r)))else(some (.tup [I (w (1+x2)),.t .nil,.t .nil],[])=some r)))else(if x2=2 then(∃(v8:Bool),Zcf x.Hash=some (Bo v8,[])/\(if v8=true then((Zb8 x.Hash=some (.tup [.t .nil,.t .nil,Bo false],[])/\(∃(v9:List (List Int)),Zdq=some (.own 0,[.arr 30 1 true (v9.map isc)])/\(Ziq x v9 (w (1+x2)) x1 x2 (v9.length:Int) 0=some r)))\/(∃(v10:List Int) (v11:List Int),Zb8 x.Hash=some (.tup [L 1 (v11.map ic),.own 0,Bo true],[.arr 3 1 true (v10.map ic)])/\(some (.tup [I (w (1+x2)),L 1 (v11.map ic),.own 0],[.arr 3 1 true (v10.map ic)])=some r)))else(some (.tup [I (w (1+x2)),.t .nil,.t .nil],[])=some r)))else(if x2=3 then(∃(v12:Bool),Zcf x.Merge=some (Bo v12,[])/\(if v12=true then((Zb8 x.Merge=some (.tup [.t .nil,.t .nil,Bo false],[])/\(∃(v13:List (List Int)),Zdq=some (.own 0,[.arr 30 1 true (v13.map isc)])/\(Zir x v13 (w (1+x2)) x1 x2 (v13.length:Int) 0=some r)))\/(∃(v14:List Int) (v15:List Int),Zb8 x.Merge=some (.tup [L 1 (v15.map ic),.own 0,Bo true],[.arr 3 1 true (v14.map ic)])/\(some (.tup [I (w (1+x2)),L 1 (v15.map ic),.own 0],[.arr 3 1 true (v14.map ic)])=some r)))else(some (.tup [I (w (1+x2)),.t .nil,.t .nil],[])=some r)))else(if x2=4 then(∃(v16:Bool),Zcf x.Nested=some (Bo v16,[])/\(if v16=true then((Zb8 x.Nested=some (.tup [.t .nil,.t .nil,Bo false],[])/\(∃(v17:List (List Int)),Zdq=some (.own 0,[.arr 30 1 true (v17.map isc)])/\(Zis x v17 (w (1+x2)) x1 x2 (v17.length:Int) 0=some r)))\/(∃(v18:List Int) (v19:List Int),Zb8 x.Nested=some (.tup [L 1 (v19.map ic),.own 0,Bo true],[.arr 3 1 true (v18.map ic)])/\(some (.tup [I (w (1+x2)),L 1 (v19.map ic),.own 0],[.arr 3 1 true (v18.map ic)])=some r)))else(some (.tup [I (w (1+x2)),.t .nil,.t .nil],[])=some r)))else False)))))else(some (.tup [I 0,.t .nil,.t .nil],[])=some r))):Zbp x x1 x2=some r:=by
 unfold Zbp;rw[Zd Zim.eq_1];by_cases q1:x2<x1
 .rw[if_pos q1]at h;by_cases q2:x2=0
  .rw[if_pos q2]at h;subst q2;obtain⟨v,q3,h⟩:=h;unfold Zcf at q3
   try simp at q3
   by_cases q4:v=true
   .rw[if_pos q4]at h;rcases h with h|h
    .obtain⟨q5,h⟩:=h;unfold Zb8 at q5
     try simp at q5
     obtain⟨v1,q6,h⟩:=h;unfold Zdq at q6
     try simp at q6
     refine Ya ?_ h;clear h;simp +decide[*,tI,tII,Zio]
    .obtain⟨v2,v3,q7,h⟩:=h;unfold Zb8 at q7
     try simp at q7
     refine Ya ?_ h;clear h;simp +decide[*,tI,tII]
   .rw[if_neg q4]at h;refine Ya ?_ h;clear h;simp +decide[*,tI,tII]
  .rw[if_neg q2]at h;replace q2:=eq_false q2;by_cases q8:x2=1
   .rw[if_pos q8]at h;subst q8;obtain⟨v4,q9,h⟩:=h;unfold Zcf at q9
    try simp at q9
    by_cases q10:v4=true
    .rw[if_pos q10]at h;rcases h with h|h
     .obtain⟨q11,h⟩:=h;unfold Zb8 at q11
      try simp at q11
      obtain⟨v5,q12,h⟩:=h;unfold Zdq at q12
      try simp at q12
      refine Ya ?_ h;clear h;simp +decide[*,tI,tII,Zip]
     .obtain⟨v6,v7,q13,h⟩:=h;unfold Zb8 at q13
      try simp at q13
      refine Ya ?_ h;clear h;simp +decide[*,tI,tII]
    .rw[if_neg q10]at h;refine Ya ?_ h;clear h;simp +decide[*,tI,tII]
   .rw[if_neg q8]at h;replace q8:=eq_false q8;by_cases q14:x2=2
    .rw[if_pos q14]at h;subst q14;obtain⟨v8,q15,h⟩:=h;unfold Zcf at q15
     try simp at q15
     by_cases q16:v8=true
     .rw[if_pos q16]at h;rcases h with h|h
      .obtain⟨q17,h⟩:=h;unfold Zb8 at q17
       try simp at q17
       obtain⟨v9,q18,h⟩:=h;unfold Zdq at q18
       try simp at q18
       refine Ya ?_ h;clear h;simp +decide[*,tI,tII,Ziq]
      .obtain⟨v10,v11,q19,h⟩:=h;unfold Zb8 at q19
       try simp at q19
       refine Ya ?_ h;clear h;simp +decide[*,tI,tII]
     .rw[if_neg q16]at h;refine Ya ?_ h;clear h;simp +decide[*,tI,tII]
    .rw[if_neg q14]at h;replace q14:=eq_false q14;by_cases q20:x2=3
     .rw[if_pos q20]at h;subst q20;obtain⟨v12,q21,h⟩:=h;unfold Zcf at q21
      try simp at q21
      by_cases q22:v12=true
      .rw[if_pos q22]at h;rcases h with h|h
       .obtain⟨q23,h⟩:=h;unfold Zb8 at q23
        try simp at q23
        obtain⟨v13,q24,h⟩:=h;unfold Zdq at q24
        try simp at q24
        refine Ya ?_ h;clear h;simp +decide[*,tI,tII,Zir]
       .obtain⟨v14,v15,q25,h⟩:=h;unfold Zb8 at q25
        try simp at q25
        refine Ya ?_ h;clear h;simp +decide[*,tI,tII]
      .rw[if_neg q22]at h;refine Ya ?_ h;clear h;simp +decide[*,tI,tII]
     .rw[if_neg q20]at h;replace q20:=eq_false q20;by_cases q26:x2=4
      .rw[if_pos q26]at h;subst q26;obtain⟨v16,q27,h⟩:=h;unfold Zcf at q27
       try simp at q27
       by_cases q28:v16=true
       .rw[if_pos q28]at h;rcases h with h|h
        .obtain⟨q29,h⟩:=h;unfold Zb8 at q29
         try simp at q29
         obtain⟨v17,q30,h⟩:=h;unfold Zdq at q30
         try simp at q30
         refine Ya ?_ h;clear h;simp +decide[*,tI,tII,Zis]
        .obtain⟨v18,v19,q31,h⟩:=h;unfold Zb8 at q31
         try simp at q31
         refine Ya ?_ h;clear h;simp +decide[*,tI,tII]
       .rw[if_neg q28]at h;refine Ya ?_ h;clear h;simp +decide[*,tI,tII]
      .rw[if_neg q26]at h;replace q26:=eq_false q26;cases h
 .rw[if_neg q1]at h;refine Ya ?_ h;clear h;simp +decide[*,tI,tII,Zin]
theorem Ze3:(∀⦃o x cc x1 x2 x3 x4 r⦄,Im (Zio o x cc x1 x2 x3 x4=some r) (if x4<x3 then(0<=x4/\(∃e1,x[x4.toNat]?=some e1/\(∃v3,Zfo o.Scan e1=some (I v3,[])/\(if v3<1 then(some (.tup [I cc,L 1 (e1.map ic),.t .nil],[])=some r)else(Zio o x cc x1 x2 x3 (w (x4+1))=some r)))))else(Zbp o x1 (w (x2+1))=some r)))/\
 (∀⦃o x cc x1 x2 x3 x4 r⦄,Im (Zip o x cc x1 x2 x3 x4=some r) (if x4<x3 then(0<=x4/\(∃e1,x[x4.toNat]?=some e1/\(∃v3,Zfo o.Sort_ e1=some (I v3,[])/\(if v3<1 then(some (.tup [I cc,L 1 (e1.map ic),.t .nil],[])=some r)else(Zip o x cc x1 x2 x3 (w (x4+1))=some r)))))else(Zbp o x1 (w (x2+1))=some r)))/\
 (∀⦃o x cc x1 x2 x3 x4 r⦄,Im (Ziq o x cc x1 x2 x3 x4=some r) (if x4<x3 then(0<=x4/\(∃e1,x[x4.toNat]?=some e1/\(∃v3,Zfo o.Hash e1=some (I v3,[])/\(if v3<1 then(some (.tup [I cc,L 1 (e1.map ic),.t .nil],[])=some r)else(Ziq o x cc x1 x2 x3 (w (x4+1))=some r)))))else(Zbp o x1 (w (x2+1))=some r)))/\
 (∀⦃o x cc x1 x2 x3 x4 r⦄,Im (Zir o x cc x1 x2 x3 x4=some r) (if x4<x3 then(0<=x4/\(∃e1,x[x4.toNat]?=some e1/\(∃v3,Zfo o.Merge e1=some (I v3,[])/\(if v3<1 then(some (.tup [I cc,L 1 (e1.map ic),.t .nil],[])=some r)else(Zir o x cc x1 x2 x3 (w (x4+1))=some r)))))else(Zbp o x1 (w (x2+1))=some r)))/\
 (∀⦃o x cc x1 x2 x3 x4 r⦄,Im (Zis o x cc x1 x2 x3 x4=some r) (if x4<x3 then(0<=x4/\(∃e1,x[x4.toNat]?=some e1/\(∃v3,Zfo o.Nested e1=some (I v3,[])/\(if v3<1 then(some (.tup [I cc,L 1 (e1.map ic),.t .nil],[])=some r)else(Zis o x cc x1 x2 x3 (w (x4+1))=some r)))))else(Zbp o x1 (w (x2+1))=some r)))/\
 (∀⦃a r⦄,Im (Zmv a=some r) (Zd2 a=some (.bsl 1 5,[.box (a.c.map .t),.box [.ptr 0 0,.ptr 0 6,.ptr 0 12,.ptr 0 18,.ptr 0 24]])/\(Zbp a 5 0=some r)))/\
 (∀⦃a r⦄,Im (Zhg a=some r) ((∃(v:List Int),∃v1,∃(v2:List Int),Zmv a=some (.tup [I v1,L 1 (v2.map ic),.own 0],[.arr 3 1 true (v.map ic)])/\(some (Bo (decide (v1=0)),[])=some r))\/(∃v3,Zmv a=some (.tup [I v3,.t .nil,.t .nil],[])/\(some (Bo (decide (v3=0)),[])=some r))\/(∃v4,∃(v5:List Int),Zmv a=some (.tup [I v4,L 1 (v5.map ic),.t .nil],[])/\(some (Bo (decide (v4=0)),[])=some r))))/\
 (∀⦃n c r⦄,Im (Zqm n c=some r) (∃v,Zet c=some (I v,[])/\(if n<=v then(some (I c,[])=some r)else(Zqm n (w (c+1))=some r))))/\
 (∀⦃a r⦄,Im (Zev a=some r) (∃v,Zz a 0 4096=some (Bo v,[])/\(if v=true then(Zqm a 0=some r)else(some (I (-1),[])=some r))))/\
 (∀⦃a r⦄,Im (Zcs a=some r) (∃v,Zev a=some (I v,[])/\(∃v3,Zet v=some (I v3,[])/\(some (I v3,[])=some r))))/\
 (∀⦃a a1 a2 r⦄,Im (Zhh a a1 a2=some r) (0<=a2/\(∃e1,a1[a2.toNat]?=some e1/\(∃v3,Zcs (e1.Rows.length:Int)=some (I v3,[])/\(∃e3,a[a2.toNat]?=some e3/\(if 0<=e3.Left then(∃e4,a1[e3.Left.toNat]?=some e4/\(∃v7,Zcs (e4.Rows.length:Int)=some (I v7,[])/\(if 0<=e3.Right then(∃e6,a1[e3.Right.toNat]?=some e6/\(∃v8,Zcs (e6.Rows.length:Int)=some (I v8,[])/\(some (.tup [I v7,I v8,I v3],[])=some r)))else(some (.tup [I v7,I 0,I v3],[])=some r))))else(if 0<=e3.Right then(∃e8,a1[e3.Right.toNat]?=some e8/\(∃v9,Zcs (e8.Rows.length:Int)=some (I v9,[])/\(some (.tup [I v3,I v9,I v3],[])=some r)))else(some (.tup [I v3,I 0,I v3],[])=some r))))))))/\
 (∀⦃a a1 a2 a3 r⦄,Im (Zb2 a a1 a2 a3=some r) (∃v,Zcf a=some (Bo v,[])/\(if v=true then(∃v3,Zz a1 0 4096=some (Bo v3,[])/\(if v3=true then(∃v4,Zz a2 0 4096=some (Bo v4,[])/\(if v4=true then(∃v6,Zz a3 0 4096=some (Bo v6,[])/\(if v6=true then(∃v7,Zik a a1 a2 a3=some (I v7,[])/\(some (I v7,[])=some r))else(some (I 0,[])=some r)))else(some (I 0,[])=some r)))else(some (I 0,[])=some r)))else(some (I 0,[])=some r)))):=by
 and_intros
 all_goals intros
 all_goals unfold Im
 all_goals try simp only[Zio,Zip,Ziq,Zir,Zis,Zmv,Zhg,Zqm,Zev,Zcs,Zhh,Zb2,Zfo,Zk.c_def,Zd2,Zi.c_def,Zet,Zz,Zcf,Zik,Zbp,mpl,dfs]
 all_goals try simp only[itb]
 all_goals try simp only[itf,gS,kk]
 all_goals repeat' first|refine exI λ_=>?_|refine anJ λ_ _=>?_|refine anI λ_=>?_|refine orE2 ?_ ?_|exact False.elim
 all_goals (intro h;first|rw[Zd Zkk.eq_1]|refine run Zbs0 rfl ?_|refine run Zbs1 rfl ?_|rw[Zd Z1f.eq_1]|refine run Zbs2 rfl ?_|refine run Zbs3 rfl ?_|refine run Zbs4 rfl ?_|refine run Zbs5 rfl ?_)
 all_goals (refine Ya ?_ h;clear h;simp +decide[*,kk,tI,tII,Zkl,Zbbm,Zbbn,Zbbo,Zbbp,Zbbs,Zbbq,Zbbr,Zbbt])
abbrev Zbfy:=Ze3.1
abbrev Zbfz:=Ze3.2.1
abbrev Zbf0:=Ze3.2.2.1
abbrev Zbf1:=Ze3.2.2.2.1
abbrev Zbf2:=Ze3.2.2.2.2.1
abbrev Zbwu:=Ze3.2.2.2.2.2.1
abbrev Zbwv:=Ze3.2.2.2.2.2.2.1
abbrev Zi4:=Ze3.2.2.2.2.2.2.2.1
abbrev Zbww:=Ze3.2.2.2.2.2.2.2.2.1
abbrev Zbwx:=Ze3.2.2.2.2.2.2.2.2.2.1
abbrev Zbwy:=Ze3.2.2.2.2.2.2.2.2.2.2.1
abbrev Zbwz:=Ze3.2.2.2.2.2.2.2.2.2.2.2
theorem Zbf3:(∀⦃o cd cc c k r⦄,Im (Zqn o cd cc c k=some r) (if k<=7 then(∃v,Zet k=some (I v,[])/\(∃v1,Zik o cd cc v=some (I v1,[])/\(if v1<=c then(Zqn o cd cc c (w (k+1))=some r)else(some (I k,[])=some r))))else(some (I k,[])=some r)))/\
 (∀⦃a a1 a2 a3 r⦄,Im (Zb3 a a1 a2 a3=some r) (Zqn a a1 a2 a3 0=some r)):=by
 and_intros
 all_goals intros
 all_goals unfold Im
 all_goals try simp only[Zqn,Zb3,Zet,Zik,Zk.c_def,mpl,dfs]
 all_goals try simp only[itb]
 all_goals try simp only[itf,gS,kk]
 all_goals repeat' first|refine exI λ_=>?_|refine anJ λ_ _=>?_|refine anI λ_=>?_|refine orE2 ?_ ?_|exact False.elim
 all_goals (intro h;first|rw[Zd Z1g.eq_1]|refine run Zbs7 rfl ?_)
 all_goals (refine Ya ?_ h;clear h;simp +decide[*,kk,tI,tII,Z1h,Zbbu])
abbrev Zbf4:=Zbf3.1
abbrev Zbw0:=Zbf3.2
theorem Zbw1{a:Zi}{a1:Plan}{a2:List Za}{a3:List Zb}{a4:Int}{r:AV×List Blk}(h:(∃(v:Int) (v1:Int) (v2:Int),Zhh a2 a3 a4=some (.tup [I v,I v1,I v2],[])/\(Zd2 a=some (.bsl 1 5,[.box (a.c.map .t),.box [.ptr 0 0,.ptr 0 6,.ptr 0 12,.ptr 0 18,.ptr 0 24]])/\(0<=a4/\(∃(e3:Zf),a1.Steps[a4.toNat]?=some e3/\(if(w (e3.Kind-1))=0 then(∃(v3:Int),Zb2 a.Scan v v1 v2=some (I v3,[])/\(some (I v3,[])=some r))else(if(w (e3.Kind-1))=1 then(∃(v4:Int),Zb2 a.Sort_ v v1 v2=some (I v4,[])/\(some (I v4,[])=some r))else(if(w (e3.Kind-1))=2 then(∃(v5:Int),Zb2 a.Hash v v1 v2=some (I v5,[])/\(some (I v5,[])=some r))else(if(w (e3.Kind-1))=3 then(∃(v6:Int),Zb2 a.Merge v v1 v2=some (I v6,[])/\(some (I v6,[])=some r))else(if(w (e3.Kind-1))=4 then(∃(v7:Int),Zb2 a.Nested v v1 v2=some (I v7,[])/\(some (I v7,[])=some r))else False)))))))))):Zkm a a1 a2 a3 a4=some r:=by
 unfold Zkm;refine run Zbs6 rfl ?_;obtain⟨v,v1,v2,q1,h⟩:=h;unfold Zhh at q1
 try simp at q1
 obtain⟨q2,h⟩:=h;unfold Zd2 at q2
 try simp at q2
 obtain⟨q3,h⟩:=h;obtain⟨e3,q4,h⟩:=h;have gq4:=Zbx q4;have kq4:=Zb0 q4;by_cases q5:(w (e3.Kind-1))=0
 .rw[if_pos q5]at h;obtain⟨v3,q6,h⟩:=h;unfold Zb2 at q6
  try simp at q6
  refine Ya ?_ h;clear h;simp +decide[*,Zmw,tI,tII]
 .rw[if_neg q5]at h;replace q5:=eq_false q5;by_cases q7:(w (e3.Kind-1))=1
  .rw[if_pos q7]at h;obtain⟨v4,q8,h⟩:=h;unfold Zb2 at q8
   try simp at q8
   refine Ya ?_ h;clear h;simp +decide[*,Zmw,tI,tII]
  .rw[if_neg q7]at h;replace q7:=eq_false q7;by_cases q9:(w (e3.Kind-1))=2
   .rw[if_pos q9]at h;obtain⟨v5,q10,h⟩:=h;unfold Zb2 at q10
    try simp at q10
    refine Ya ?_ h;clear h;simp +decide[*,Zmw,tI,tII]
   .rw[if_neg q9]at h;replace q9:=eq_false q9;by_cases q11:(w (e3.Kind-1))=3
    .rw[if_pos q11]at h;obtain⟨v6,q12,h⟩:=h;unfold Zb2 at q12
     try simp at q12
     refine Ya ?_ h;clear h;simp +decide[*,Zmw,tI,tII]
    .rw[if_neg q11]at h;replace q11:=eq_false q11;by_cases q13:(w (e3.Kind-1))=4
     .rw[if_pos q13]at h;obtain⟨v7,q14,h⟩:=h;unfold Zb2 at q14
      try simp at q14
      refine Ya ?_ h;clear h;simp +decide[*,Zmw,tI,tII]
     .rw[if_neg q13]at h;replace q13:=eq_false q13;cases h
theorem Zbf5:(∀⦃a r⦄,Im (Zu5 a=some r) (∃(v:List (List Int)),Zib a=some (.own 0,[.arr 30 1 true (v.map isc)])/\(∃(v1:List (List Int)),Z1i v=some (.tup [],[.arr 30 1 true (v1.map isc)])/\(∃(v2:List (List Int)),Z1j v1=some (.own 1,[.dead,.arr 30 1 true (v2.map isc)])/\(some (.own 0,[.arr 30 1 true (v2.map isc)])=some r)))))/\
 (∀⦃a r⦄,Im (Zfp a=some r) (∃v,Zd0 a=some (Bo v,[])/\(if v=true then(∃(v1:List Int),Zdz a.Vars=some (.own 0,[.arr 3 1 true (v1.map ic)])/\(∃(v2:List (List Int)),Zu5 a.Rows=some (.own 0,[.arr 30 1 true (v2.map isc)])/\(some (.tup [.agg [.own 0,.own 1],Bo true],[.arr 3 1 true (v1.map ic),.arr 30 1 true (v2.map isc)])=some r)))else(some (.tup [.agg [.t .nil,.t .nil],Bo false],[])=some r)))):=by
 and_intros
 all_goals intros
 all_goals unfold Im
 all_goals try simp only[Zu5,Zfp,Zib,Z1i,Z1j,Zd0,Zdz,Zb.c_def,mpl,dfs]
 all_goals try simp only[itb]
 all_goals try simp only[itf,gS,kk]
 all_goals repeat' first|refine exI λ_=>?_|refine anJ λ_ _=>?_|refine anI λ_=>?_|refine orE2 ?_ ?_|exact False.elim
 all_goals (intro h;first|refine run Zbs8 rfl ?_|refine run Zbs9 rfl ?_)
 all_goals (refine Ya ?_ h;clear h;simp +decide[*,kk,tI,tII,Zbbv,Zbbw])
abbrev Zbw2:=Zbf5.1
abbrev Zbw3:=Zbf5.2
theorem Ze4:(∀⦃a a1 a2 r⦄,Im (Zbf a a1 a2=some r) (if a1<=a then(some (Bo (decide (a<=a2)),[])=some r)else(some (Bo false,[])=some r)))/\
 (∀⦃a r⦄,Im (Zmx a=some r) (if(a.size:Int)=1 then(∃b1,a[0]?=some b1/\(if 97<=(b1.toNat:Int)then(some (Bo (decide ((b1.toNat:Int)<=122)),[])=some r)else(some (Bo false,[])=some r)))else(some (Bo false,[])=some r)))/\
 (∀⦃l x i r⦄,Im (Zqo l x i=some r) (if i<(l.length:Int)then(0<=i/\(∃e1,l[i.toNat]?=some e1/\(if e1=x then(some (Bo true,[])=some r)else(Zqo l x (w (i+1))=some r))))else(some (Bo false,[])=some r)))/\
 (∀⦃a a1 r⦄,Im (Zfq a a1=some r) (Zqo a a1 0=some r))/\
 (∀⦃q cd i r⦄,Im (Zmy q cd i=some r) (if i<(q.Atoms.length:Int)then(0<=i/\(∃e1,q.Atoms[i.toNat]?=some e1/\(∃v2,Zmx e1.Name=some (Bo v2,[])/\(if v2=true then(∃v3,Zbf (e1.Vars.length:Int) 1 3=some (Bo v3,[])/\(if v3=true then(Zqp q e1 cd i 0=some r)else(some (Bo false,[])=some r)))else(some (Bo false,[])=some r)))))else(¬q.Zm<0/\(some (Bo (decide (cd=(w ((shlI 1 q.Zm)-1)))),[])=some r))))/\
 (∀⦃q a cd i k r⦄,Im (Zqp q a cd i k=some r) (if k<(a.Vars.length:Int)then(0<=k/\(∃e1,a.Vars[k.toNat]?=some e1/\(∃v2,Zbf e1 0 (w (q.Zm-1))=some (Bo v2,[])/\(if v2=true then(k.toNat<=a.Vars.length/\(∃v3,Zfq (a.Vars.take k.toNat) e1=some (Bo v3,[])/\(if v3=true then(some (Bo false,[])=some r)else(¬e1<0/\(Zqp q a (orI cd (shlI 1 e1)) i (w (k+1))=some r)))))else(some (Bo false,[])=some r)))))else(Zmy q cd (w (i+1))=some r)))/\
 (∀⦃a r⦄,Im (Zgf a=some r) (∃v1,Zbf a.Zm 1 4=some (Bo v1,[])/\(if v1=true then(∃v2,Zbf (a.Atoms.length:Int) 1 4=some (Bo v2,[])/\(if v2=true then(Zmy a 0 0=some r)else(some (Bo false,[])=some r)))else(some (Bo false,[])=some r))))/\
 (∀⦃q cc x i r⦄,Im (Zkn q cc x i=some r) (if i<(q.Atoms.length:Int)then(Zmz q cc x i 0=some r)else(some (I x,[])=some r)))/\
 (∀⦃q cc x i k r⦄,Im (Zmz q cc x i k=some r) (0<=i/\(∃e1,q.Atoms[i.toNat]?=some e1/\(if k<(e1.Vars.length:Int)then(¬i<0/\(if(andI (shrI cc i) 1)=1 then(0<=k/\(∃e2,e1.Vars[k.toNat]?=some e2/\(¬e2<0/\(Zmz q cc (orI x (shlI 1 e2)) i (w (k+1))=some r))))else(Zkn q cc x (w (i+1))=some r)))else(Zkn q cc x (w (i+1))=some r)))))/\
 (∀⦃a a1 r⦄,Im (Zei a a1=some r) (Zkn a a1 0 0=some r))/\
 (∀⦃a a1 r⦄,Im (Zko a a1=some r) (∃v1,Zbf a1 0 3=some (Bo v1,[])/\(if v1=true then(¬a1<0/\(some (Bo (decide ((andI (shrI a a1) 1)=1)),[])=some r))else(some (Bo false,[])=some r))))/\
 (∀⦃x x1 x2 a b y v r⦄,Im (Zkr x x1 x2 a b y v=some r) (if x1.Kind=4 then(∃v1,Zko v x1.Order=some (Bo v1,[])/\(if v1=true then(if a.Order=x1.Order then(if b.Order=x1.Order then(some (.tup [.agg [I y.Mask,I x1.Order,I y.Left,I y.Right],I 2],[])=some r)else(some (.tup [.agg [I 0,I 0,I 0,I 0],I (-1)],[])=some r))else(some (.tup [.agg [I 0,I 0,I 0,I 0],I (-1)],[])=some r))else(some (.tup [.agg [I 0,I 0,I 0,I 0],I (-1)],[])=some r)))else(some (.tup [.agg (y.c.map .t),I 2],[])=some r))):=by
 and_intros
 all_goals intros
 all_goals unfold Im
 all_goals try simp only[Zbf,Zmx,Zqo,Zfq,Zmy,Zqp,Zgf,Zkn,Zmz,Zei,Zko,Zkr,mpl,dfs]
 all_goals try simp only[itb]
 all_goals try simp only[itf,gS,kk]
 all_goals repeat' first|refine exI λ_=>?_|refine anJ λ_ _=>?_|refine anI λ_=>?_|refine orE2 ?_ ?_|exact False.elim
 all_goals (intro h;first|refine run Zbta rfl ?_|refine run Zbtb rfl ?_|rw[Zd Z1k.eq_1]|refine run Zbtc rfl ?_|rw[Zd Zu6.eq_1]|rw[Zd Z1m.eq_1]|refine run Zbtd rfl ?_|rw[Zd Zu8.eq_1]|rw[Zd Z1o.eq_1]|refine run Zbte rfl ?_|refine run Zbtf rfl ?_|rw[Ev_eq Zqq.eq_1])
 all_goals (refine Ya ?_ h;clear h;simp +decide[*,kk,tI,tII,Zbbx,Zbby,Z1l,Zbbz,Zu7,Z1n,Zbb0,Zu9,Z1p,Zbb1,Zbb2,Z1q])
abbrev Zbw4:=Ze4.1
abbrev Zbw5:=Ze4.2.1
abbrev Zbf6:=Ze4.2.2.1
abbrev Zbw6:=Ze4.2.2.2.1
abbrev Zbf7:=Ze4.2.2.2.2.1
abbrev Zbf8:=Ze4.2.2.2.2.2.1
abbrev Zbw7:=Ze4.2.2.2.2.2.2.1
abbrev Zbf9:=Ze4.2.2.2.2.2.2.2.1
abbrev Z4r:=Ze4.2.2.2.2.2.2.2.2.1
abbrev Zbw8:=Ze4.2.2.2.2.2.2.2.2.2.1
abbrev Zbw9:=Ze4.2.2.2.2.2.2.2.2.2.2.1
abbrev Zbxa:=Ze4.2.2.2.2.2.2.2.2.2.2.2
theorem Zn7:(∀⦃x x1 x2 a b y v x3 r⦄,Im (Zit x x1 x2 a b y v x3=some r) (if x1.Kind=4 then(∃v1,Zko v x1.Order=some (Bo v1,[])/\(if v1=true then(if a.Order=x1.Order then(if b.Order=x1.Order then(some (.tup [.agg [I y.Mask,I x1.Order,I y.Left,I y.Right],I 2],[])=some r)else(some (.tup [.agg [I 0,I 0,I 0,I 0],I (-1)],[])=some r))else(some (.tup [.agg [I 0,I 0,I 0,I 0],I (-1)],[])=some r))else(some (.tup [.agg [I 0,I 0,I 0,I 0],I (-1)],[])=some r)))else(some (.tup [.agg (y.c.map .t),I 2],[])=some r)))/\
 (∀⦃a a1 a2 a3 r⦄,Im (Zkp a a1 a2 a3=some r) (if a1.Kind=1 then(∃v1,Zbf a1.Atom 0 (w ((a.Atoms.length:Int)-1))=some (Bo v1,[])/\(if v1=true then(if a1.Order=0 then(¬a1.Atom<0/\(0<=a1.Atom/\(∃e2,a.Atoms[a1.Atom.toNat]?=some e2/\(∃e3,e2.Vars[0]?=some e3/\(some (.tup [.agg [I (shlI 1 a1.Atom),I e3,I (-1),I (-1)],I 0],[])=some r)))))else(some (.tup [.agg [I 0,I 0,I 0,I 0],I (-1)],[])=some r))else(some (.tup [.agg [I 0,I 0,I 0,I 0],I (-1)],[])=some r)))else(if a1.Kind=2 then(if a1.Atom=0 then(if(a3.length:Int)<1 then(some (.tup [.agg [I 0,I 0,I 0,I 0],I (-1)],[])=some r)else(0<=(w ((a3.length:Int)-1))/\(∃e4,a3[(w ((a3.length:Int)-1)).toNat]?=some e4/\(0<=e4/\(∃e5,a2[e4.toNat]?=some e5/\(if e5.Order=a1.Order then(some (.tup [.agg [I 0,I 0,I 0,I 0],I (-1)],[])=some r)else(∃v4,Zei a e5.Mask=some (I v4,[])/\(∃v5,Zko v4 a1.Order=some (Bo v5,[])/\(if v5=true then(some (.tup [.agg [I e5.Mask,I a1.Order,I e4,I (-1)],I 1],[])=some r)else(some (.tup [.agg [I 0,I 0,I 0,I 0],I (-1)],[])=some r))))))))))else(some (.tup [.agg [I 0,I 0,I 0,I 0],I (-1)],[])=some r))else(if a1.Kind=3 then(Zkq a a1 (⟨0,0,0,0⟩:Za) a2 a3 (a3.length:Int) a1.Kind true=some r)else(if a1.Kind=4 then(Zkq a a1 (⟨0,0,0,0⟩:Za) a2 a3 (a3.length:Int) a1.Kind true=some r)else(if a1.Kind=5 then(if a1.Atom=0 then(if(a3.length:Int)<2 then(some (.tup [.agg [I 0,I 0,I 0,I 0],I (-1)],[])=some r)else(0<=(w ((a3.length:Int)-2))/\(∃e8,a3[(w ((a3.length:Int)-2)).toNat]?=some e8/\(0<=e8/\(∃e9,a2[e8.toNat]?=some e9/\(0<=(w ((a3.length:Int)-1))/\(∃e10,a3[(w ((a3.length:Int)-1)).toNat]?=some e10/\(0<=e10/\(∃e11,a2[e10.toNat]?=some e11/\(∃v6,Zei a e9.Mask=some (I v6,[])/\(∃v7,Zei a e11.Mask=some (I v7,[])/\(if(andI e9.Mask e11.Mask)=0 then(if(andI v6 v7)=0 then(some (.tup [.agg [I 0,I 0,I 0,I 0],I (-1)],[])=some r)else(if a1.Order=0 then(Zkr a a1 (⟨0,0,0,0⟩:Za) e9 e11 (⟨(orI e9.Mask e11.Mask),e9.Order,e8,e10⟩:Za) (andI v6 v7)=some r)else(some (.tup [.agg [I 0,I 0,I 0,I 0],I (-1)],[])=some r)))else(some (.tup [.agg [I 0,I 0,I 0,I 0],I (-1)],[])=some r)))))))))))))else(some (.tup [.agg [I 0,I 0,I 0,I 0],I (-1)],[])=some r))else(some (.tup [.agg [I 0,I 0,I 0,I 0],I (-1)],[])=some r)))))))/\
 (∀⦃q p cd cc i r⦄,Im (Zqr q p cd cc i=some r) (if i<(p.Steps.length:Int)then(0<=i/\(∃e1,p.Steps[i.toNat]?=some e1/\(∃(v2:Za),∃v3,Zkp q e1 cd cc=some (.tup [.agg (v2.c.map .t),I v3],[])/\(if v3<0 then(some (.tup [.own 0,Bo false],[.arr 209 4 true (([]:List Za).map Za.c)])=some r)else(cd.length+1<=68719476736/\(0<=(w ((cc.length:Int)-v3))/\((w ((cc.length:Int)-v3)).toNat<=cc.length/\((w ((cc.length:Int)-v3)).toNat<=68719476736/\((w ((cc.length:Int)-v3)).toNat+1<=68719476736/\(Zqr q p (cd++[v2]) ((cc.take ((w ((cc.length:Int)-v3)).toNat))++[i]) (w (i+1))=some r))))))))))else(if(cc.length:Int)=1 then(some (.tup [.own 0,Bo true],[.arr 209 4 true (cd.map Za.c)])=some r)else(some (.tup [.own 0,Bo false],[.arr 209 4 true (([]:List Za).map Za.c)])=some r))))/\
 (∀⦃a a1 r⦄,Im (Zks a a1=some r) (∃v1,Zgf a=some (Bo v1,[])/\(if v1=true then(∃v2,Zbf (a1.Steps.length:Int) 1 14=some (Bo v2,[])/\(if v2=true then(Zqr a a1 ([]:List Za) ([]:List Int) 0=some r)else(some (.tup [.own 0,Bo false],[.arr 209 4 true (([]:List Za).map Za.c)])=some r)))else(some (.tup [.own 0,Bo false],[.arr 209 4 true (([]:List Za).map Za.c)])=some r))))/\
 (∀⦃cd i r⦄,Im (Zqs cd i=some r) (0<=i/\(∃e1,cd[i.toNat]?=some e1/\(if 0<=e1.Left then(Zqs cd e1.Left=some r)else(some (I i,[])=some r)))))/\
 (∀⦃a a1 r⦄,Im (Zm0 a a1=some r) (Zqs a a1=some r)):=by
 and_intros
 all_goals intros
 all_goals unfold Im
 all_goals try simp only[Zkp,Zqr,Zks,Zqs,Zm0,Zko,Zbf,Zei,Ze.c_def,Zf.c_def,Za.c_def,Zgf,Zkq,Zkr,Zit,mpl,dfs]
 all_goals try simp only[itb]
 all_goals try simp only[itf,gS,kk]
 all_goals repeat' first|refine exI λ_=>?_|refine anJ λ_ _=>?_|refine anI λ_=>?_|refine orE2 ?_ ?_|exact False.elim
 all_goals (intro h;first|rw[Ev_eq Zqq.eq_1]|refine run Zbtg rfl ?_|rw[Zd Z1r.eq_1]|refine run Zbth rfl ?_|rw[Zd Z1t.eq_1]|refine run Zbti rfl ?_)
 all_goals (refine Ya ?_ h;clear h;simp +decide[*,kk,tI,tII,Z1q,Zbb3,Zva,Z1s,Zbb4,Z1u,Zbb5])
abbrev Z4s:=Zn7.1
abbrev Zgn:=Zn7.2.1
abbrev Zbga:=Zn7.2.2.1
abbrev Zbxb:=Zn7.2.2.2.1
abbrev Zbxc:=Zn7.2.2.2.2.1
abbrev Zbxd:=Zn7.2.2.2.2.2
theorem Zr1{q:Ze}{x:Zf}{x1:Za}{cc:List Za}{c:List Int}{n x2:Int}{x3:Bool}{r:AV×List Blk}(h:(if x3=true then(if x.Atom=0 then(if n<2 then(some (.tup [.agg [I 0,I 0,I 0,I 0],I (-1)],[])=some r)else(0<=(w (n-2))/\(∃(e1:Int),c[(w (n-2)).toNat]?=some e1/\(0<=e1/\(∃(e2:Za),cc[e1.toNat]?=some e2/\(0<=(w (n-1))/\(∃(e3:Int),c[(w (n-1)).toNat]?=some e3/\(0<=e3/\(∃(e4:Za),cc[e3.toNat]?=some e4/\(∃(v:Int),Zei q e2.Mask=some (I v,[])/\(∃(v1:Int),Zei q e4.Mask=some (I v1,[])/\(if(andI e2.Mask e4.Mask)=0 then(if(andI v v1)=0 then(some (.tup [.agg [I 0,I 0,I 0,I 0],I (-1)],[])=some r)else(if x.Kind=4 then(Zit q x x1 e2 e4 (⟨(orI e2.Mask e4.Mask),(-1),e1,e3⟩:Za) (andI v v1) false=some r)else(if x.Order=0 then(if x.Kind=5 then(Zkr q x x1 e2 e4 (⟨(orI e2.Mask e4.Mask),e2.Order,e1,e3⟩:Za) (andI v v1)=some r)else(Zit q x x1 e2 e4 (⟨(orI e2.Mask e4.Mask),(-1),e1,e3⟩:Za) (andI v v1) false=some r))else(some (.tup [.agg [I 0,I 0,I 0,I 0],I (-1)],[])=some r))))else(some (.tup [.agg [I 0,I 0,I 0,I 0],I (-1)],[])=some r)))))))))))))else(some (.tup [.agg [I 0,I 0,I 0,I 0],I (-1)],[])=some r))else(some (.tup [.agg [I 0,I 0,I 0,I 0],I (-1)],[])=some r))):Zkq q x x1 cc c n x2 x3=some r:=by
 unfold Zkq;rw[Ev_eq Zva.eq_1];by_cases q1:x3=true
 .rw[if_pos q1]at h;by_cases q2:x.Atom=0
  .rw[if_pos q2]at h;replace q2:=eq_true q2;by_cases q3:n<2
   .rw[if_pos q3]at h;refine Ya ?_ h;clear h;simp +decide[*,tI,tII]
   .rw[if_neg q3]at h;obtain⟨q4,h⟩:=h;obtain⟨e1,q5,h⟩:=h;have gq5:=Zbx q5;have kq5:=Zb0 q5;obtain⟨q6,h⟩:=h;obtain⟨e2,q7,h⟩:=h;have gq7:=Zbx q7;have kq7:=Zb0 q7;obtain⟨q8,h⟩:=h;obtain⟨e3,q9,h⟩:=h;have gq9:=Zbx q9;have kq9:=Zb0 q9;obtain⟨q10,h⟩:=h;obtain⟨e4,q11,h⟩:=h;have gq11:=Zbx q11;have kq11:=Zb0 q11;obtain⟨v,q12,h⟩:=h;unfold Zei at q12
    try simp at q12
    obtain⟨v1,q13,h⟩:=h;unfold Zei at q13
    try simp at q13
    by_cases q14:(andI e2.Mask e4.Mask)=0
    .rw[if_pos q14]at h;replace q14:=eq_true q14;by_cases q15:(andI v v1)=0
     .rw[if_pos q15]at h;replace q15:=eq_true q15;refine Ya ?_ h;clear h;simp +decide[*,tI,tII]
     .rw[if_neg q15]at h;replace q15:=eq_false q15;by_cases q16:x.Kind=4
      .rw[if_pos q16]at h;replace q16:=eq_true q16;have q17:(x.Kind=5)=False:=eq_false (by intro hh;simp_all);refine Ya ?_ h;clear h;simp +decide[*,tI,tII,Zit]
      .rw[if_neg q16]at h;replace q16:=eq_false q16;by_cases q18:x.Order=0
       .rw[if_pos q18]at h;replace q18:=eq_true q18;by_cases q19:x.Kind=5
        .rw[if_pos q19]at h;replace q19:=eq_true q19;refine Ya ?_ h;clear h;simp +decide[*,tI,tII,Zkr]
        .rw[if_neg q19]at h;replace q19:=eq_false q19;refine Ya ?_ h;clear h;simp +decide[*,tI,tII,Zit]
       .rw[if_neg q18]at h;replace q18:=eq_false q18;refine Ya ?_ h;clear h;simp +decide[*,tI,tII]
    .rw[if_neg q14]at h;replace q14:=eq_false q14;refine Ya ?_ h;clear h;simp +decide[*,tI,tII]
  .rw[if_neg q2]at h;replace q2:=eq_false q2;refine Ya ?_ h;clear h;simp +decide[*,tI,tII]
 .rw[if_neg q1]at h;refine Ya ?_ h;clear h;simp +decide[*,tI,tII]
theorem Ze5:(∀⦃cn n i r⦄,Im (Zqt cn n i=some r) (if i<(cn.length:Int)then(0<=i/\(∃e1,cn[i.toNat]?=some e1/\(∃v1,Zbf e1 0 9=some (Bo v1,[])/\(if v1=true then(Zqt cn n (w (i+1))=some r)else(some (Bo false,[])=some r)))))else(some (Bo (decide ((cn.length:Int)=n)),[])=some r)))/\
 (∀⦃a a1 r⦄,Im (Zm1 a a1=some r) (Zqt a a1 0=some r))/\
 (∀⦃a b i r⦄,Im (Zqu a b i=some r) (if i<(a.length:Int)then(if i<(b.length:Int)then(0<=i/\(∃e1,a[i.toNat]?=some e1/\(∃e2,b[i.toNat]?=some e2/\(if e1<e2 then(some (I (-1),[])=some r)else(if e2<e1 then(some (I 1,[])=some r)else(Zqu a b (w (i+1))=some r))))))else(Zqv a b i false=some r))else(Zqv a b i false=some r)))/\
 (∀⦃a b i x r⦄,Im (Zqv a b i x=some r) (if(a.length:Int)<(b.length:Int)then(some (I (-1),[])=some r)else(if(b.length:Int)<(a.length:Int)then(some (I 1,[])=some r)else(some (I 0,[])=some r))))/\
 (∀⦃a a1 r⦄,Im (Zm2 a a1=some r) (Zqu a a1 0=some r))/\
 (∀⦃t i r⦄,Im (Zm3 t i=some r) (if i<(t.Rows.length:Int)then(0<=i/\(∃e1,t.Rows[i.toNat]?=some e1/\(∃v1,Zm1 e1 t.Arity=some (Bo v1,[])/\(if v1=true then(if 0<i then(0<=(w (i-1))/\(∃e3,t.Rows[(w (i-1)).toNat]?=some e3/\(∃v2,Zm2 e3 e1=some (I v2,[])/\(if 0<=v2 then(some (Bo false,[])=some r)else(Zm3 t (w (i+1))=some r)))))else(Zm3 t (w (i+1))=some r))else(some (Bo false,[])=some r)))))else(some (Bo true,[])=some r)))/\
 (∀⦃a r⦄,Im (Zvc a=some r) (∃v,Zmx a.Name=some (Bo v,[])/\(if v=true then(∃v1,Zbf a.Arity 1 3=some (Bo v1,[])/\(if v1=true then(if 8<(a.Rows.length:Int)then(some (Bo false,[])=some r)else(Zm3 a 0=some r))else(some (Bo false,[])=some r)))else(some (Bo false,[])=some r))))/\
 (∀⦃d i r⦄,Im (Zm4 d i=some r) (if i<(d.Tables.length:Int)then(0<=i/\(∃e1,d.Tables[i.toNat]?=some e1/\(∃v1,Zvc e1=some (Bo v1,[])/\(if v1=true then(if 0<i then(0<=(w (i-1))/\(∃e3,d.Tables[(w (i-1)).toNat]?=some e3/\(if(Op.bytesLess e3.Name.toList e1.Name.toList)=true then(Zm4 d (w (i+1))=some r)else(some (Bo false,[])=some r))))else(Zm4 d (w (i+1))=some r))else(some (Bo false,[])=some r)))))else(some (Bo (decide ((d.Tables.length:Int)<=6)),[])=some r)))/\
 (∀⦃a r⦄,Im (Zqw a=some r) (Zm4 a 0=some r))/\
 (∀⦃t cl cd cc c i r⦄,Im (Z12 t cl cd cc c i=some r) (if i<(t.Rows.length:Int)then(0<=i/\(∃e1,t.Rows[i.toNat]?=some e1/\(e1.length<=68719476736/\(Zqx t cl cd cc c ([e1]) (w (i+1))=some r))))else(some (.agg [.t (.str cc),I c,.t .nil],[])=some r)))/\
 (∀⦃t cl cd cc c x i r⦄,Im (Zqx t cl cd cc c x i=some r) (if i<(t.Rows.length:Int)then(0<=i/\(∃e1,t.Rows[i.toNat]?=some e1/\(e1.length<=68719476736/\(x.length+1<=68719476736/\(Zqx t cl cd cc c (x++[e1]) (w (i+1))=some r)))))else(some (.agg [.t (.str cc),I c,.own 0],[.arr 30 1 true (x.map isc)])=some r)))/\
 (∀⦃a r⦄,Im (Zm5 a=some r) (Z12 a ⟨#[]⟩ 0 a.Name a.Arity 0=some r)):=by
 and_intros
 all_goals intros
 all_goals unfold Im
 all_goals try simp only[Zqt,Zm1,Zqu,Zm2,Zm3,Zvc,Zm4,Zqw,Z12,Zqx,Zm5,Zbf,Zmx,Zj.c_def,Zqv,mpl,dfs]
 all_goals try simp only[itb]
 all_goals try simp only[itf,gS,kk]
 all_goals repeat' first|refine exI λ_=>?_|refine anJ λ_ _=>?_|refine anI λ_=>?_|refine orE2 ?_ ?_|exact False.elim
 all_goals (intro h;first|rw[Zd Z1v.eq_1]|refine run Zbtj rfl ?_|rw[Zd Z1x.eq_1]|rw[Ev_eq Zvb.eq_1]|refine run Zbtk rfl ?_|rw[Zd Z1y.eq_1]|refine run Zbtl rfl ?_|rw[Zd Z10.eq_1]|refine run Zbtm rfl ?_|rw[Zd Zvd.eq_1]|refine run Zbtn rfl ?_)
 all_goals (refine Ya ?_ h;clear h;simp +decide[*,kk,tI,tII,Z1w,Zbb6,Zbb7,Z1z,Zbb8,Z11,Zbb9,Zve,Zbca])
abbrev Zbgb:=Ze5.1
abbrev Zbxe:=Ze5.2.1
abbrev Zbgc:=Ze5.2.2.1
abbrev Zbxf:=Ze5.2.2.2.1
abbrev Zbxg:=Ze5.2.2.2.2.1
abbrev Zbgd:=Ze5.2.2.2.2.2.1
abbrev Zbxh:=Ze5.2.2.2.2.2.2.1
abbrev Zbge:=Ze5.2.2.2.2.2.2.2.1
abbrev Zbxi:=Ze5.2.2.2.2.2.2.2.2.1
abbrev Zbxj:=Ze5.2.2.2.2.2.2.2.2.2.1
abbrev Zbgf:=Ze5.2.2.2.2.2.2.2.2.2.2.1
abbrev Zbxk:=Ze5.2.2.2.2.2.2.2.2.2.2.2
theorem Zgo:(∀⦃d cn cl cd i r⦄,Im (Zqy d cn cl cd i=some r) (if i<(d.Tables.length:Int)then(∃v1,Zqw d=some (Bo v1,[])/\(if v1=true then(0<=i/\(∃e2,d.Tables[i.toNat]?=some e2/\(if e2.Name=cd then((∃v5 v6,Zm5 e2=some (.agg [.t (.str v5),I v6,.t .nil],[])/\(some (.tup [.agg [.t (.str v5),I v6,.t .nil],Bo true],[])=some r))\/(∃(v8:List (List Int)),∃v9,∃v10,Zm5 e2=some (.agg [.t (.str v9),I v10,.own 0],[.arr 30 1 true (v8.map isc)])/\(some (.tup [.agg [.t (.str v9),I v10,.own 0],Bo true],[.arr 30 1 true (v8.map isc)])=some r)))else(Zqy d cn cl cd (w (i+1))=some r))))else(some (.tup [.agg [.t (.str ⟨#[]⟩),I 0,.t .nil],Bo false],[])=some r)))else(some (.tup [.agg [.t (.str ⟨#[]⟩),I 0,.t .nil],Bo false],[])=some r)))/\
 (∀⦃a a1 r⦄,Im (Ziu a a1=some r) (Zqy a ⟨#[]⟩ 0 a1 0=some r))/\
 (∀⦃d q i r⦄,Im (Zm6 d q i=some r) (if i<(q.Atoms.length:Int)then(0<=i/\(∃e1,q.Atoms[i.toNat]?=some e1/\((∃v2 v3 v4,Ziu d e1.Name=some (.tup [.agg [.t (.str v2),I v3,.t .nil],Bo v4],[])/\(if v4=true then(if v3=(e1.Vars.length:Int)then(Zm6 d q (w (i+1))=some r)else(some (Bo false,[])=some r))else(some (Bo false,[])=some r)))\/(∃(v5:List (List Int)),∃v6,∃v7,Ziu d e1.Name=some (.tup [.agg [.t (.str v6),I v7,.own 0],Bo true],[.arr 30 1 true (v5.map isc)])/\(if v7=(e1.Vars.length:Int)then(Zm6 d q (w (i+1))=some r)else(some (Bo false,[])=some r))))))else(some (Bo true,[])=some r)))/\
 (∀⦃a a1 r⦄,Im (Zkt a a1=some r) (∃v1,Zgf a1=some (Bo v1,[])/\(if v1=true then(Zm6 a a1 0=some r)else(some (Bo false,[])=some r))))/\
 (∀⦃a a1 r⦄,Im (Z17 a a1=some r) (∃v1,Zgf a=some (Bo v1,[])/\(if v1=true then(¬(a.Atoms.length:Int)<0/\(∃v2,Zbf a1 0 (w ((shlI 1 (a.Atoms.length:Int))-1))=some (Bo v2,[])/\(some (Bo v2,[])=some r)))else(some (Bo false,[])=some r))))/\
 (∀⦃cc c v r⦄,Im (Zm7 cc c v=some r) (if v<4 then(¬v<0/\(if(andI (shrI c v) 1)=1 then(cc.length+1<=68719476736/\(Zm7 (cc++[v]) c (w (v+1))=some r))else(Zm7 cc c (w (v+1))=some r)))else(some (.own 0,[.arr 3 1 true (cc.map ic)])=some r)))/\
 (∀⦃a r⦄,Im (Z2a a=some r) (Zm7 ([]:List Int) a 0=some r))/\
 (∀⦃a a1 r⦄,Im (Zm8 a a1=some r) (∃v1,Z17 a a1=some (Bo v1,[])/\(if v1=true then(∃v2,Zei a a1=some (I v2,[])/\(∃(v5:List Int),Z2a v2=some (.own 0,[.arr 3 1 true (v5.map ic)])/\(some (.own 0,[.arr 3 1 true (v5.map ic)])=some r)))else(some (.own 0,[.arr 3 1 true (([]:List Int).map ic)])=some r))))/\
 (∀⦃a v k r⦄,Im (Zqz a v k=some r) (if k<(a.Vars.length:Int)then(0<=k/\(∃e1,a.Vars[k.toNat]?=some e1/\(if e1=v then(some (I k,[])=some r)else(Zqz a v (w (k+1))=some r))))else(some (I (-1),[])=some r)))/\
 (∀⦃a a1 r⦄,Im (Zm9 a a1=some r) (Zqz a a1 0=some r)):=by
 and_intros
 all_goals intros
 all_goals unfold Im
 all_goals try simp only[Zqy,Ziu,Zm6,Zkt,Z17,Zm7,Z2a,Zm8,Zqz,Zm9,Zqw,Zm5,Zl.c_def,Zj.c_def,Zgf,Ze.c_def,Zbf,Zei,mpl,dfs]
 all_goals try simp only[itb]
 all_goals try simp only[itf,gS,kk]
 all_goals repeat' first|refine exI λ_=>?_|refine anJ λ_ _=>?_|refine anI λ_=>?_|refine orE2 ?_ ?_|exact False.elim
 all_goals (intro h;first|rw[Zd Z13.eq_1]|refine run Zbto rfl ?_|rw[Zd Z15.eq_1]|refine run Zbtp rfl ?_|refine run Zbtq rfl ?_|rw[Zd Z18.eq_1]|refine run Zbtr rfl ?_|refine run Zbts rfl ?_|rw[Zd Z2b.eq_1]|refine run Zbtt rfl ?_)
 all_goals (refine Ya ?_ h;clear h;simp +decide[*,kk,tI,tII,Z14,Zbcb,Z16,Zbcc,Zbcd,Zbce,Z19,Zbcf,Zbcg,Z2c,Zbch])
abbrev Zbgg:=Zgo.1
abbrev Zbxl:=Zgo.2.1
abbrev Zbgh:=Zgo.2.2.1
abbrev Zbxm:=Zgo.2.2.2.1
abbrev Zbxn:=Zgo.2.2.2.2.1
abbrev Zbgi:=Zgo.2.2.2.2.2.1
abbrev Zbxo:=Zgo.2.2.2.2.2.2.1
abbrev Zbxp:=Zgo.2.2.2.2.2.2.2.1
abbrev Zbgj:=Zgo.2.2.2.2.2.2.2.2.1
abbrev Zbxq:=Zgo.2.2.2.2.2.2.2.2.2
theorem Ze6:(∀⦃q cc c x i k r⦄,Im (Z2d q cc c x i k=some r) (if k<0 then(Zbcj q cc c x ([]:List Int) i k 0=some r)else(some (.tup [.agg [.own 0,.t .nil],Bo true],[.arr 3 1 true (x.map ic)])=some r)))/\
 (∀⦃q cc c x x1 i k r⦄,Im (Z2e q cc c x x1 i k=some r) (if k<(x.length:Int)then(Zq3 q cc c x x1 ([]:List Int) i k 0=some r)else(some (.tup [.agg [.own 0,.t .nil],Bo true],[.arr 3 1 true (x1.map ic)])=some r)))/\
 (∀⦃q cc c x x1 cd i k j r⦄,Im (Zq3 q cc c x x1 cd i k j=some r) (if j<(x1.length:Int)then(0<=k/\(∃e1,x[k.toNat]?=some e1/\(0<=i/\(∃e2,q.Atoms[i.toNat]?=some e2/\(0<=j/\(∃e3,x1[j.toNat]?=some e3/\(∃v3,Zm9 e2 e3=some (I v3,[])/\(0<=v3/\(∃e5,e1[v3.toNat]?=some e5/\(cd.length+1<=68719476736/\(Zq3 q cc c x x1 (cd++[e5]) i k (w (j+1))=some r)))))))))))else(Zkv q cc c x x1 ([cd]) i (w (k+1))=some r)))/\
 (∀⦃q cc c x x1 x2 i k r⦄,Im (Zkv q cc c x x1 x2 i k=some r) (if k<(x.length:Int)then(Zq4 q cc c x x1 x2 ([]:List Int) i k 0=some r)else(some (.tup [.agg [.own 0,.own 1],Bo true],[.arr 3 1 true (x1.map ic),.arr 30 1 true (x2.map isc)])=some r)))/\
 (∀⦃q cc c x x1 x2 cd i k j r⦄,Im (Zq4 q cc c x x1 x2 cd i k j=some r) (if j<(x1.length:Int)then(0<=k/\(∃e1,x[k.toNat]?=some e1/\(0<=i/\(∃e2,q.Atoms[i.toNat]?=some e2/\(0<=j/\(∃e3,x1[j.toNat]?=some e3/\(∃v3,Zm9 e2 e3=some (I v3,[])/\(0<=v3/\(∃e5,e1[v3.toNat]?=some e5/\(cd.length+1<=68719476736/\(Zq4 q cc c x x1 x2 (cd++[e5]) i k (w (j+1))=some r)))))))))))else(x2.length+1<=68719476736/\(Zkv q cc c x x1 (x2++[cd]) i (w (k+1))=some r))))/\
 (∀⦃a a1 a2 r⦄,Im (Zku a a1 a2=some r) (∃v1,Zkt a a1=some (Bo v1,[])/\(if v1=true then(∃v2,Zbf a2 0 (w ((a1.Atoms.length:Int)-1))=some (Bo v2,[])/\(if v2=true then(0<=a2/\(∃e3,a1.Atoms[a2.toNat]?=some e3/\((∃v3 v4 v5,Ziu a e3.Name=some (.tup [.agg [.t (.str v3),I v4,.t .nil],Bo v5],[])/\(¬a2<0/\(∃(v6:List Int),Zm8 a1 (shlI 1 a2)=some (.own 0,[.arr 3 1 true (v6.map ic)])/\(Z2d a1 v3 v4 v6 a2 0=some r))))\/(∃(v7:List (List Int)),∃v8,∃v9,Ziu a e3.Name=some (.tup [.agg [.t (.str v8),I v9,.own 0],Bo true],[.arr 30 1 true (v7.map isc)])/\(¬a2<0/\(∃(v10:List Int),Zm8 a1 (shlI 1 a2)=some (.own 0,[.arr 3 1 true (v10.map ic)])/\(Z2e a1 v8 v9 v7 v10 a2 0=some r)))))))else(some (.tup [.agg [.t .nil,.t .nil],Bo false],[])=some r)))else(some (.tup [.agg [.t .nil,.t .nil],Bo false],[])=some r))))/\
 (∀⦃l v i r⦄,Im (Zq5 l v i=some r) (if i<(l.length:Int)then(0<=i/\(∃e1,l[i.toNat]?=some e1/\(if e1=v then(some (I i,[])=some r)else(Zq5 l v (w (i+1))=some r))))else(some (I (-1),[])=some r)))/\
 (∀⦃a a1 r⦄,Im (Zd4 a a1=some r) (Zq5 a a1 0=some r))/\
 (∀⦃s i r⦄,Im (Zna s i=some r) (if i<(s.Vars.length:Int)then(0<=i/\(∃e1,s.Vars[i.toNat]?=some e1/\(∃v2,Zbf e1 0 3=some (Bo v2,[])/\(if v2=true then(if 0<i then(0<=(w (i-1))/\(∃e3,s.Vars[(w (i-1)).toNat]?=some e3/\(if e1<=e3 then(some (Bo false,[])=some r)else(Zna s (w (i+1))=some r))))else(Zna s (w (i+1))=some r))else(some (Bo false,[])=some r)))))else(Zq6 s 0=some r)))/\
 (∀⦃s i r⦄,Im (Zq6 s i=some r) (if i<(s.Rows.length:Int)then(0<=i/\(∃e1,s.Rows[i.toNat]?=some e1/\(∃v2,Zm1 e1 (s.Vars.length:Int)=some (Bo v2,[])/\(if v2=true then(Zq6 s (w (i+1))=some r)else(some (Bo false,[])=some r)))))else(some (Bo (decide ((s.Rows.length:Int)<=4096)),[])=some r)))/\
 (∀⦃a r⦄,Im (Zej a=some r) (Zna a 0=some r))/\
 (∀⦃s x x1 cl r⦄,Im (Znb s x x1 cl=some r) (if cl<=9 then(Znc s x x1 cl 0=some r)else(some (.tup [.agg [.own 0,.t .nil],Bo true],[.arr 3 1 true (x.map ic)])=some r))):=by
 and_intros
 all_goals intros
 all_goals unfold Im
 all_goals try simp only[Z2d,Z2e,Zq3,Zkv,Zq4,Zku,Zq5,Zd4,Zna,Zq6,Zej,Znb,Zm9,Atom.c_def,Zkt,Zbf,Ziu,Zm8,Zl.c_def,Ze.c_def,Zm1,Zbcj,Znc,mpl,dfs]
 all_goals try simp only[itb]
 all_goals try simp only[itf,gS,kk]
 all_goals repeat' first|refine exI λ_=>?_|refine anJ λ_ _=>?_|refine anI λ_=>?_|refine orE2 ?_ ?_|exact False.elim
 all_goals (intro h;first|rw[Zd Ziv.eq_1]|rw[Zd Zq0.eq_1]|refine run Zbtu rfl ?_|rw[Zd Z2f.eq_1]|refine run Zbtv rfl ?_|rw[Zd Z2h.eq_1]|rw[Zd Z2i.eq_1]|refine run Zbtw rfl ?_|rw[Zd Zkw.eq_1])
 all_goals (refine Ya ?_ h;clear h;simp +decide[*,kk,tI,tII,Ziw,Zq2,Zq1,Zbci,Z2g,Zbck,Z2k,Z2j,Zbcl,Zkx])
abbrev Zbxr:=Ze6.1
abbrev Zbxs:=Ze6.2.1
abbrev Zbgk:=Ze6.2.2.1
abbrev Zbgl:=Ze6.2.2.2.1
abbrev Zbgm:=Ze6.2.2.2.2.1
abbrev Zbxt:=Ze6.2.2.2.2.2.1
abbrev Zbgn:=Ze6.2.2.2.2.2.2.1
abbrev Zbxu:=Ze6.2.2.2.2.2.2.2.1
abbrev Zbgo:=Ze6.2.2.2.2.2.2.2.2.1
abbrev Zbgp:=Ze6.2.2.2.2.2.2.2.2.2.1
abbrev Zbxv:=Ze6.2.2.2.2.2.2.2.2.2.2.1
abbrev Zbgq:=Ze6.2.2.2.2.2.2.2.2.2.2.2
theorem Zgp:(∀⦃s x x1 c i r⦄,Im (Znc s x x1 c i=some r) (if i<(s.Rows.length:Int)then(0<=i/\(∃e1,s.Rows[i.toNat]?=some e1/\(0<=x1/\(∃e2,e1[x1.toNat]?=some e2/\(if e2=c then(e1.length<=68719476736/\(Zix s x ([e1]) x1 c (w (i+1))=some r))else(Znc s x x1 c (w (i+1))=some r))))))else(Znb s x x1 (w (c+1))=some r)))/\
 (∀⦃s x x1 x2 c i r⦄,Im (Zix s x x1 x2 c i=some r) (if i<(s.Rows.length:Int)then(0<=i/\(∃e1,s.Rows[i.toNat]?=some e1/\(0<=x2/\(∃e2,e1[x2.toNat]?=some e2/\(if e2=c then(e1.length<=68719476736/\(x1.length+1<=68719476736/\(Zix s x (x1++[e1]) x2 c (w (i+1))=some r)))else(Zix s x x1 x2 c (w (i+1))=some r))))))else(Zvh s x x1 x2 (w (c+1))=some r)))/\
 (∀⦃s x x1 x2 c r⦄,Im (Zvh s x x1 x2 c=some r) (if c<=9 then(Zix s x x1 x2 c 0=some r)else(some (.tup [.agg [.own 0,.own 1],Bo true],[.arr 3 1 true (x.map ic),.arr 30 1 true (x1.map isc)])=some r)))/\
 (∀⦃a a1 r⦄,Im (Zky a a1=some r) (∃v1,Zd4 a.Vars a1=some (I v1,[])/\(∃v2,Zej a=some (Bo v2,[])/\(if v2=true then(if v1<0 then(some (.tup [.agg [.t .nil,.t .nil],Bo false],[])=some r)else(a.Vars.length<=68719476736/\(Znb a a.Vars v1 0=some r)))else(some (.tup [.agg [.t .nil,.t .nil],Bo false],[])=some r)))))/\
 (∀⦃cc a b v r⦄,Im (Zkz cc a b v=some r) (if v<4 then(∃v1,Zfq a v=some (Bo v1,[])/\(if v1=true then(cc.length+1<=68719476736/\(Zkz (cc++[v]) a b (w (v+1))=some r))else(∃v2,Zfq b v=some (Bo v2,[])/\(if v2=true then(cc.length+1<=68719476736/\(Zkz (cc++[v]) a b (w (v+1))=some r))else(Zkz cc a b (w (v+1))=some r)))))else(some (.own 0,[.arr 3 1 true (cc.map ic)])=some r)))/\
 (∀⦃a a1 r⦄,Im (Ziy a a1=some r) (Zkz ([]:List Int) a a1 0=some r))/\
 (∀⦃a x b y i r⦄,Im (Znd a x b y i=some r) (if i<(a.length:Int)then(0<=i/\(∃e1,a[i.toNat]?=some e1/\(∃v2,Zd4 b e1=some (I v2,[])/\(if 0<=v2 then(∃e3,x[i.toNat]?=some e3/\(∃e4,y[v2.toNat]?=some e4/\(if e3=e4 then(Znd a x b y (w (i+1))=some r)else(some (Bo false,[])=some r))))else(Znd a x b y (w (i+1))=some r)))))else(some (Bo true,[])=some r)))/\
 (∀⦃a a1 a2 a3 r⦄,Im (Zbu a a1 a2 a3=some r) (Znd a a1 a2 a3 0=some r))/\
 (∀⦃cl cd a x b y i r⦄,Im (Zne cl cd a x b y i=some r) (if i<(cd.length:Int)then(0<=i/\(∃e1,cd[i.toNat]?=some e1/\(∃v2,Zd4 a e1=some (I v2,[])/\(if 0<=v2 then(∃e3,x[v2.toNat]?=some e3/\(cl.length+1<=68719476736/\(Zne (cl++[e3]) cd a x b y (w (i+1))=some r)))else(∃v3,Zd4 b e1=some (I v3,[])/\(0<=v3/\(∃e5,y[v3.toNat]?=some e5/\(cl.length+1<=68719476736/\(Zne (cl++[e5]) cd a x b y (w (i+1))=some r)))))))))else(some (.own 0,[.arr 3 1 true (cl.map ic)])=some r)))/\
 (∀⦃a a1 a2 a3 a4 r⦄,Im (Zbv a a1 a2 a3 a4=some r) (Zne ([]:List Int) a a1 a2 a3 a4 0=some r)):=by
 and_intros
 all_goals intros
 all_goals unfold Im
 all_goals try simp only[Znc,Zix,Zvh,Zky,Zkz,Ziy,Znd,Zbu,Zne,Zbv,Zd4,Zej,Zb.c_def,Zfq,Znb,mpl,dfs]
 all_goals try simp only[itb]
 all_goals try simp only[itf,gS,kk]
 all_goals repeat' first|refine exI λ_=>?_|refine anJ λ_ _=>?_|refine anI λ_=>?_|refine orE2 ?_ ?_|exact False.elim
 all_goals (intro h;first|rw[Zd Zvf.eq_1]|rw[Zd Zkw.eq_1]|refine run Zbtx rfl ?_|rw[Zd Z2l.eq_1]|refine run Zbty rfl ?_|rw[Zd Z2n.eq_1]|refine run Zbtz rfl ?_|rw[Zd Z2p.eq_1]|refine run Zbt0 rfl ?_)
 all_goals (refine Ya ?_ h;clear h;simp +decide[*,kk,tI,tII,Zbcm,Zvg,Zkx,Zbcn,Zbco,Z2m,Zbcp,Z2o,Zbcq,Zbcr,Z2q,Zbcs])
abbrev Zbgr:=Zgp.1
abbrev Zv8:=Zgp.2.1
abbrev Zbgs:=Zgp.2.2.1
abbrev Zbxw:=Zgp.2.2.2.1
abbrev Zbgt:=Zgp.2.2.2.2.1
abbrev Zbxx:=Zgp.2.2.2.2.2.1
abbrev Zbgu:=Zgp.2.2.2.2.2.2.1
abbrev Zbxy:=Zgp.2.2.2.2.2.2.2.1
abbrev Zbgv:=Zgp.2.2.2.2.2.2.2.2.1
abbrev Zbxz:=Zgp.2.2.2.2.2.2.2.2.2
theorem Zfy:(∀⦃a b x cd only x1 cc c i r⦄,Im (Znf a b x cd only x1 cc c i=some r) (if i<cc then(Zft a b x cd only x1 cc c i 0=some r)else(some (.agg [.own 0,.t .nil],[.arr 3 1 true (x.map ic)])=some r)))/\
 (∀⦃a b x cd only x1 cc c i k r⦄,Im (Zft a b x cd only x1 cc c i k=some r) (if k<c then(0<=(if(w ((a.Rows.length:Int)-1))<i then(w ((a.Rows.length:Int)-1))else i)/\(∃e1,a.Rows[(if(w ((a.Rows.length:Int)-1))<i then(w ((a.Rows.length:Int)-1))else i).toNat]?=some e1/\(0<=(if(w ((b.Rows.length:Int)-1))<k then(w ((b.Rows.length:Int)-1))else k)/\(∃e2,b.Rows[(if(w ((b.Rows.length:Int)-1))<k then(w ((b.Rows.length:Int)-1))else k).toNat]?=some e2/\(if cd=true then(0<=k/\(∃e3,a.Rows[k.toNat]?=some e3/\(0<=i/\(∃e4,b.Rows[i.toNat]?=some e4/\(if only<0 then(∃v4,Zbu a.Vars e3 b.Vars e4=some (Bo v4,[])/\(if v4=true then(∃(v5:List Int),Zbv x a.Vars e3 b.Vars e4=some (.own 0,[.arr 3 1 true (v5.map ic)])/\(Zci a b x ([v5]) true only x1 cc c i (w (k+1))=some r))else(Zft a b x true only x1 cc c i (w (k+1))=some r)))else(0<=x1/\(∃e7,e3[x1.toNat]?=some e7/\(if e7=only then(∃v9,Zbu a.Vars e3 b.Vars e4=some (Bo v9,[])/\(if v9=true then(∃(v11:List Int),Zbv x a.Vars e3 b.Vars e4=some (.own 0,[.arr 3 1 true (v11.map ic)])/\(Zci a b x ([v11]) true only x1 cc c i (w (k+1))=some r))else(Zft a b x true only x1 cc c i (w (k+1))=some r)))else(Zft a b x true only x1 cc c i (w (k+1))=some r)))))))))else(if only<0 then(∃v12,Zbu a.Vars e1 b.Vars e2=some (Bo v12,[])/\(if v12=true then(∃(v13:List Int),Zbv x a.Vars e1 b.Vars e2=some (.own 0,[.arr 3 1 true (v13.map ic)])/\(Zci a b x ([v13]) false only x1 cc c i (w (k+1))=some r))else(Zft a b x false only x1 cc c i (w (k+1))=some r)))else(0<=x1/\(∃e12,e1[x1.toNat]?=some e12/\(if e12=only then(∃v14,Zbu a.Vars e1 b.Vars e2=some (Bo v14,[])/\(if v14=true then(∃(v15:List Int),Zbv x a.Vars e1 b.Vars e2=some (.own 0,[.arr 3 1 true (v15.map ic)])/\(Zci a b x ([v15]) false only x1 cc c i (w (k+1))=some r))else(Zft a b x false only x1 cc c i (w (k+1))=some r)))else(Zft a b x false only x1 cc c i (w (k+1))=some r))))))))))else(Znf a b x cd only x1 cc c (w (i+1))=some r)))/\
 (∀⦃a b x x1 cd only x2 cc c i k r⦄,Im (Zci a b x x1 cd only x2 cc c i k=some r) (if k<c then(if(x1.length:Int)<=4096 then(0<=(if(w ((a.Rows.length:Int)-1))<i then(w ((a.Rows.length:Int)-1))else i)/\(∃e1,a.Rows[(if(w ((a.Rows.length:Int)-1))<i then(w ((a.Rows.length:Int)-1))else i).toNat]?=some e1/\(0<=(if(w ((b.Rows.length:Int)-1))<k then(w ((b.Rows.length:Int)-1))else k)/\(∃e2,b.Rows[(if(w ((b.Rows.length:Int)-1))<k then(w ((b.Rows.length:Int)-1))else k).toNat]?=some e2/\(if cd=true then(0<=k/\(∃e3,a.Rows[k.toNat]?=some e3/\(0<=i/\(∃e4,b.Rows[i.toNat]?=some e4/\(if only<0 then(∃v4,Zbu a.Vars e3 b.Vars e4=some (Bo v4,[])/\(if v4=true then(∃(v5:List Int),Zbv x a.Vars e3 b.Vars e4=some (.own 0,[.arr 3 1 true (v5.map ic)])/\(x1.length+1<=68719476736/\(Zci a b x (x1++[v5]) true only x2 cc c i (w (k+1))=some r)))else(Zci a b x x1 true only x2 cc c i (w (k+1))=some r)))else(0<=x2/\(∃e7,e3[x2.toNat]?=some e7/\(if e7=only then(∃v9,Zbu a.Vars e3 b.Vars e4=some (Bo v9,[])/\(if v9=true then(∃(v11:List Int),Zbv x a.Vars e3 b.Vars e4=some (.own 0,[.arr 3 1 true (v11.map ic)])/\(x1.length+1<=68719476736/\(Zci a b x (x1++[v11]) true only x2 cc c i (w (k+1))=some r)))else(Zci a b x x1 true only x2 cc c i (w (k+1))=some r)))else(Zci a b x x1 true only x2 cc c i (w (k+1))=some r)))))))))else(if only<0 then(∃v12,Zbu a.Vars e1 b.Vars e2=some (Bo v12,[])/\(if v12=true then(∃(v13:List Int),Zbv x a.Vars e1 b.Vars e2=some (.own 0,[.arr 3 1 true (v13.map ic)])/\(x1.length+1<=68719476736/\(Zci a b x (x1++[v13]) false only x2 cc c i (w (k+1))=some r)))else(Zci a b x x1 false only x2 cc c i (w (k+1))=some r)))else(0<=x2/\(∃e12,e1[x2.toNat]?=some e12/\(if e12=only then(∃v14,Zbu a.Vars e1 b.Vars e2=some (Bo v14,[])/\(if v14=true then(∃(v15:List Int),Zbv x a.Vars e1 b.Vars e2=some (.own 0,[.arr 3 1 true (v15.map ic)])/\(x1.length+1<=68719476736/\(Zci a b x (x1++[v15]) false only x2 cc c i (w (k+1))=some r)))else(Zci a b x x1 false only x2 cc c i (w (k+1))=some r)))else(Zci a b x x1 false only x2 cc c i (w (k+1))=some r))))))))))else(Zng a b x x1 cd only x2 cc c (w (i+1))=some r))else(Zng a b x x1 cd only x2 cc c (w (i+1))=some r)))/\
 (∀⦃a b x x1 cd only x2 cc c i r⦄,Im (Zng a b x x1 cd only x2 cc c i=some r) (if i<cc then(Zci a b x x1 cd only x2 cc c i 0=some r)else(some (.agg [.own 0,.own 1],[.arr 3 1 true (x.map ic),.arr 30 1 true (x1.map isc)])=some r)))/\
 (∀⦃x a a1 a2 a3 a4 r⦄,Im (Zew x a a1 a2 a3 a4=some r) (∃v,Zd4 a.Vars a3=some (I v,[])/\(if a2=true then(Znf a a1 x true a4 v (a1.Rows.length:Int) (a.Rows.length:Int) 0=some r)else(Znf a a1 x false a4 v (a.Rows.length:Int) (a1.Rows.length:Int) 0=some r))))/\
 (∀⦃x r⦄,Im (Znh x=some r) (some (.tup [.agg [.own 0,.t .nil],Bo true],[.arr 3 1 true (x.map ic)])=some r))/\
 (∀⦃x x1 r⦄,Im (Zgg x x1=some r) (if 4096<(x1.length:Int)then(some (.tup [.agg [.t .nil,.t .nil],Bo false],[.arr 3 1 true (x.map ic),.arr 30 1 true (x1.map isc)])=some r)else(some (.tup [.agg [.own 0,.own 1],Bo true],[.arr 3 1 true (x.map ic),.arr 30 1 true (x1.map isc)])=some r)))/\
 (∀⦃a a1 r⦄,Im (Zk2 a a1=some r) (∃v,Zej a=some (Bo v,[])/\(if v=true then(∃v1,Zej a1=some (Bo v1,[])/\(if v1=true then(∃(v2:List Int),Ziy a.Vars a1.Vars=some (.own 0,[.arr 3 1 true (v2.map ic)])/\((∃(v3:List Int),Zew v2 a a1 true 0 (-1)=some (.agg [.own 0,.t .nil],[.arr 3 1 true (v3.map ic)])/\(∃(v4:List Int),Znh v3=some (.tup [.agg [.own 0,.t .nil],Bo true],[.arr 3 1 true (v4.map ic)])/\(some (.tup [.agg [.own 0,.t .nil],Bo true],[.arr 3 1 true (v4.map ic)])=some r)))\/(∃(v5:List Int) (v6:List (List Int)),Zew v2 a a1 true 0 (-1)=some (.agg [.own 0,.own 1],[.arr 3 1 true (v5.map ic),.arr 30 1 true (v6.map isc)])/\((∃(v7:List Int) (v8:List (List Int)),Zgg v5 v6=some (.tup [.agg [.t .nil,.t .nil],Bo false],[.arr 3 1 true (v7.map ic),.arr 30 1 true (v8.map isc)])/\(some (.tup [.agg [.t .nil,.t .nil],Bo false],[])=some r))\/(∃(v9:List Int) (v10:List (List Int)),Zgg v5 v6=some (.tup [.agg [.own 0,.own 1],Bo true],[.arr 3 1 true (v9.map ic),.arr 30 1 true (v10.map isc)])/\(some (.tup [.agg [.own 0,.own 1],Bo true],[.arr 3 1 true (v9.map ic),.arr 30 1 true (v10.map isc)])=some r))))))else(some (.tup [.agg [.t .nil,.t .nil],Bo false],[])=some r)))else(some (.tup [.agg [.t .nil,.t .nil],Bo false],[])=some r))))/\
 (∀⦃a a1 r⦄,Im (Zk3 a a1=some r) (∃v,Zej a=some (Bo v,[])/\(if v=true then(∃v1,Zej a1=some (Bo v1,[])/\(if v1=true then(∃(v2:List Int),Ziy a.Vars a1.Vars=some (.own 0,[.arr 3 1 true (v2.map ic)])/\((∃(v3:List Int),Zew v2 a a1 false 0 (-1)=some (.agg [.own 0,.t .nil],[.arr 3 1 true (v3.map ic)])/\(∃(v4:List Int),Znh v3=some (.tup [.agg [.own 0,.t .nil],Bo true],[.arr 3 1 true (v4.map ic)])/\(some (.tup [.agg [.own 0,.t .nil],Bo true],[.arr 3 1 true (v4.map ic)])=some r)))\/(∃(v5:List Int) (v6:List (List Int)),Zew v2 a a1 false 0 (-1)=some (.agg [.own 0,.own 1],[.arr 3 1 true (v5.map ic),.arr 30 1 true (v6.map isc)])/\((∃(v7:List Int) (v8:List (List Int)),Zgg v5 v6=some (.tup [.agg [.t .nil,.t .nil],Bo false],[.arr 3 1 true (v7.map ic),.arr 30 1 true (v8.map isc)])/\(some (.tup [.agg [.t .nil,.t .nil],Bo false],[])=some r))\/(∃(v9:List Int) (v10:List (List Int)),Zgg v5 v6=some (.tup [.agg [.own 0,.own 1],Bo true],[.arr 3 1 true (v9.map ic),.arr 30 1 true (v10.map isc)])/\(some (.tup [.agg [.own 0,.own 1],Bo true],[.arr 3 1 true (v9.map ic),.arr 30 1 true (v10.map isc)])=some r))))))else(some (.tup [.agg [.t .nil,.t .nil],Bo false],[])=some r)))else(some (.tup [.agg [.t .nil,.t .nil],Bo false],[])=some r))))/\
 (∀⦃s x i r⦄,Im (Zq7 s x i=some r) (if i<(s.Rows.length:Int)then(0<=(w (i-1))/\(∃e1,s.Rows[(w (i-1)).toNat]?=some e1/\(0<=x/\(∃e2,e1[x.toNat]?=some e2/\(0<=i/\(∃e3,s.Rows[i.toNat]?=some e3/\(∃e4,e3[x.toNat]?=some e4/\(if e4<e2 then(some (Bo false,[])=some r)else(Zq7 s x (w (i+1))=some r)))))))))else(some (Bo true,[])=some r)))/\
 (∀⦃a a1 r⦄,Im (Zni a a1=some r) (∃v,Zd4 a.Vars a1=some (I v,[])/\(∃v1,Zej a=some (Bo v1,[])/\(if v1=true then(if v<0 then(some (Bo false,[])=some r)else(Zq7 a v 1=some r))else(some (Bo false,[])=some r))))):=by
 and_intros
 all_goals intros
 all_goals unfold Im
 all_goals try simp only[Znf,Zft,Zci,Zng,Zew,Znh,Zgg,Zk2,Zk3,Zq7,Zni,Zbu,Zbv,Zd4,Zej,Ziy,Zb.c_def,mpl,dfs]
 all_goals try simp only[itb]
 all_goals try simp only[itf,gS,kk]
 all_goals repeat' first|refine exI λ_=>?_|refine anJ λ_ _=>?_|refine anI λ_=>?_|refine orE2 ?_ ?_|exact False.elim
 all_goals (intro h;first|rw[Zd Zfr.eq_1]|rw[Zd Zk0.eq_1]|refine runM Zbeh rfl ?_|refine runM Zbt1 rfl ?_|refine run Zbt2 rfl ?_|refine run Zbt3 rfl ?_|rw[Zd Z2u.eq_1]|refine run Zbt4 rfl ?_)
 all_goals (refine Ya ?_ h;clear h;simp +decide[*,kk,tI,tII,Zfs,Z2r,Zk1,Z2t,Z2s,Zbct,Zbcu,Zbcv,Z2v,Zbcw])
abbrev Zbgw:=Zfy.1
abbrev Zbgx:=Zfy.2.1
abbrev Zbgy:=Zfy.2.2.1
abbrev Zbgz:=Zfy.2.2.2.1
abbrev Z4t:=Zfy.2.2.2.2.1
abbrev Z4u:=Zfy.2.2.2.2.2.1
abbrev Zbx0:=Zfy.2.2.2.2.2.2.1
abbrev Zbx1:=Zfy.2.2.2.2.2.2.2.1
abbrev Zbx2:=Zfy.2.2.2.2.2.2.2.2.1
abbrev Z4v:=Zfy.2.2.2.2.2.2.2.2.2.1
abbrev Zbx3:=Zfy.2.2.2.2.2.2.2.2.2.2
end Go.Proofs.YtgnfoghkbpkgjaaGreat
