/-
  Parts of the proofs for this seat: T1 T2 T3 G1 G2 G3 G4 G5 G6 G7 G8 G9 G10 G11 G12 G13 G14 G15 V1.
-/
import Derived.Test.YtbapkgocloaaeaaGreatP8
import Derived.Test.YtbapkgocloaaeaaGreatP9
set_option linter.unusedSimpArgs false
set_option linter.unusedVariables false
set_option maxRecDepth 100000
set_option maxHeartbeats 4000000
/- part: T1 -/
namespace Go.Proofs.YtbapkgocloaaeaaGreat
open Go.AM
theorem Zti:tbl 104=some Zmm:=tblOf_eq Tryz.func104 (by kernel_rfl) (by kernel_rfl)
theorem Ztj:tbl 219=some Zmn:=tblOf_eq Tryz.func219 (by kernel_rfl) (by kernel_rfl)
theorem Ztk:tbl 279=some Zmo:=tblOf_eq Tryz.func279 (by kernel_rfl) (by kernel_rfl)
theorem Ztl:tbl 220=some Zmp:=tblOf_eq Tryz.func220 (by kernel_rfl) (by kernel_rfl)
theorem Ztm:tbl 280=some Zmq:=tblOf_eq Tryz.func280 (by kernel_rfl) (by kernel_rfl)
theorem Ztn:tbl 221=some Zmr:=tblOf_eq Tryz.func221 (by kernel_rfl) (by kernel_rfl)
theorem Zto:tbl 131=some Zhk:=tblOf_eq Tryz.func131 (by kernel_rfl) (by kernel_rfl)
theorem Ztp:tbl 277=some Zms:=tblOf_eq Tryz.func277 (by kernel_rfl) (by kernel_rfl)
theorem Ztq:tbl 232=some Zmt:=tblOf_eq Tryz.func232 (by kernel_rfl) (by kernel_rfl)
theorem Ztr:tbl 222=some Zmu:=tblOf_eq Tryz.func222 (by kernel_rfl) (by kernel_rfl)
theorem Zts:tbl 134=some Zmv:=tblOf_eq Tryz.func134 (by kernel_rfl) (by kernel_rfl)
theorem Ztt:tbl 257=some Zmw:=tblOf_eq Tryz.func257 (by kernel_rfl) (by kernel_rfl)
theorem Ztu:tbl 258=some Zmy:=tblOf_eq Tryz.func258 (by kernel_rfl) (by kernel_rfl)
theorem Ztv:tbl 189=some Zmz:=tblOf_eq Tryz.func189 (by kernel_rfl) (by kernel_rfl)
theorem Ztw:tbl 99=some Zm1:=tblOf_eq Tryz.func99 (by kernel_rfl) (by kernel_rfl)
theorem Ztx:tbl 133=some Zm2:=tblOf_eq Tryz.func133 (by kernel_rfl) (by kernel_rfl)
theorem Zty:tbl 193=some Zm3:=tblOf_eq Tryz.func193 (by kernel_rfl) (by kernel_rfl)
theorem Ztz:tbl 289=some Zm4:=tblOf_eq Tryz.func289 (by kernel_rfl) (by kernel_rfl)
theorem Zt0:tbl 259=some Zm5:=tblOf_eq Tryz.func259 (by kernel_rfl) (by kernel_rfl)
theorem Zt1:tbl 261=some Zm6:=tblOf_eq Tryz.func261 (by kernel_rfl) (by kernel_rfl)
theorem Zt2:tbl 142=some Zm7:=tblOf_eq Tryz.func142 (by kernel_rfl) (by kernel_rfl)
theorem Zt3:tbl 264=some Zm8:=tblOf_eq Tryz.func264 (by kernel_rfl) (by kernel_rfl)
theorem Zt4:tbl 263=some Zna:=tblOf_eq Tryz.func263 (by kernel_rfl) (by kernel_rfl)
theorem Zt5:tbl 262=some Znb:=tblOf_eq Tryz.func262 (by kernel_rfl) (by kernel_rfl)
theorem Zt6:tbl 260=some Znd:=tblOf_eq Tryz.func260 (by kernel_rfl) (by kernel_rfl)
theorem Zt7:tbl 190=some Zne:=tblOf_eq Tryz.func190 (by kernel_rfl) (by kernel_rfl)
theorem Zt8:tbl 100=some Znf:=tblOf_eq Tryz.func100 (by kernel_rfl) (by kernel_rfl)
theorem Zt9:tbl 192=some Zng:=tblOf_eq Tryz.func192 (by kernel_rfl) (by kernel_rfl)
end Go.Proofs.YtbapkgocloaaeaaGreat
/- part: T2 -/
namespace Go.Proofs.YtbapkgocloaaeaaGreat
open Go.AM
theorem Zua:tbl 92=some Znh:=tblOf_eq Tryz.func92 (by kernel_rfl) (by kernel_rfl)
theorem Zub:tbl 137=some Zni:=tblOf_eq Tryz.func137 (by kernel_rfl) (by kernel_rfl)
theorem Zuc:tbl 255=some Znj:=tblOf_eq Tryz.func255 (by kernel_rfl) (by kernel_rfl)
theorem Zud:tbl 183=some Znk:=tblOf_eq Tryz.func183 (by kernel_rfl) (by kernel_rfl)
theorem Zue:tbl 184=some Znl:=tblOf_eq Tryz.func184 (by kernel_rfl) (by kernel_rfl)
theorem Zuf:tbl 91=some Znn:=tblOf_eq Tryz.func91 (by kernel_rfl) (by kernel_rfl)
theorem Zug:tbl 288=some Zno:=tblOf_eq Tryz.func288 (by kernel_rfl) (by kernel_rfl)
theorem Zuh:tbl 253=some Znp:=tblOf_eq Tryz.func253 (by kernel_rfl) (by kernel_rfl)
theorem Zui:tbl 254=some Znq:=tblOf_eq Tryz.func254 (by kernel_rfl) (by kernel_rfl)
theorem Zuj:tbl 182=some Znr:=tblOf_eq Tryz.func182 (by kernel_rfl) (by kernel_rfl)
theorem Zuk:tbl 88=some Zns:=tblOf_eq Tryz.func88 (by kernel_rfl) (by kernel_rfl)
theorem Zul:tbl 249=some Znt:=tblOf_eq Tryz.func249 (by kernel_rfl) (by kernel_rfl)
theorem Zum:tbl 250=some Znu:=tblOf_eq Tryz.func250 (by kernel_rfl) (by kernel_rfl)
theorem Zun:tbl 180=some Znv:=tblOf_eq Tryz.func180 (by kernel_rfl) (by kernel_rfl)
theorem Zuo:tbl 117=some Znw:=tblOf_eq Tryz.func117 (by kernel_rfl) (by kernel_rfl)
theorem Zup:tbl 252=some Znx:=tblOf_eq Tryz.func252 (by kernel_rfl) (by kernel_rfl)
theorem Zuq:tbl 212=some Zny:=tblOf_eq Tryz.func212 (by kernel_rfl) (by kernel_rfl)
theorem Zur:tbl 51=some Znz:=tblOf_eq Tryz.func51 (by kernel_rfl) (by kernel_rfl)
theorem Zus:tbl 135=some Zn0:=tblOf_eq Tryz.func135 (by kernel_rfl) (by kernel_rfl)
theorem Zut:tbl 251=some Zn1:=tblOf_eq Tryz.func251 (by kernel_rfl) (by kernel_rfl)
theorem Zuu:tbl 181=some Zn2:=tblOf_eq Tryz.func181 (by kernel_rfl) (by kernel_rfl)
theorem Zuv:tbl 87=some Zn3:=tblOf_eq Tryz.func87 (by kernel_rfl) (by kernel_rfl)
theorem Zuw:tbl 136=some Zn4:=tblOf_eq Tryz.func136 (by kernel_rfl) (by kernel_rfl)
end Go.Proofs.YtbapkgocloaaeaaGreat
/- part: T3 -/
namespace Go.Proofs.YtbapkgocloaaeaaGreat
open Go.AM
theorem Zux:tbl 274=some Zn5:=tblOf_eq Tryz.func274 (by kernel_rfl) (by kernel_rfl)
theorem Zuy:tbl 213=some Zn6:=tblOf_eq Tryz.func213 (by kernel_rfl) (by kernel_rfl)
theorem Zuz:tbl 45=some Zn7:=tblOf_eq Tryz.func45 (by kernel_rfl) (by kernel_rfl)
theorem Zu0:tbl 101=some Zn9:=tblOf_eq Tryz.func101 (by kernel_rfl) (by kernel_rfl)
theorem Zu1:tbl 103=some Zoa:=tblOf_eq Tryz.func103 (by kernel_rfl) (by kernel_rfl)
theorem Zu2:tbl 102=some Zob:=tblOf_eq Tryz.func102 (by kernel_rfl) (by kernel_rfl)
theorem Zu3:tbl 265=some Zoc:=tblOf_eq Tryz.func265 (by kernel_rfl) (by kernel_rfl)
theorem Zu4:tbl 194=some Zod:=tblOf_eq Tryz.func194 (by kernel_rfl) (by kernel_rfl)
theorem Zu5:tbl 191=some Zoe:=tblOf_eq Tryz.func191 (by kernel_rfl) (by kernel_rfl)
theorem Zu6:tbl 105=some Zcv:=tblOf_eq Tryz.func105 (by kernel_rfl) (by kernel_rfl)
theorem Zu7:tbl 196=some Zof:=tblOf_eq Tryz.func196 (by kernel_rfl) (by kernel_rfl)
theorem Zu8:tbl 108=some Zog:=tblOf_eq Tryz.func108 (by kernel_rfl) (by kernel_rfl)
theorem Zu9:tbl 107=some Zoh:=tblOf_eq Tryz.func107 (by kernel_rfl) (by kernel_rfl)
theorem Zva:tbl 195=some Zoi:=tblOf_eq Tryz.func195 (by kernel_rfl) (by kernel_rfl)
theorem Zvb:tbl 106=some Zoj:=tblOf_eq Tryz.func106 (by kernel_rfl) (by kernel_rfl)
theorem Zvc:tbl 22=some Zom:=tblOf_eq Tryz.func22 (by kernel_rfl) (by kernel_rfl)
theorem Zvd:tbl 89=some Zon:=tblOf_eq Tryz.func89 (by kernel_rfl) (by kernel_rfl)
theorem Zve:tbl 185=some Zoo:=tblOf_eq Tryz.func185 (by kernel_rfl) (by kernel_rfl)
theorem Zvf:tbl 93=some Zop:=tblOf_eq Tryz.func93 (by kernel_rfl) (by kernel_rfl)
theorem Zvg:tbl 90=some Zoq:=tblOf_eq Tryz.func90 (by kernel_rfl) (by kernel_rfl)
theorem Zvh:tbl 94=some Zor:=tblOf_eq Tryz.func94 (by kernel_rfl) (by kernel_rfl)
theorem Zvi:tbl 17=some Zot:=tblOf_eq Tryz.func17 (by kernel_rfl) (by kernel_rfl)
end Go.Proofs.YtbapkgocloaaeaaGreat
/- part: G1 -/
namespace Go.Proofs.YtbapkgocloaaeaaGreat
open Go.AM
theorem Zvj (a:Int) (a1:Int) (a2:Int) (r:AV×List Blk) (h:(if a1≤a then (some (Bo (decide (a≤a2)),[])=some r) else (some (Bo false,[])=some r))):Zm a a1 a2=some r:=by
 unfold Zm
 refine run Zti rfl ?_
 try simp only [itb] at h
 try simp only [itf,List.getElem?_eq_some_iff,kk] at h
 rcases h with ⟨q1,h⟩ | ⟨q1,h⟩
 all_goals (refine Eq.trans ?_ h;clear h;simp +decide [*,kk,Zmm])
theorem Zvk (a:ByteArray) (r:AV×List Blk) (h:(if (a.size:Int)=1 then (∃ (b1:UInt8),a[0]?=some b1∧(if 97≤(b1.toNat:Int) then (some (Bo (decide ((b1.toNat:Int)≤122)),[])=some r) else (some (Bo false,[])=some r))) else (some (Bo false,[])=some r))):Zfp a=some r:=by
 unfold Zfp
 refine run Ztj rfl ?_
 try simp only [itb] at h
 try simp only [itf,List.getElem?_eq_some_iff,kk] at h
 rcases h with ⟨q1,b1,q2,(⟨q3,h⟩ | ⟨q3,h⟩)⟩ | ⟨q1,h⟩
 all_goals (refine Eq.trans ?_ h;clear h;simp +decide [*,kk,Zmn])
theorem Zou (s:List Int) (v:Int) (x:Int) (x1:Int) (r:AV×List Blk) (h:(if x1<x then (0≤x1∧(∃ (e1:Int),s[x1.toNat]?=some e1∧(if v=e1 then (some (I x1,[])=some r) else (Zdz s v x (w (x1+1))=some r)))) else (some (I (-1),[])=some r))):Zdz s v x x1=some r:=by
 unfold Zdz
 rw [EvL_eq Zi3.eq_1]
 try simp only [itb] at h
 try simp only [itf,List.getElem?_eq_some_iff,kk] at h
 rcases h with ⟨q1,q2,e1,⟨g3,q3⟩,(⟨q4,h⟩ | ⟨q4,h⟩)⟩ | ⟨q1,h⟩
 all_goals (refine Eq.trans ?_ h;clear h;simp +decide [*,kk,Zdz,Zi4])
theorem Zvl (a:List Int) (a1:Int) (r:AV×List Blk) (h:(Zdz a a1 (a.length:Int) 0=some r)):Zfq a a1=some r:=by
 unfold Zfq
 refine run Ztk rfl ?_
 refine Eq.trans ?_ h;clear h;simp +decide [*,kk,Zmo,Zdz]
theorem Zvm (a:List Int) (a1:Int) (r:AV×List Blk) (h:(∃ (v1_0:Int),Zfq a a1=some (I v1_0,[])∧(some (Bo (decide (0≤v1_0)),[])=some r))):Zbp a a1=some r:=by
 unfold Zbp
 refine run Ztl rfl ?_
 simp only [Zfq,mpl,dfs] at h
 rcases h with ⟨v1_0,q1,h⟩
 all_goals (refine Eq.trans ?_ h;clear h;simp +decide [*,kk,Zmp])
theorem Zov (s:List Bool) (v:Bool) (x:Int) (x1:Int) (r:AV×List Blk) (h:(if x1<x then (0≤x1∧(∃ (e1:Bool),s[x1.toNat]?=some e1∧(if v=e1 then (some (I x1,[])=some r) else (Zd0 s v x (w (x1+1))=some r)))) else (some (I (-1),[])=some r))):Zd0 s v x x1=some r:=by
 unfold Zd0
 rw [EvL_eq Zi5.eq_1]
 try simp only [itb] at h
 try simp only [itf,List.getElem?_eq_some_iff,kk] at h
 rcases h with ⟨q1,q2,e1,⟨g3,q3⟩,(⟨q4,h⟩ | ⟨q4,h⟩)⟩ | ⟨q1,h⟩
 all_goals (refine Eq.trans ?_ h;clear h;simp +decide [*,kk,Zd0,Zi6])
theorem Zvn (a:List Bool) (a1:Bool) (r:AV×List Blk) (h:(Zd0 a a1 (a.length:Int) 0=some r)):Zfr a a1=some r:=by
 unfold Zfr
 refine run Ztm rfl ?_
 refine Eq.trans ?_ h;clear h;simp +decide [*,kk,Zmq,Zd0]
theorem Zvo (a:List Bool) (a1:Bool) (r:AV×List Blk) (h:(∃ (v1_0:Int),Zfr a a1=some (I v1_0,[])∧(some (Bo (decide (0≤v1_0)),[])=some r))):Zfs a a1=some r:=by
 unfold Zfs
 refine run Ztn rfl ?_
 simp only [Zfr,mpl,dfs] at h
 rcases h with ⟨v1_0,q1,h⟩
 all_goals (refine Eq.trans ?_ h;clear h;simp +decide [*,kk,Zmr])
theorem Zow (q:Zd) (seen:List Bool) (x:List Atom) (x1:Int) (x2:Int) (r:AV×List Blk) (h:(if x2<x1 then (0≤x2∧(∃ (e1:Atom),x[x2.toNat]?=some e1∧(∃ (v2_0:Bool),Zfp e1.Name=some (Bo v2_0,[])∧(if v2_0=true then (∃ (v3_0:Bool),Zm (e1.Vars.length:Int) 1 3=some (Bo v3_0,[])∧(if v3_0=true then (Zd2 q seen e1 x x1 x2 e1.Vars (e1.Vars.length:Int) 0=some r) else (some (Bo false,[])=some r))) else (some (Bo false,[])=some r))))) else (∃ (v4_0:Bool),Zfs seen false=some (Bo v4_0,[])∧(some (Bo (!v4_0),[])=some r)))):Zc2 q seen x x1 x2=some r:=by
 unfold Zc2
 rw [EvL_eq Zhi.eq_1]
 simp only [Zfp,Zm,Zfs,mpl,dfs] at h
 try simp only [itb] at h
 try simp only [itf,List.getElem?_eq_some_iff,kk] at h
 rcases h with ⟨q1,q2,e1,⟨g3,q3⟩,v2_0,q4,(⟨q5,v3_0,q6,(⟨q7,h⟩ | ⟨q7,h⟩)⟩ | ⟨q5,h⟩)⟩ | ⟨q1,v4_0,q8,h⟩
 all_goals (refine Eq.trans ?_ h;clear h;simp +decide [*,kk,Zd2,Zhj])
theorem Zox (q:Zd) (seen:List Bool) (a:Atom) (x:List Atom) (x1:Int) (x2:Int) (x3:List Int) (x4:Int) (x5:Int) (r:AV×List Blk) (h:(if x5<x4 then (0≤x5∧(∃ (e1:Int),x3[x5.toNat]?=some e1∧(∃ (v2_0:Bool),Zm e1 0 (w (q.Zg - 1))=some (Bo v2_0,[])∧(if v2_0=true then (x5.toNat≤a.Vars.length∧(∃ (v3_0:Bool),Zbp (a.Vars.take x5.toNat) e1=some (Bo v3_0,[])∧(if v3_0=true then (some (Bo false,[])=some r) else (0≤e1∧(∃ (e4:Bool),seen[e1.toNat]?=some e4∧(Zd2 q (seen.set e1.toNat true) a x x1 x2 x3 x4 (w (x5+1))=some r)))))) else (some (Bo false,[])=some r))))) else (Zc2 q seen x x1 (w (x2+1))=some r))):Zd2 q seen a x x1 x2 x3 x4 x5=some r:=by
 unfold Zd2
 rw [EvL_eq Zi7.eq_1]
 simp only [Zm,Zbp,mpl,dfs] at h
 try simp only [itb] at h
 try simp only [itf,List.getElem?_eq_some_iff,kk] at h
 rcases h with ⟨q1,q2,e1,⟨g3,q3⟩,v2_0,q4,(⟨q5,q6,v3_0,q7,(⟨q8,h⟩ | ⟨q8,q9,e4,⟨g10,q10⟩,h⟩)⟩ | ⟨q5,h⟩)⟩ | ⟨q1,h⟩
 all_goals (refine Eq.trans ?_ h;clear h;simp +decide [*,kk,Zd2,Zc2,Zi8])
theorem Zvp (a:Zd) (r:AV×List Blk) (h:(∃ (v1_0:Bool),Zm a.Zg 1 4=some (Bo v1_0,[])∧(if v1_0=true then (∃ (v2_0:Bool),Zm (a.Atoms.length:Int) 1 4=some (Bo v2_0,[])∧(if v2_0=true then (0≤a.Zg∧(a.Zg.toNat*1≤room∧(a.Zg≤140737488355328∧(Zc2 a (List.replicate (a.Zg).toNat false) a.Atoms (a.Atoms.length:Int) 0=some r)))) else (some (Bo false,[])=some r))) else (some (Bo false,[])=some r)))):Zd1 a=some r:=by
 unfold Zd1
 refine run Zto rfl ?_
 obtain ⟨v1_0,q1,h⟩:=h
 unfold Zm at q1
 try simp at q1
 by_cases q2:v1_0=true
 ·rw [if_pos q2] at h
  obtain ⟨v2_0,q3,h⟩:=h
  unfold Zm at q3
  try simp at q3
  by_cases q4:v2_0=true
  ·rw [if_pos q4] at h
   obtain ⟨q5,h⟩:=h
   obtain ⟨q6,h⟩:=h
   have zq6:=q6;try simp at zq6
   obtain ⟨q7,h⟩:=h
   refine Eq.trans ?_ h
   clear h
   simp +decide [*,Zhk,Zc2]
  ·rw [if_neg q4] at h
   refine Eq.trans ?_ h
   clear h
   simp +decide [*,Zhk]
 ·rw [if_neg q2] at h
  refine Eq.trans ?_ h
  clear h
  simp +decide [*,Zhk]
theorem Zoy (location:List Int) (x:List Int) (x1:Int) (x2:Int) (r:AV×List Blk) (h:(if x2<x1 then (0≤x2∧(∃ (e1:Int),x[x2.toNat]?=some e1∧(∃ (v2_0:Bool),Zm e1 0 7=some (Bo v2_0,[])∧(if v2_0=true then (Zd3 location x x1 (w (x2+1))=some r) else (some (Bo false,[])=some r))))) else (some (Bo (decide ((location.length:Int)≤16)),[])=some r))):Zd3 location x x1 x2=some r:=by
 unfold Zd3
 rw [EvL_eq Zi9.eq_1]
 simp only [Zm,mpl,dfs] at h
 try simp only [itb] at h
 try simp only [itf,List.getElem?_eq_some_iff,kk] at h
 rcases h with ⟨q1,q2,e1,⟨g3,q3⟩,v2_0,q4,(⟨q5,h⟩ | ⟨q5,h⟩)⟩ | ⟨q1,h⟩
 all_goals (refine Eq.trans ?_ h;clear h;simp +decide [*,kk,Zd3,Zja])
theorem Zvq (a:List Int) (r:AV×List Blk) (h:(Zd3 a a (a.length:Int) 0=some r)):Ze4 a=some r:=by
 unfold Ze4
 refine run Ztp rfl ?_
 refine Eq.trans ?_ h;clear h;simp +decide [*,kk,Zms,Zd3]
theorem Zoz (a:List Int) (b:List Int) (x:Int) (x1:Int) (r:AV×List Blk) (h:(if x1<x then (0≤x1∧(∃ (e1:Int),a[x1.toNat]?=some e1∧(∃ (e2:Int),b[x1.toNat]?=some e2∧(if e1<e2 then (some (Bo false,[])=some r) else (Zd4 a b x (w (x1+1))=some r))))) else (some (Bo true,[])=some r))):Zd4 a b x x1=some r:=by
 unfold Zd4
 rw [EvL_eq Zjb.eq_1]
 try simp only [itb] at h
 try simp only [itf,List.getElem?_eq_some_iff,kk] at h
 rcases h with ⟨q1,q2,e1,⟨g3,q3⟩,e2,⟨g4,q4⟩,(⟨q5,h⟩ | ⟨q5,h⟩)⟩ | ⟨q1,h⟩
 all_goals (refine Eq.trans ?_ h;clear h;simp +decide [*,kk,Zd4,Zjc])
theorem Zvr (a:List Int) (a1:List Int) (r:AV×List Blk) (h:(if (a.length:Int)=(a1.length:Int) then (Zd4 a a1 (a.length:Int) 0=some r) else (some (Bo false,[])=some r))):Zft a a1=some r:=by
 unfold Zft
 refine run Ztq rfl ?_
 try simp only [itb] at h
 try simp only [itf,List.getElem?_eq_some_iff,kk] at h
 rcases h with ⟨q1,h⟩ | ⟨q1,h⟩
 all_goals (refine Eq.trans ?_ h;clear h;simp +decide [*,kk,Zmt,Zd4])
theorem Zvs (a:Box) (r:AV×List Blk) (h:(∃ (v1_0:Bool),Ze4 a.Low=some (Bo v1_0,[])∧(if v1_0=true then (∃ (v2_0:Bool),Ze4 a.High=some (Bo v2_0,[])∧(if v2_0=true then (if 0<(a.Low.length:Int) then (∃ (v3_0:Bool),Zft a.High a.Low=some (Bo v3_0,[])∧(some (Bo v3_0,[])=some r)) else (some (Bo false,[])=some r)) else (some (Bo false,[])=some r))) else (some (Bo false,[])=some r)))):Zfu a=some r:=by
 unfold Zfu
 refine run Ztr rfl ?_
 simp only [Ze4,Zft,mpl,dfs] at h
 try simp only [itb] at h
 try simp only [itf,List.getElem?_eq_some_iff,kk] at h
 rcases h with ⟨v1_0,q1,(⟨q2,v2_0,q3,(⟨q4,(⟨q5,v3_0,q6,h⟩ | ⟨q5,h⟩)⟩ | ⟨q4,h⟩)⟩ | ⟨q2,h⟩)⟩
 all_goals (refine Eq.trans ?_ h;clear h;simp +decide [*,kk,Zmu])
theorem Zvt (a:Zd) (r:AV×List Blk) (h:(∃ (v1_0:Bool),Zd1 a=some (Bo v1_0,[])∧(if v1_0=true then (¬ (a.Atoms.length:Int)<0∧(some (I (w ((shlI 1 (a.Atoms.length:Int)) - 1)),[])=some r)) else (some (I 0,[])=some r)))):Zjd a=some r:=by
 unfold Zjd
 refine run Zts rfl ?_
 simp only [Zd1,Zd.c_def,mpl,dfs] at h
 try simp only [itb] at h
 try simp only [itf,List.getElem?_eq_some_iff,kk] at h
 rcases h with ⟨v1_0,q1,(⟨q2,q3,h⟩ | ⟨q2,h⟩)⟩
 all_goals (refine Eq.trans ?_ h;clear h;simp +decide [*,kk,Zmv])
theorem Zo0 (q:Zd) (out:List Int) (mask:Int) (v:Int) (r:AV×List Blk) (h:(if v<q.Zg then (Zc3 q out mask v q.Atoms (q.Atoms.length:Int) 0=some r) else (some (.own 0,[.arr 3 1 true (out.map ic)])=some r))):Zcg q out mask v=some r:=by
 unfold Zcg
 rw [EvL_eq Zhl.eq_1]
 try simp only [itb] at h
 try simp only [itf,List.getElem?_eq_some_iff,kk] at h
 rcases h with ⟨q1,h⟩ | ⟨q1,h⟩
 all_goals (refine Eq.trans ?_ h;clear h;simp +decide [*,kk,Zc3,Zhm])
theorem Zo1 (q:Zd) (out:List Int) (mask:Int) (v:Int) (x:List Atom) (x1:Int) (x2:Int) (r:AV×List Blk) (h:(if x2<x1 then (0≤x2∧(∃ (e1:Atom),x[x2.toNat]?=some e1∧(¬ x2<0∧(if (andI (shrI mask x2) 1)=1 then (∃ (v2_0:Bool),Zbp e1.Vars v=some (Bo v2_0,[])∧(if v2_0=true then (out.length+1≤68719476736∧(Zcg q (out++[v]) mask (w (v+1))=some r)) else (Zc3 q out mask v x x1 (w (x2+1))=some r))) else (Zc3 q out mask v x x1 (w (x2+1))=some r))))) else (Zcg q out mask (w (v+1))=some r))):Zc3 q out mask v x x1 x2=some r:=by
 unfold Zc3
 rw [EvL_eq Zje.eq_1]
 simp only [Zbp,mpl,dfs] at h
 try simp only [itb] at h
 try simp only [itf,List.getElem?_eq_some_iff,kk] at h
 rcases h with ⟨q1,q2,e1,⟨g3,q3⟩,q4,(⟨q5,v2_0,q6,(⟨q7,q8,h⟩ | ⟨q7,h⟩)⟩ | ⟨q5,h⟩)⟩ | ⟨q1,h⟩
 all_goals (refine Eq.trans ?_ h;clear h;simp +decide [*,kk,Zcg,Zjf,Zc3])
theorem Zvu (a:Zd) (a1:Int) (r:AV×List Blk) (h:(Zcg a ([]:List Int) a1 0=some r)):Zd5 a a1=some r:=by
 unfold Zd5
 refine run Ztt rfl ?_
 refine Eq.trans ?_ h;clear h;simp +decide [*,kk,Zmw,Zcg]
theorem Zo2 (out:List Int) (b:List Int) (x:List Int) (x1:Int) (x2:Int) (r:AV×List Blk) (h:(if x2<x1 then (0≤x2∧(∃ (e1:Int),x[x2.toNat]?=some e1∧(∃ (v2_0:Bool),Zbp b e1=some (Bo v2_0,[])∧(if v2_0=true then (out.length+1≤68719476736∧(Zc4 (out++[e1]) b x x1 (w (x2+1))=some r)) else (Zc4 out b x x1 (w (x2+1))=some r))))) else (some (.own 0,[.arr 3 1 true (out.map ic)])=some r))):Zc4 out b x x1 x2=some r:=by
 unfold Zc4
 rw [EvL_eq Zjg.eq_1]
 simp only [Zbp,mpl,dfs] at h
 try simp only [itb] at h
 try simp only [itf,List.getElem?_eq_some_iff,kk] at h
 rcases h with ⟨q1,q2,e1,⟨g3,q3⟩,v2_0,q4,(⟨q5,q6,h⟩ | ⟨q5,h⟩)⟩ | ⟨q1,h⟩
 all_goals (refine Eq.trans ?_ h;clear h;simp +decide [*,kk,Zc4,Zmx,Zjh])
theorem Zvv (a:List Int) (a1:List Int) (r:AV×List Blk) (h:(Zc4 ([]:List Int) a1 a (a.length:Int) 0=some r)):Zfv a a1=some r:=by
 unfold Zfv
 refine run Ztu rfl ?_
 refine Eq.trans ?_ h;clear h;simp +decide [*,kk,Zmy,Zc4]
theorem Zdq (a:Zd) (a1:Ze) (a2:List Za) (a3:List Int) (r:AV×List Blk) (h:(if a1.Kind=1 then (∃ (v1_0:Bool),Zm a1.Atom 0 (w ((a.Atoms.length:Int) - 1))=some (Bo v1_0,[])∧(if v1_0=true then (if a1.Order=0 then (¬ a1.Atom<0∧(0≤a1.Atom∧(∃ (e2:Atom),a.Atoms[a1.Atom.toNat]?=some e2∧(∃ (e3:Int),e2.Vars[0]?=some e3∧(some (.tup [.agg [I (shlI 1 a1.Atom),I e3,I (-1),I (-1)],Bo true],[])=some r))))) else (some (.tup [.agg [I 0,I (-1),I (-1),I (-1)],Bo false],[])=some r)) else (some (.tup [.agg [I 0,I (-1),I (-1),I (-1)],Bo false],[])=some r))) else (if a1.Atom=0 then (if a1.Kind=2 then (if (a3.length:Int)<1 then (some (.tup [.agg [I 0,I (-1),I (-1),I (-1)],Bo false],[])=some r) else (0≤(w ((a3.length:Int) - 1))∧(∃ (e4:Int),a3[(w ((a3.length:Int) - 1)).toNat]?=some e4∧(0≤e4∧(∃ (e5:Za),a2[e4.toNat]?=some e5∧(∃ (v6_0:List Int),Zd5 a e5.Mask=some (.own 0,[.arr 3 1 true (v6_0.map ic)])∧(∃ (v7_0:Bool),Zbp v6_0 a1.Order=some (Bo v7_0,[])∧(if v7_0=true then (if e5.Order=a1.Order then (some (.tup [.agg [I 0,I (-1),I (-1),I (-1)],Bo false],[])=some r) else (some (.tup [.agg [I e5.Mask,I a1.Order,I e4,I (-1)],Bo true],[])=some r)) else (some (.tup [.agg [I 0,I (-1),I (-1),I (-1)],Bo false],[])=some r))))))))) else (if (a3.length:Int)<2 then (some (.tup [.agg [I 0,I (-1),I (-1),I (-1)],Bo false],[])=some r) else (0≤(w ((a3.length:Int) - 2))∧(∃ (e8:Int),a3[(w ((a3.length:Int) - 2)).toNat]?=some e8∧(0≤(w ((a3.length:Int) - 1))∧(∃ (e9:Int),a3[(w ((a3.length:Int) - 1)).toNat]?=some e9∧(0≤e8∧(∃ (e10:Za),a2[e8.toNat]?=some e10∧(0≤e9∧(∃ (e11:Za),a2[e9.toNat]?=some e11∧(∃ (v12_0:List Int),Zd5 a e10.Mask=some (.own 0,[.arr 3 1 true (v12_0.map ic)])∧(∃ (v13_0:List Int),Zd5 a e11.Mask=some (.own 0,[.arr 3 1 true (v13_0.map ic)])∧(∃ (v14_0:List Int),Zfv v12_0 v13_0=some (.own 0,[.arr 3 1 true (v14_0.map ic)])∧(if (andI e10.Mask e11.Mask)=0 then (if (v14_0.length:Int)=0 then (some (.tup [.agg [I (orI e10.Mask e11.Mask),I (-1),I e8,I e9],Bo false],[])=some r) else (if a1.Kind=3 then (some (.tup [.agg [I (orI e10.Mask e11.Mask),I (-1),I e8,I e9],Bo (decide (a1.Order=0))],[])=some r) else (if a1.Kind=5 then (some (.tup [.agg [I (orI e10.Mask e11.Mask),I e10.Order,I e8,I e9],Bo (decide (a1.Order=0))],[])=some r) else (if a1.Kind=4 then (∃ (v15_0:Bool),Zbp v14_0 a1.Order=some (Bo v15_0,[])∧(if v15_0=true then (if e10.Order=a1.Order then (some (.tup [.agg [I (orI e10.Mask e11.Mask),I a1.Order,I e8,I e9],Bo (decide (e11.Order=a1.Order))],[])=some r) else (some (.tup [.agg [I (orI e10.Mask e11.Mask),I a1.Order,I e8,I e9],Bo false],[])=some r)) else (some (.tup [.agg [I (orI e10.Mask e11.Mask),I a1.Order,I e8,I e9],Bo false],[])=some r))) else (some (.tup [.agg [I (orI e10.Mask e11.Mask),I (-1),I e8,I e9],Bo false],[])=some r))))) else (some (.tup [.agg [I (orI e10.Mask e11.Mask),I (-1),I e8,I e9],Bo false],[])=some r))))))))))))))) else (some (.tup [.agg [I 0,I (-1),I (-1),I (-1)],Bo false],[])=some r)))):Zd6 a a1 a2 a3=some r:=by
 unfold Zd6
 refine run Ztv rfl ?_
 simp only [Zm,Zd5,Zbp,Zfv,Zd.c_def,mpl,dfs] at h
 try simp only [itb] at h
 try simp only [itf,List.getElem?_eq_some_iff,kk] at h
 rcases h with ⟨q1,v1_0,q2,(⟨q3,(⟨q4,q5,q6,e2,⟨g7,q7⟩,e3,⟨g8,q8⟩,h⟩ | ⟨q4,h⟩)⟩ | ⟨q3,h⟩)⟩ | ⟨q1,(⟨q9,(⟨q10,(⟨q11,h⟩ | ⟨q11,q12,e4,⟨g13,q13⟩,q14,e5,⟨g15,q15⟩,v6_0,q16,v7_0,q17,(⟨q18,(⟨q19,h⟩ | ⟨q19,h⟩)⟩ | ⟨q18,h⟩)⟩)⟩ | ⟨q10,(⟨q20,h⟩ | ⟨q20,q21,e8,⟨g22,q22⟩,q23,e9,⟨g24,q24⟩,q25,e10,⟨g26,q26⟩,q27,e11,⟨g28,q28⟩,v12_0,q29,v13_0,q30,v14_0,q31,(⟨q32,(⟨q33,h⟩ | ⟨q33,(⟨q34,h⟩ | ⟨q34,(⟨q35,h⟩ | ⟨q35,(⟨q36,v15_0,q37,(⟨q38,(⟨q39,h⟩ | ⟨q39,h⟩)⟩ | ⟨q38,h⟩)⟩ | ⟨q36,h⟩)⟩)⟩)⟩)⟩ | ⟨q32,h⟩)⟩)⟩)⟩ | ⟨q9,h⟩)⟩
 all_goals (refine Eq.trans ?_ h;clear h;simp +decide [*,kk,Zmz])
theorem Zo3 (q:Zd) (info:List Za) (stack:List Int) (x:List Ze) (x1:Int) (x2:Int) (r:AV×List Blk) (h:(if x2<x1 then (0≤x2∧(∃ (e1:Ze),x[x2.toNat]?=some e1∧(∃ (v2_0:Za) (v2_1:Bool),Zd6 q e1 info stack=some (.tup [.agg (v2_0.c.map .t),Bo v2_1],[])∧(if v2_1=true then (info.length+1≤68719476736∧(if 0≤v2_0.Right then (0≤(w ((stack.length:Int) - 2))∧((w ((stack.length:Int) - 2)).toNat≤stack.length∧((w ((stack.length:Int) - 2)).toNat+1≤68719476736∧(Zci q (info++[v2_0]) ((stack.take ((w ((stack.length:Int) - 2)).toNat))++[x2]) x x1 (w (x2+1))=some r)))) else (if 0≤v2_0.Left then (0≤(w ((stack.length:Int) - 1))∧((w ((stack.length:Int) - 1)).toNat≤stack.length∧((w ((stack.length:Int) - 1)).toNat+1≤68719476736∧(Zci q (info++[v2_0]) ((stack.take ((w ((stack.length:Int) - 1)).toNat))++[x2]) x x1 (w (x2+1))=some r)))) else (stack.length+1≤68719476736∧(Zci q (info++[v2_0]) (stack++[x2]) x x1 (w (x2+1))=some r))))) else (some (.tup [.t .nil,Bo false],[])=some r))))) else (if (stack.length:Int)=1 then (some (.tup [.own 0,Bo true],[.arr 138 4 true (info.map Za.c)])=some r) else (some (.tup [.t .nil,Bo false],[])=some r)))):Zci q info stack x x1 x2=some r:=by
 unfold Zci
 rw [EvL_eq Zji.eq_1]
 simp only [Zd6,Ze.c_def,Zd.c_def,Za.c_def,mpl,dfs] at h
 try simp only [itb] at h
 try simp only [itf,List.getElem?_eq_some_iff,kk] at h
 rcases h with ⟨q1,q2,e1,⟨g3,q3⟩,v2_0,v2_1,q4,(⟨q5,q6,(⟨q7,q8,q9,q10,h⟩ | ⟨q7,(⟨q11,q12,q13,q14,h⟩ | ⟨q11,q15,h⟩)⟩)⟩ | ⟨q5,h⟩)⟩ | ⟨q1,(⟨q16,h⟩ | ⟨q16,h⟩)⟩
 all_goals (refine Eq.trans ?_ h;clear h;simp +decide [*,kk,Zci,Zm0,Zjj])
theorem Zvw (a:Zd) (a1:Plan) (r:AV×List Blk) (h:(∃ (v1_0:Bool),Zd1 a=some (Bo v1_0,[])∧(if v1_0=true then (∃ (v2_0:Bool),Zm (a1.Steps.length:Int) 1 14=some (Bo v2_0,[])∧(if v2_0=true then (Zci a ([]:List Za) ([]:List Int) a1.Steps (a1.Steps.length:Int) 0=some r) else (some (.tup [.t .nil,Bo false],[])=some r))) else (some (.tup [.t .nil,Bo false],[])=some r)))):Zch a a1=some r:=by
 unfold Zch
 refine run Ztw rfl ?_
 simp only [Zd1,Zm,Zd.c_def,mpl,dfs] at h
 try simp only [itb] at h
 try simp only [itf,List.getElem?_eq_some_iff,kk] at h
 rcases h with ⟨v1_0,q1,(⟨q2,v2_0,q3,(⟨q4,h⟩ | ⟨q4,h⟩)⟩ | ⟨q2,h⟩)⟩
 all_goals (refine Eq.trans ?_ h;clear h;simp +decide [*,kk,Zm1,Zci])
theorem Zvx (a:Zd) (a1:Plan) (r:AV×List Blk) (h:((Zch a a1=some (.tup [.t .nil,Bo false],[])∧(some (I 0,[])=some r))∨(∃ (v2_0:List Za),Zch a a1=some (.tup [.own 0,Bo true],[.arr 138 4 true (v2_0.map Za.c)])∧(0≤(w ((v2_0.length:Int) - 1))∧(∃ (e3:Za),v2_0[(w ((v2_0.length:Int) - 1)).toNat]?=some e3∧(some (I e3.Mask,[])=some r)))))):Zjk a a1=some r:=by
 unfold Zjk
 refine run Ztx rfl ?_
 simp only [Zch,Plan.c_def,Zd.c_def,mpl,dfs] at h
 try simp only [itb] at h
 try simp only [itf,List.getElem?_eq_some_iff,kk] at h
 rcases h with ⟨q2,h⟩ | ⟨v2_0,q3,q4,e3,⟨g5,q5⟩,h⟩
 all_goals (refine Eq.trans ?_ h;clear h;simp +decide [*,kk,Zm2])
end Go.Proofs.YtbapkgocloaaeaaGreat
/- part: G2 -/
namespace Go.Proofs.YtbapkgocloaaeaaGreat
open Go.AM
theorem Zo4 (x:Zf) (r:AV×List Blk) (h:(some (.bsl 1 5,[.box (x.c.map .t),.box [.ptr 0 0,.ptr 0 6,.ptr 0 12,.ptr 0 18,.ptr 0 24]])=some r)):Zc5 x=some r:=by
 unfold Zc5
 refine runM Zty rfl ?_
 refine Eq.trans ?_ h;clear h;simp +decide [*,kk,Zm3]
theorem Zvy (x:Zc) (r:AV×List Blk) (h:(some (.bsl 1 5,[.box (x.c.map .t),.box [.ptr 0 0,.ptr 0 1,.ptr 0 2,.ptr 0 3,.ptr 0 4]])=some r)):Zfw x=some r:=by
 unfold Zfw
 refine runM Ztz rfl ?_
 refine Eq.trans ?_ h;clear h;simp +decide [*,kk,Zm4]
theorem Ze8 (o:Zc) (x:Int) (x1:Int) (r:AV×List Blk) (h:(if x1<x then (if x1=0 then (∃ (v1_0:Bool),Zm o.Fixed (-99) 99=some (Bo v1_0,[])∧(if v1_0=true then (Zbg o x (w (x1+1))=some r) else (some (Bo false,[])=some r))) else (if x1=1 then (∃ (v2_0:Bool),Zm o.Zi (-99) 99=some (Bo v2_0,[])∧(if v2_0=true then (Zbg o x (w (x1+1))=some r) else (some (Bo false,[])=some r))) else (if x1=2 then (∃ (v3_0:Bool),Zm o.Zj (-99) 99=some (Bo v3_0,[])∧(if v3_0=true then (Zbg o x (w (x1+1))=some r) else (some (Bo false,[])=some r))) else (if x1=3 then (∃ (v4_0:Bool),Zm o.Zk (-99) 99=some (Bo v4_0,[])∧(if v4_0=true then (Zbg o x (w (x1+1))=some r) else (some (Bo false,[])=some r))) else (if x1=4 then (∃ (v5_0:Bool),Zm o.Zl (-99) 99=some (Bo v5_0,[])∧(if v5_0=true then (Zbg o x (w (x1+1))=some r) else (some (Bo false,[])=some r))) else False))))) else (Zcj o o.Steps (o.Steps.length:Int) 0=some r))):Zbg o x x1=some r:=by
 unfold Zbg
 rw [EvL_eq Zjl.eq_1]
 by_cases q1:x1<x
 ·rw [if_pos q1] at h
  by_cases q2:x1=0
  ·rw [if_pos q2] at h
   subst q2
   obtain ⟨v1_0,q3,h⟩:=h
   unfold Zm at q3
   try simp at q3
   by_cases q4:v1_0=true
   ·rw [if_pos q4] at h
    refine Eq.trans ?_ h
    clear h
    simp +decide [*,Zbg]
   ·rw [if_neg q4] at h
    refine Eq.trans ?_ h
    clear h
    simp +decide [*]
  ·rw [if_neg q2] at h
   replace q2:=eq_false q2
   by_cases q5:x1=1
   ·rw [if_pos q5] at h
    subst q5
    obtain ⟨v2_0,q6,h⟩:=h
    unfold Zm at q6
    try simp at q6
    by_cases q7:v2_0=true
    ·rw [if_pos q7] at h
     refine Eq.trans ?_ h
     clear h
     simp +decide [*,Zbg]
    ·rw [if_neg q7] at h
     refine Eq.trans ?_ h
     clear h
     simp +decide [*]
   ·rw [if_neg q5] at h
    replace q5:=eq_false q5
    by_cases q8:x1=2
    ·rw [if_pos q8] at h
     subst q8
     obtain ⟨v3_0,q9,h⟩:=h
     unfold Zm at q9
     try simp at q9
     by_cases q10:v3_0=true
     ·rw [if_pos q10] at h
      refine Eq.trans ?_ h
      clear h
      simp +decide [*,Zbg]
     ·rw [if_neg q10] at h
      refine Eq.trans ?_ h
      clear h
      simp +decide [*]
    ·rw [if_neg q8] at h
     replace q8:=eq_false q8
     by_cases q11:x1=3
     ·rw [if_pos q11] at h
      subst q11
      obtain ⟨v4_0,q12,h⟩:=h
      unfold Zm at q12
      try simp at q12
      by_cases q13:v4_0=true
      ·rw [if_pos q13] at h
       refine Eq.trans ?_ h
       clear h
       simp +decide [*,Zbg]
      ·rw [if_neg q13] at h
       refine Eq.trans ?_ h
       clear h
       simp +decide [*]
     ·rw [if_neg q11] at h
      replace q11:=eq_false q11
      by_cases q14:x1=4
      ·rw [if_pos q14] at h
       subst q14
       obtain ⟨v5_0,q15,h⟩:=h
       unfold Zm at q15
       try simp at q15
       by_cases q16:v5_0=true
       ·rw [if_pos q16] at h
        refine Eq.trans ?_ h
        clear h
        simp +decide [*,Zbg]
       ·rw [if_neg q16] at h
        refine Eq.trans ?_ h
        clear h
        simp +decide [*]
      ·rw [if_neg q14] at h
       replace q14:=eq_false q14
       cases h
 ·rw [if_neg q1] at h
  refine Eq.trans ?_ h
  clear h
  simp +decide [*,Zcj,Zjo]
theorem Zo5 (o:Zc) (x:List Zb) (x1:Int) (x2:Int) (r:AV×List Blk) (h:(if x2<x1 then (0≤x2∧(∃ (e1:Zb),x[x2.toNat]?=some e1∧(∃ (v2_0:Bool),Zm e1.Add (-99) 99=some (Bo v2_0,[])∧(if v2_0=true then (∃ (v3_0:Bool),Zm e1.From 1 8192=some (Bo v3_0,[])∧(if v3_0=true then (if 0<x2 then (0≤(w (x2 - 1))∧(∃ (e4:Zb),o.Steps[(w (x2 - 1)).toNat]?=some e4∧(if e1.From≤e4.From then (some (Bo false,[])=some r) else (Zcj o x x1 (w (x2+1))=some r)))) else (Zcj o x x1 (w (x2+1))=some r)) else (some (Bo false,[])=some r))) else (some (Bo false,[])=some r))))) else (some (Bo (decide ((o.Steps.length:Int)≤4)),[])=some r))):Zcj o x x1 x2=some r:=by
 unfold Zcj
 rw [EvL_eq Zjm.eq_1]
 simp only [Zm,mpl,dfs] at h
 try simp only [itb] at h
 try simp only [itf,List.getElem?_eq_some_iff,kk] at h
 rcases h with ⟨q1,q2,e1,⟨g3,q3⟩,v2_0,q4,(⟨q5,v3_0,q6,(⟨q7,(⟨q8,q9,e4,⟨g10,q10⟩,(⟨q11,h⟩ | ⟨q11,h⟩)⟩ | ⟨q8,h⟩)⟩ | ⟨q7,h⟩)⟩ | ⟨q5,h⟩)⟩ | ⟨q1,h⟩
 all_goals (refine Eq.trans ?_ h;clear h;simp +decide [*,kk,Zcj,Zjn])
theorem Zvz (a:Zc) (r:AV×List Blk) (h:(Zfw a=some (.bsl 1 5,[.box (a.c.map .t),.box [.ptr 0 0,.ptr 0 1,.ptr 0 2,.ptr 0 3,.ptr 0 4]])∧(Zbg a 5 0=some r))):Zy a=some r:=by
 unfold Zy
 refine run Zt0 rfl ?_
 simp only [Zfw,Zc.c_def,mpl,dfs] at h
 rcases h with ⟨q1,h⟩
 all_goals (refine Eq.trans ?_ h;clear h;simp +decide [*,kk,Zm5,Zbg])
theorem Zo6 (out:List (List Int)) (a:Int) (r:AV×List Blk) (h:(if a≤7 then (Zck out a 0=some r) else (some (.own 0,[.arr 38 1 true (out.map isc)])=some r))):Zc6 out a=some r:=by
 unfold Zc6
 rw [EvL_eq Zfx.eq_1]
 try simp only [itb] at h
 try simp only [itf,List.getElem?_eq_some_iff,kk] at h
 rcases h with ⟨q1,h⟩ | ⟨q1,h⟩
 all_goals (refine Eq.trans ?_ h;clear h;simp +decide [*,kk,Zck,Zfy])
theorem Zo7 (out:List (List Int)) (a:Int) (b:Int) (r:AV×List Blk) (h:(if b≤7 then (Zc7 out a b 0=some r) else (Zc6 out (w (a+1))=some r))):Zck out a b=some r:=by
 unfold Zck
 rw [EvL_eq Zhn.eq_1]
 try simp only [itb] at h
 try simp only [itf,List.getElem?_eq_some_iff,kk] at h
 rcases h with ⟨q1,h⟩ | ⟨q1,h⟩
 all_goals (refine Eq.trans ?_ h;clear h;simp +decide [*,kk,Zc7,Zc6,Zho])
theorem Zo8 (out:List (List Int)) (a:Int) (b:Int) (c:Int) (r:AV×List Blk) (h:(if c≤7 then (out.length+1≤68719476736∧(Zc7 (out++[[a,b,c]]) a b (w (c+1))=some r)) else (Zck out a (w (b+1))=some r))):Zc7 out a b c=some r:=by
 unfold Zc7
 rw [EvL_eq Zjp.eq_1]
 try simp only [itb] at h
 try simp only [itf,List.getElem?_eq_some_iff,kk] at h
 rcases h with ⟨q1,q2,h⟩ | ⟨q1,h⟩
 all_goals (refine Eq.trans ?_ h;clear h;simp +decide [*,kk,Zc7,Zck,Zjq])
theorem Zv0 (r:AV×List Blk) (h:(Zc6 ([]:List (List Int)) 0=some r)):Zbb=some r:=by
 unfold Zbb
 refine run Zt1 rfl ?_
 refine Eq.trans ?_ h;clear h;simp +decide [*,kk,Zm6,Zc6]
theorem Zv1 (a:List Int) (r:AV×List Blk) (h:(a.length≤68719476736∧(some (.own 0,[.arr 3 1 true (a.map ic)])=some r))):Zfz a=some r:=by
 unfold Zfz
 refine run Zt2 rfl ?_
 rcases h with ⟨q1,h⟩
 all_goals (refine Eq.trans ?_ h;clear h;simp +decide [*,kk,Zm7])
theorem Zv2 (a:Int) (r:AV×List Blk) (h:(∃ (v1_0:Bool),Zm a 0 7=some (Bo v1_0,[])∧(if v1_0=true then (if a=0 then (some (I 0,[])=some r) else (¬ (w (2*(w (a - 1))))<0∧(some (I (shlI 1 (w (2*(w (a - 1))))),[])=some r))) else (some (I (-1),[])=some r)))):Zbz a=some r:=by
 unfold Zbz
 refine run Zt3 rfl ?_
 simp only [Zm,mpl,dfs] at h
 try simp only [itb] at h
 try simp only [itf,List.getElem?_eq_some_iff,kk] at h
 rcases h with ⟨v1_0,q1,(⟨q2,(⟨q3,h⟩ | ⟨q3,q4,h⟩)⟩ | ⟨q2,h⟩)⟩
 all_goals (refine Eq.trans ?_ h;clear h;simp +decide [*,kk,Zm8])
theorem Zo9 (left:Int) (right:Int) (n:Int) (x:List Zb) (x1:Int) (x2:Int) (r:AV×List Blk) (h:(if x2<x1 then (0≤x2∧(∃ (e1:Zb),x[x2.toNat]?=some e1∧(if e1.From≤(w (left+right)) then (Zc8 left right (w (n+e1.Add)) x x1 (w (x2+1))=some r) else (Zc8 left right n x x1 (w (x2+1))=some r)))) else (some (I n,[])=some r))):Zc8 left right n x x1 x2=some r:=by
 unfold Zc8
 rw [EvL_eq Zjr.eq_1]
 try simp only [itb] at h
 try simp only [itf,List.getElem?_eq_some_iff,kk] at h
 rcases h with ⟨q1,q2,e1,⟨g3,q3⟩,(⟨q4,h⟩ | ⟨q4,h⟩)⟩ | ⟨q1,h⟩
 all_goals (refine Eq.trans ?_ h;clear h;simp +decide [*,kk,Zc8,Zm9,Zjs])
theorem Zv3 (a:Zc) (a1:Int) (a2:Int) (a3:Int) (r:AV×List Blk) (h:(Zc8 a1 a2 (w ((w ((w ((w (a.Fixed+(w (a.Zi*a1))))+(w (a.Zj*a2))))+(w (a.Zk*a3))))+(w ((w (a.Zl*a1))*a2)))) a.Steps (a.Steps.length:Int) 0=some r)):Zd7 a a1 a2 a3=some r:=by
 unfold Zd7
 refine run Zt4 rfl ?_
 refine Eq.trans ?_ h;clear h;simp +decide [*,kk,Zna,Zc8]
theorem Zv4 (a:Zc) (a1:List Int) (r:AV×List Blk) (h:(∃ (e1:Int),a1[0]?=some e1∧(∃ (v2_0:Int),Zbz e1=some (I v2_0,[])∧(∃ (e3:Int),a1[1]?=some e3∧(∃ (v4_0:Int),Zbz e3=some (I v4_0,[])∧(∃ (e5:Int),a1[2]?=some e5∧(∃ (v6_0:Int),Zbz e5=some (I v6_0,[])∧(∃ (v7_0:Int),Zd7 a v2_0 v4_0 v6_0=some (I v7_0,[])∧(some (I v7_0,[])=some r))))))))):Z7 a a1=some r:=by
 unfold Z7
 refine run Zt5 rfl ?_
 simp only [Zbz,Zd7,Zc.c_def,mpl,dfs] at h
 try simp only [itb] at h
 try simp only [itf,List.getElem?_eq_some_iff,kk] at h
 rcases h with ⟨e1,⟨g1,q1⟩,v2_0,q2,e3,⟨g3,q3⟩,v4_0,q4,e5,⟨g5,q5⟩,v6_0,q6,v7_0,q7,h⟩
 all_goals (refine Eq.trans ?_ h;clear h;simp +decide [*,kk,Znb])
theorem Zpa (o:Zc) (x:List (List Int)) (x1:Int) (x2:Int) (r:AV×List Blk) (h:(if x2<x1 then (0≤x2∧(∃ (e1:List Int),x[x2.toNat]?=some e1∧(Zbh o x e1 x1 x2 (e1.length:Int) 0=some r))) else (some (.tup [.t .nil,.t .nil,Bo false],[])=some r))):Zca o x x1 x2=some r:=by
 unfold Zca
 rw [EvL_eq Zhp.eq_1]
 try simp only [itb] at h
 try simp only [itf,List.getElem?_eq_some_iff,kk] at h
 rcases h with ⟨q1,q2,e1,⟨g3,q3⟩,h⟩ | ⟨q1,h⟩
 all_goals (refine Eq.trans ?_ h;clear h;simp +decide [*,kk,Zbh,Zhq])
theorem Zld (o:Zc) (x:List (List Int)) (t:List Int) (x1:Int) (x2:Int) (x3:Int) (x4:Int) (r:AV×List Blk) (h:(if x4<x3 then (0≤x4∧(∃ (e1:Int),t[x4.toNat]?=some e1∧(if e1=7 then (Zbh o x t x1 x2 x3 (w (x4+1))=some r) else (∃ (v2_0:List Int),Zfz t=some (.own 0,[.arr 3 1 true (v2_0.map ic)])∧(∃ (e3:Int),v2_0[x4.toNat]?=some e3∧(∃ (v4_0:Int),Z7 o (v2_0.set x4.toNat (w (e3+1)))=some (I v4_0,[])∧(∃ (v5_0:Int),Z7 o t=some (I v5_0,[])∧(if v4_0<v5_0 then (some (.tup [L 1 (t.map ic),.own 0,Bo true],[.arr 3 1 true ((v2_0.set x4.toNat (w (e3+1))).map ic)])=some r) else (Zbh o x t x1 x2 x3 (w (x4+1))=some r))))))))) else (Zca o x x1 (w (x2+1))=some r))):Zbh o x t x1 x2 x3 x4=some r:=by
 unfold Zbh
 rw [EvL_eq Zjt.eq_1]
 simp only [Zfz,Z7,Zc.c_def,mpl,dfs] at h
 try simp only [itb] at h
 try simp only [itf,List.getElem?_eq_some_iff,kk] at h
 rcases h with ⟨q1,q2,e1,⟨g3,q3⟩,(⟨q4,h⟩ | ⟨q4,v2_0,q5,e3,⟨g6,q6⟩,v4_0,q7,v5_0,q8,(⟨q9,h⟩ | ⟨q9,h⟩)⟩)⟩ | ⟨q1,h⟩
 all_goals (refine Eq.trans ?_ h;clear h;simp +decide [*,kk,Zbh,Znc,Zca,Zju])
theorem Zv5 (a:Zc) (r:AV×List Blk) (h:(∃ (v1_0:Bool),Zy a=some (Bo v1_0,[])∧(if v1_0=true then (∃ (v2_0:List (List Int)),Zbb=some (.own 0,[.arr 38 1 true (v2_0.map isc)])∧(Zca a v2_0 (v2_0.length:Int) 0=some r)) else (some (.tup [.t .nil,.t .nil,Bo false],[])=some r)))):Zx a=some r:=by
 unfold Zx
 refine run Zt6 rfl ?_
 simp only [Zy,Zbb,Zc.c_def,mpl,dfs] at h
 try simp only [itb] at h
 try simp only [itf,List.getElem?_eq_some_iff,kk] at h
 rcases h with ⟨v1_0,q1,(⟨q2,v2_0,q3,h⟩ | ⟨q2,h⟩)⟩
 all_goals (refine Eq.trans ?_ h;clear h;simp +decide [*,kk,Znd,Zca])
end Go.Proofs.YtbapkgocloaaeaaGreat
/- part: G3 -/
namespace Go.Proofs.YtbapkgocloaaeaaGreat
open Go.AM
theorem Ze9 (x:Zf) (x1:Int) (x2:Int) (r:AV×List Blk) (h:(if x2<x1 then (if x2=0 then (∃ (v1_0:Bool),Zy x.Scan=some (Bo v1_0,[])∧(if v1_0=true then ((Zx x.Scan=some (.tup [.t .nil,.t .nil,Bo false],[])∧(∃ (v3_0:List (List Int)),Zbb=some (.own 0,[.arr 38 1 true (v3_0.map isc)])∧(Zcl x v3_0 (w (1+x2)) x1 x2 (v3_0.length:Int) 0=some r)))∨(∃ (v4_0:List Int) (v4_1:List Int),Zx x.Scan=some (.tup [L 1 (v4_1.map ic),.own 0,Bo true],[.arr 3 1 true (v4_0.map ic)])∧(some (.tup [I (w (1+x2)),L 1 (v4_1.map ic),.own 0],[.arr 3 1 true (v4_0.map ic)])=some r))) else (some (.tup [I (w (1+x2)),.t .nil,.t .nil],[])=some r))) else (if x2=1 then (∃ (v5_0:Bool),Zy x.Sort_=some (Bo v5_0,[])∧(if v5_0=true then ((Zx x.Sort_=some (.tup [.t .nil,.t .nil,Bo false],[])∧(∃ (v7_0:List (List Int)),Zbb=some (.own 0,[.arr 38 1 true (v7_0.map isc)])∧(Zcm x v7_0 (w (1+x2)) x1 x2 (v7_0.length:Int) 0=some r)))∨(∃ (v8_0:List Int) (v8_1:List Int),Zx x.Sort_=some (.tup [L 1 (v8_1.map ic),.own 0,Bo true],[.arr 3 1 true (v8_0.map ic)])∧(some (.tup [I (w (1+x2)),L 1 (v8_1.map ic),.own 0],[.arr 3 1 true (v8_0.map ic)])=some r))) else (some (.tup [I (w (1+x2)),.t .nil,.t .nil],[])=some r))) else (if x2=2 then (∃ (v9_0:Bool),Zy x.Hash=some (Bo v9_0,[])∧(if v9_0=true then ((Zx x.Hash=some (.tup [.t .nil,.t .nil,Bo false],[])∧(∃ (v11_0:List (List Int)),Zbb=some (.own 0,[.arr 38 1 true (v11_0.map isc)])∧(Zcn x v11_0 (w (1+x2)) x1 x2 (v11_0.length:Int) 0=some r)))∨(∃ (v12_0:List Int) (v12_1:List Int),Zx x.Hash=some (.tup [L 1 (v12_1.map ic),.own 0,Bo true],[.arr 3 1 true (v12_0.map ic)])∧(some (.tup [I (w (1+x2)),L 1 (v12_1.map ic),.own 0],[.arr 3 1 true (v12_0.map ic)])=some r))) else (some (.tup [I (w (1+x2)),.t .nil,.t .nil],[])=some r))) else (if x2=3 then (∃ (v13_0:Bool),Zy x.Merge=some (Bo v13_0,[])∧(if v13_0=true then ((Zx x.Merge=some (.tup [.t .nil,.t .nil,Bo false],[])∧(∃ (v15_0:List (List Int)),Zbb=some (.own 0,[.arr 38 1 true (v15_0.map isc)])∧(Zco x v15_0 (w (1+x2)) x1 x2 (v15_0.length:Int) 0=some r)))∨(∃ (v16_0:List Int) (v16_1:List Int),Zx x.Merge=some (.tup [L 1 (v16_1.map ic),.own 0,Bo true],[.arr 3 1 true (v16_0.map ic)])∧(some (.tup [I (w (1+x2)),L 1 (v16_1.map ic),.own 0],[.arr 3 1 true (v16_0.map ic)])=some r))) else (some (.tup [I (w (1+x2)),.t .nil,.t .nil],[])=some r))) else (if x2=4 then (∃ (v17_0:Bool),Zy x.Nested=some (Bo v17_0,[])∧(if v17_0=true then ((Zx x.Nested=some (.tup [.t .nil,.t .nil,Bo false],[])∧(∃ (v19_0:List (List Int)),Zbb=some (.own 0,[.arr 38 1 true (v19_0.map isc)])∧(Zcp x v19_0 (w (1+x2)) x1 x2 (v19_0.length:Int) 0=some r)))∨(∃ (v20_0:List Int) (v20_1:List Int),Zx x.Nested=some (.tup [L 1 (v20_1.map ic),.own 0,Bo true],[.arr 3 1 true (v20_0.map ic)])∧(some (.tup [I (w (1+x2)),L 1 (v20_1.map ic),.own 0],[.arr 3 1 true (v20_0.map ic)])=some r))) else (some (.tup [I (w (1+x2)),.t .nil,.t .nil],[])=some r))) else False))))) else (some (.tup [I 0,.t .nil,.t .nil],[])=some r))):Zn x x1 x2=some r:=by
 unfold Zn
 rw [EvL_eq Zc9.eq_1]
 by_cases q1:x2<x1
 ·rw [if_pos q1] at h
  by_cases q2:x2=0
  ·rw [if_pos q2] at h
   subst q2
   obtain ⟨v1_0,q3,h⟩:=h
   unfold Zy at q3
   try simp at q3
   by_cases q4:v1_0=true
   ·rw [if_pos q4] at h
    rcases h with h | h
    ·
     obtain ⟨q5,h⟩:=h
     unfold Zx at q5
     try simp at q5
     obtain ⟨v3_0,q6,h⟩:=h
     unfold Zbb at q6
     try simp at q6
     refine Eq.trans ?_ h
     clear h
     simp +decide [*,Zcl]
    ·
     obtain ⟨v4_0,v4_1,q7,h⟩:=h
     unfold Zx at q7
     try simp at q7
     refine Eq.trans ?_ h
     clear h
     simp +decide [*]
   ·rw [if_neg q4] at h
    refine Eq.trans ?_ h
    clear h
    simp +decide [*]
  ·rw [if_neg q2] at h
   replace q2:=eq_false q2
   by_cases q8:x2=1
   ·rw [if_pos q8] at h
    subst q8
    obtain ⟨v5_0,q9,h⟩:=h
    unfold Zy at q9
    try simp at q9
    by_cases q10:v5_0=true
    ·rw [if_pos q10] at h
     rcases h with h | h
     ·
      obtain ⟨q11,h⟩:=h
      unfold Zx at q11
      try simp at q11
      obtain ⟨v7_0,q12,h⟩:=h
      unfold Zbb at q12
      try simp at q12
      refine Eq.trans ?_ h
      clear h
      simp +decide [*,Zcm]
     ·
      obtain ⟨v8_0,v8_1,q13,h⟩:=h
      unfold Zx at q13
      try simp at q13
      refine Eq.trans ?_ h
      clear h
      simp +decide [*]
    ·rw [if_neg q10] at h
     refine Eq.trans ?_ h
     clear h
     simp +decide [*]
   ·rw [if_neg q8] at h
    replace q8:=eq_false q8
    by_cases q14:x2=2
    ·rw [if_pos q14] at h
     subst q14
     obtain ⟨v9_0,q15,h⟩:=h
     unfold Zy at q15
     try simp at q15
     by_cases q16:v9_0=true
     ·rw [if_pos q16] at h
      rcases h with h | h
      ·
       obtain ⟨q17,h⟩:=h
       unfold Zx at q17
       try simp at q17
       obtain ⟨v11_0,q18,h⟩:=h
       unfold Zbb at q18
       try simp at q18
       refine Eq.trans ?_ h
       clear h
       simp +decide [*,Zcn]
      ·
       obtain ⟨v12_0,v12_1,q19,h⟩:=h
       unfold Zx at q19
       try simp at q19
       refine Eq.trans ?_ h
       clear h
       simp +decide [*]
     ·rw [if_neg q16] at h
      refine Eq.trans ?_ h
      clear h
      simp +decide [*]
    ·rw [if_neg q14] at h
     replace q14:=eq_false q14
     by_cases q20:x2=3
     ·rw [if_pos q20] at h
      subst q20
      obtain ⟨v13_0,q21,h⟩:=h
      unfold Zy at q21
      try simp at q21
      by_cases q22:v13_0=true
      ·rw [if_pos q22] at h
       rcases h with h | h
       ·
        obtain ⟨q23,h⟩:=h
        unfold Zx at q23
        try simp at q23
        obtain ⟨v15_0,q24,h⟩:=h
        unfold Zbb at q24
        try simp at q24
        refine Eq.trans ?_ h
        clear h
        simp +decide [*,Zco]
       ·
        obtain ⟨v16_0,v16_1,q25,h⟩:=h
        unfold Zx at q25
        try simp at q25
        refine Eq.trans ?_ h
        clear h
        simp +decide [*]
      ·rw [if_neg q22] at h
       refine Eq.trans ?_ h
       clear h
       simp +decide [*]
     ·rw [if_neg q20] at h
      replace q20:=eq_false q20
      by_cases q26:x2=4
      ·rw [if_pos q26] at h
       subst q26
       obtain ⟨v17_0,q27,h⟩:=h
       unfold Zy at q27
       try simp at q27
       by_cases q28:v17_0=true
       ·rw [if_pos q28] at h
        rcases h with h | h
        ·
         obtain ⟨q29,h⟩:=h
         unfold Zx at q29
         try simp at q29
         obtain ⟨v19_0,q30,h⟩:=h
         unfold Zbb at q30
         try simp at q30
         refine Eq.trans ?_ h
         clear h
         simp +decide [*,Zcp]
        ·
         obtain ⟨v20_0,v20_1,q31,h⟩:=h
         unfold Zx at q31
         try simp at q31
         refine Eq.trans ?_ h
         clear h
         simp +decide [*]
       ·rw [if_neg q28] at h
        refine Eq.trans ?_ h
        clear h
        simp +decide [*]
      ·rw [if_neg q26] at h
       replace q26:=eq_false q26
       cases h
 ·rw [if_neg q1] at h
  refine Eq.trans ?_ h
  clear h
  simp +decide [*,Zda]
theorem Zpb (o:Zf) (x:List (List Int)) (kind:Int) (x1:Int) (x2:Int) (x3:Int) (x4:Int) (r:AV×List Blk) (h:(if x4<x3 then (0≤x4∧(∃ (e1:List Int),x[x4.toNat]?=some e1∧(∃ (v2_0:Int),Z7 o.Scan e1=some (I v2_0,[])∧(if v2_0<1 then (some (.tup [I kind,L 1 (e1.map ic),.t .nil],[])=some r) else (Zcl o x kind x1 x2 x3 (w (x4+1))=some r))))) else (Zn o x1 (w (x2+1))=some r))):Zcl o x kind x1 x2 x3 x4=some r:=by
 unfold Zcl
 rw [EvL_eq Zb0.eq_1]
 simp only [Z7,Zc.c_def,mpl,dfs] at h
 try simp only [itb] at h
 try simp only [itf,List.getElem?_eq_some_iff,kk] at h
 rcases h with ⟨q1,q2,e1,⟨g3,q3⟩,v2_0,q4,(⟨q5,h⟩ | ⟨q5,h⟩)⟩ | ⟨q1,h⟩
 all_goals (refine Eq.trans ?_ h;clear h;simp +decide [*,kk,Zcl,Zn,Zb1])
theorem Zpc (o:Zf) (x:List (List Int)) (kind:Int) (x1:Int) (x2:Int) (x3:Int) (x4:Int) (r:AV×List Blk) (h:(if x4<x3 then (0≤x4∧(∃ (e1:List Int),x[x4.toNat]?=some e1∧(∃ (v2_0:Int),Z7 o.Sort_ e1=some (I v2_0,[])∧(if v2_0<1 then (some (.tup [I kind,L 1 (e1.map ic),.t .nil],[])=some r) else (Zcm o x kind x1 x2 x3 (w (x4+1))=some r))))) else (Zn o x1 (w (x2+1))=some r))):Zcm o x kind x1 x2 x3 x4=some r:=by
 unfold Zcm
 rw [EvL_eq Zb0.eq_1]
 simp only [Z7,Zc.c_def,mpl,dfs] at h
 try simp only [itb] at h
 try simp only [itf,List.getElem?_eq_some_iff,kk] at h
 rcases h with ⟨q1,q2,e1,⟨g3,q3⟩,v2_0,q4,(⟨q5,h⟩ | ⟨q5,h⟩)⟩ | ⟨q1,h⟩
 all_goals (refine Eq.trans ?_ h;clear h;simp +decide [*,kk,Zcm,Zn,Zb1])
theorem Zpd (o:Zf) (x:List (List Int)) (kind:Int) (x1:Int) (x2:Int) (x3:Int) (x4:Int) (r:AV×List Blk) (h:(if x4<x3 then (0≤x4∧(∃ (e1:List Int),x[x4.toNat]?=some e1∧(∃ (v2_0:Int),Z7 o.Hash e1=some (I v2_0,[])∧(if v2_0<1 then (some (.tup [I kind,L 1 (e1.map ic),.t .nil],[])=some r) else (Zcn o x kind x1 x2 x3 (w (x4+1))=some r))))) else (Zn o x1 (w (x2+1))=some r))):Zcn o x kind x1 x2 x3 x4=some r:=by
 unfold Zcn
 rw [EvL_eq Zb0.eq_1]
 simp only [Z7,Zc.c_def,mpl,dfs] at h
 try simp only [itb] at h
 try simp only [itf,List.getElem?_eq_some_iff,kk] at h
 rcases h with ⟨q1,q2,e1,⟨g3,q3⟩,v2_0,q4,(⟨q5,h⟩ | ⟨q5,h⟩)⟩ | ⟨q1,h⟩
 all_goals (refine Eq.trans ?_ h;clear h;simp +decide [*,kk,Zcn,Zn,Zb1])
theorem Zpe (o:Zf) (x:List (List Int)) (kind:Int) (x1:Int) (x2:Int) (x3:Int) (x4:Int) (r:AV×List Blk) (h:(if x4<x3 then (0≤x4∧(∃ (e1:List Int),x[x4.toNat]?=some e1∧(∃ (v2_0:Int),Z7 o.Merge e1=some (I v2_0,[])∧(if v2_0<1 then (some (.tup [I kind,L 1 (e1.map ic),.t .nil],[])=some r) else (Zco o x kind x1 x2 x3 (w (x4+1))=some r))))) else (Zn o x1 (w (x2+1))=some r))):Zco o x kind x1 x2 x3 x4=some r:=by
 unfold Zco
 rw [EvL_eq Zb0.eq_1]
 simp only [Z7,Zc.c_def,mpl,dfs] at h
 try simp only [itb] at h
 try simp only [itf,List.getElem?_eq_some_iff,kk] at h
 rcases h with ⟨q1,q2,e1,⟨g3,q3⟩,v2_0,q4,(⟨q5,h⟩ | ⟨q5,h⟩)⟩ | ⟨q1,h⟩
 all_goals (refine Eq.trans ?_ h;clear h;simp +decide [*,kk,Zco,Zn,Zb1])
theorem Zpf (o:Zf) (x:List (List Int)) (kind:Int) (x1:Int) (x2:Int) (x3:Int) (x4:Int) (r:AV×List Blk) (h:(if x4<x3 then (0≤x4∧(∃ (e1:List Int),x[x4.toNat]?=some e1∧(∃ (v2_0:Int),Z7 o.Nested e1=some (I v2_0,[])∧(if v2_0<1 then (some (.tup [I kind,L 1 (e1.map ic),.t .nil],[])=some r) else (Zcp o x kind x1 x2 x3 (w (x4+1))=some r))))) else (Zn o x1 (w (x2+1))=some r))):Zcp o x kind x1 x2 x3 x4=some r:=by
 unfold Zcp
 rw [EvL_eq Zb0.eq_1]
 simp only [Z7,Zc.c_def,mpl,dfs] at h
 try simp only [itb] at h
 try simp only [itf,List.getElem?_eq_some_iff,kk] at h
 rcases h with ⟨q1,q2,e1,⟨g3,q3⟩,v2_0,q4,(⟨q5,h⟩ | ⟨q5,h⟩)⟩ | ⟨q1,h⟩
 all_goals (refine Eq.trans ?_ h;clear h;simp +decide [*,kk,Zcp,Zn,Zb1])
theorem Zv6 (a:Zf) (r:AV×List Blk) (h:(Zc5 a=some (.bsl 1 5,[.box (a.c.map .t),.box [.ptr 0 0,.ptr 0 6,.ptr 0 12,.ptr 0 18,.ptr 0 24]])∧(Zn a 5 0=some r))):Zd8 a=some r:=by
 unfold Zd8
 refine run Zt7 rfl ?_
 simp only [Zc5,Zf.c_def,Zc.c_def,mpl,dfs] at h
 rcases h with ⟨q1,h⟩
 all_goals (refine Eq.trans ?_ h;clear h;simp +decide [*,kk,Zne,Zn])
theorem Zv7 (a:Zf) (r:AV×List Blk) (h:((∃ (v1_0:List Int) (v1_1:Int) (v1_2:List Int),Zd8 a=some (.tup [I v1_1,L 1 (v1_2.map ic),.own 0],[.arr 3 1 true (v1_0.map ic)])∧(some (Bo (decide (v1_1=0)),[])=some r))∨(∃ (v2_0:Int),Zd8 a=some (.tup [I v2_0,.t .nil,.t .nil],[])∧(some (Bo (decide (v2_0=0)),[])=some r))∨(∃ (v3_0:Int) (v3_1:List Int),Zd8 a=some (.tup [I v3_0,L 1 (v3_1.map ic),.t .nil],[])∧(some (Bo (decide (v3_0=0)),[])=some r)))):Zd9 a=some r:=by
 unfold Zd9
 refine run Zt8 rfl ?_
 simp only [Zd8,Zf.c_def,Zc.c_def,mpl,dfs] at h
 rcases h with ⟨v1_0,v1_1,v1_2,q2,h⟩ | ⟨v2_0,q3,h⟩ | ⟨v3_0,v3_1,q4,h⟩
 all_goals (refine Eq.trans ?_ h;clear h;simp +decide [*,kk,Znf])
theorem Zv8 (a:Zc) (a1:Int) (a2:Int) (a3:Int) (r:AV×List Blk) (h:(∃ (v1_0:Bool),Zy a=some (Bo v1_0,[])∧(if v1_0=true then (∃ (v2_0:Bool),Zm a1 0 4096=some (Bo v2_0,[])∧(if v2_0=true then (∃ (v3_0:Bool),Zm a2 0 4096=some (Bo v3_0,[])∧(if v3_0=true then (∃ (v4_0:Bool),Zm a3 0 4096=some (Bo v4_0,[])∧(if v4_0=true then (∃ (v5_0:Int),Zd7 a a1 a2 a3=some (I v5_0,[])∧(some (I v5_0,[])=some r)) else (some (I 0,[])=some r))) else (some (I 0,[])=some r))) else (some (I 0,[])=some r))) else (some (I 0,[])=some r)))):Zbc a a1 a2 a3=some r:=by
 unfold Zbc
 refine run Zt9 rfl ?_
 simp only [Zy,Zm,Zd7,Zc.c_def,mpl,dfs] at h
 try simp only [itb] at h
 try simp only [itf,List.getElem?_eq_some_iff,kk] at h
 rcases h with ⟨v1_0,q1,(⟨q2,v2_0,q3,(⟨q4,v3_0,q5,(⟨q6,v4_0,q7,(⟨q8,v5_0,q9,h⟩ | ⟨q8,h⟩)⟩ | ⟨q6,h⟩)⟩ | ⟨q4,h⟩)⟩ | ⟨q2,h⟩)⟩
 all_goals (refine Eq.trans ?_ h;clear h;simp +decide [*,kk,Zng])
end Go.Proofs.YtbapkgocloaaeaaGreat
/- part: G4 -/
namespace Go.Proofs.YtbapkgocloaaeaaGreat
open Go.AM
end Go.Proofs.YtbapkgocloaaeaaGreat
/- part: G5 -/
namespace Go.Proofs.YtbapkgocloaaeaaGreat
open Go.AM
end Go.Proofs.YtbapkgocloaaeaaGreat
/- part: G6 -/
namespace Go.Proofs.YtbapkgocloaaeaaGreat
open Go.AM
end Go.Proofs.YtbapkgocloaaeaaGreat
/- part: G7 -/
namespace Go.Proofs.YtbapkgocloaaeaaGreat
open Go.AM
end Go.Proofs.YtbapkgocloaaeaaGreat
/- part: G8 -/
namespace Go.Proofs.YtbapkgocloaaeaaGreat
open Go.AM
theorem Zv9 (a:Zf) (a1:Int) (r:AV×List Blk) (h:(if a1=1 then (some (.agg (a.Scan.c.map .t),[])=some r) else (if a1=2 then (some (.agg (a.Sort_.c.map .t),[])=some r) else (if a1=3 then (some (.agg (a.Hash.c.map .t),[])=some r) else (if a1=4 then (some (.agg (a.Merge.c.map .t),[])=some r) else (some (.agg (a.Nested.c.map .t),[])=some r)))))):Zea a a1=some r:=by
 unfold Zea
 refine run Zua rfl ?_
 try simp only [itb] at h
 try simp only [itf,List.getElem?_eq_some_iff,kk] at h
 rcases h with ⟨q1,h⟩ | ⟨q1,(⟨q2,h⟩ | ⟨q2,(⟨q3,h⟩ | ⟨q3,(⟨q4,h⟩ | ⟨q4,h⟩)⟩)⟩)⟩
 all_goals (refine Eq.trans ?_ h;clear h;simp +decide [*,kk,Znh])
theorem Zwa (a:Int) (a1:Int) (a2:Int) (r:AV×List Blk) (h:(if a1≤a then (some (Bo (decide (a≤a2)),[])=some r) else (some (Bo false,[])=some r))):Zr a a1 a2=some r:=by
 unfold Zr
 refine run Zub rfl ?_
 try simp only [itb] at h
 try simp only [itf,List.getElem?_eq_some_iff,kk] at h
 rcases h with ⟨q1,h⟩ | ⟨q1,h⟩
 all_goals (refine Eq.trans ?_ h;clear h;simp +decide [*,kk,Zni])
theorem Zwb (a:Int) (r:AV×List Blk) (h:(∃ (v1_0:Bool),Zr a (-99) 99=some (Bo v1_0,[])∧(some (Bo v1_0,[])=some r))):Zb2 a=some r:=by
 unfold Zb2
 refine run Zuc rfl ?_
 simp only [Zr,mpl,dfs] at h
 rcases h with ⟨v1_0,q1,h⟩
 all_goals (refine Eq.trans ?_ h;clear h;simp +decide [*,kk,Znj])
theorem Zpg (o:Zc) (i:Int) (r:AV×List Blk) (h:(if i<(o.Steps.length:Int) then (0≤i∧(∃ (e1:Zb),o.Steps[i.toNat]?=some e1∧(∃ (v2_0:Bool),Zr e1.From 1 8192=some (Bo v2_0,[])∧(if v2_0=true then (∃ (v3_0:Bool),Zb2 e1.Add=some (Bo v3_0,[])∧(if v3_0=true then (if 0<i then (0≤(w (i - 1))∧(∃ (e4:Zb),o.Steps[(w (i - 1)).toNat]?=some e4∧(if e1.From≤e4.From then (some (Bo false,[])=some r) else (Zcq o (w (i+1))=some r)))) else (Zcq o (w (i+1))=some r)) else (some (Bo false,[])=some r))) else (some (Bo false,[])=some r))))) else (some (Bo true,[])=some r))):Zcq o i=some r:=by
 unfold Zcq
 rw [EvL_eq Zjv.eq_1]
 simp only [Zr,Zb2,mpl,dfs] at h
 try simp only [itb] at h
 try simp only [itf,List.getElem?_eq_some_iff,kk] at h
 rcases h with ⟨q1,q2,e1,⟨g3,q3⟩,v2_0,q4,(⟨q5,v3_0,q6,(⟨q7,(⟨q8,q9,e4,⟨g10,q10⟩,(⟨q11,h⟩ | ⟨q11,h⟩)⟩ | ⟨q8,h⟩)⟩ | ⟨q7,h⟩)⟩ | ⟨q5,h⟩)⟩ | ⟨q1,h⟩
 all_goals (refine Eq.trans ?_ h;clear h;simp +decide [*,kk,Zcq,Zjw])
theorem Zwc (a:Zc) (r:AV×List Blk) (h:(∃ (v1_0:Bool),Zb2 a.Fixed=some (Bo v1_0,[])∧(if v1_0=true then (∃ (v2_0:Bool),Zb2 a.Zi=some (Bo v2_0,[])∧(if v2_0=true then (∃ (v3_0:Bool),Zb2 a.Zj=some (Bo v3_0,[])∧(if v3_0=true then (∃ (v4_0:Bool),Zb2 a.Zk=some (Bo v4_0,[])∧(if v4_0=true then (∃ (v5_0:Bool),Zb2 a.Zl=some (Bo v5_0,[])∧(if v5_0=true then (if 4<(a.Steps.length:Int) then (some (Bo false,[])=some r) else (Zcq a 0=some r)) else (some (Bo false,[])=some r))) else (some (Bo false,[])=some r))) else (some (Bo false,[])=some r))) else (some (Bo false,[])=some r))) else (some (Bo false,[])=some r)))):Zcb a=some r:=by
 unfold Zcb
 refine run Zud rfl ?_
 simp only [Zb2,mpl,dfs] at h
 try simp only [itb] at h
 try simp only [itf,List.getElem?_eq_some_iff,kk] at h
 rcases h with ⟨v1_0,q1,(⟨q2,v2_0,q3,(⟨q4,v3_0,q5,(⟨q6,v4_0,q7,(⟨q8,v5_0,q9,(⟨q10,(⟨q11,h⟩ | ⟨q11,h⟩)⟩ | ⟨q10,h⟩)⟩ | ⟨q8,h⟩)⟩ | ⟨q6,h⟩)⟩ | ⟨q4,h⟩)⟩ | ⟨q2,h⟩)⟩
 all_goals (refine Eq.trans ?_ h;clear h;simp +decide [*,kk,Znk,Zcq])
theorem Zwd (k:Int) (n:Int) (i:Int) (r:AV×List Blk) (h:(if i<k then (Zdb k (if 1<(w (n*4)) then (w (n*4)) else 1) (w (i+1))=some r) else (some (I n,[])=some r))):Zdb k n i=some r:=by
 unfold Zdb
 rw [EvL_eq Zjx.eq_1]
 try simp only [itb] at h
 try simp only [itf,List.getElem?_eq_some_iff,kk] at h
 rcases h with ⟨q1,h⟩ | ⟨q1,h⟩
 all_goals (refine Eq.trans ?_ h;clear h;simp +decide [*,kk,Zdb,Zjy])
theorem Zwe (a:Int) (r:AV×List Blk) (h:(∃ (v1_0:Bool),Zr a 0 7=some (Bo v1_0,[])∧(if v1_0=true then (Zdb a 0 0=some r) else (some (I (-1),[])=some r)))):Zb3 a=some r:=by
 unfold Zb3
 refine run Zue rfl ?_
 simp only [Zr,mpl,dfs] at h
 try simp only [itb] at h
 try simp only [itf,List.getElem?_eq_some_iff,kk] at h
 rcases h with ⟨v1_0,q1,(⟨q2,h⟩ | ⟨q2,h⟩)⟩
 all_goals (refine Eq.trans ?_ h;clear h;simp +decide [*,kk,Znl,Zdb])
theorem Zph (o:Zc) (l:Int) (r_1:Int) (n:Int) (i:Int) (r:AV×List Blk) (h:(if i<(o.Steps.length:Int) then (0≤i∧(∃ (e1:Zb),o.Steps[i.toNat]?=some e1∧(if e1.From≤(w (l+r_1)) then (Zcs o l r_1 (w (n+e1.Add)) (w (i+1))=some r) else (Zcs o l r_1 n (w (i+1))=some r)))) else (some (I n,[])=some r))):Zcs o l r_1 n i=some r:=by
 unfold Zcs
 rw [EvL_eq Zjz.eq_1]
 try simp only [itb] at h
 try simp only [itf,List.getElem?_eq_some_iff,kk] at h
 rcases h with ⟨q1,q2,e1,⟨g3,q3⟩,(⟨q4,h⟩ | ⟨q4,h⟩)⟩ | ⟨q1,h⟩
 all_goals (refine Eq.trans ?_ h;clear h;simp +decide [*,kk,Zcs,Znm,Zj0])
theorem Zwf (a:Zc) (a1:Int) (a2:Int) (a3:Int) (r:AV×List Blk) (h:(∃ (v1_0:Bool),Zcb a=some (Bo v1_0,[])∧(if v1_0=true then (∃ (v2_0:Bool),Zr a1 0 4096=some (Bo v2_0,[])∧(if v2_0=true then (∃ (v3_0:Bool),Zr a2 0 4096=some (Bo v3_0,[])∧(if v3_0=true then (∃ (v4_0:Bool),Zr a3 0 4096=some (Bo v4_0,[])∧(if v4_0=true then (Zcs a a1 a2 (w ((w ((w ((w (a.Fixed+(w (a.Zi*a1))))+(w (a.Zj*a2))))+(w (a.Zk*a3))))+(w ((w (a.Zl*a1))*a2)))) 0=some r) else (some (I 0,[])=some r))) else (some (I 0,[])=some r))) else (some (I 0,[])=some r))) else (some (I 0,[])=some r)))):Zcr a a1 a2 a3=some r:=by
 unfold Zcr
 refine run Zuf rfl ?_
 simp only [Zcb,Zr,Zc.c_def,mpl,dfs] at h
 try simp only [itb] at h
 try simp only [itf,List.getElem?_eq_some_iff,kk] at h
 rcases h with ⟨v1_0,q1,(⟨q2,v2_0,q3,(⟨q4,v3_0,q5,(⟨q6,v4_0,q7,(⟨q8,h⟩ | ⟨q8,h⟩)⟩ | ⟨q6,h⟩)⟩ | ⟨q4,h⟩)⟩ | ⟨q2,h⟩)⟩
 all_goals (refine Eq.trans ?_ h;clear h;simp +decide [*,kk,Znn,Zcs])
theorem Zwg (a:Zc) (a1:List Int) (r:AV×List Blk) (h:(∃ (e1:Int),a1[0]?=some e1∧(∃ (v2_0:Int),Zb3 e1=some (I v2_0,[])∧(∃ (e3:Int),a1[1]?=some e3∧(∃ (v4_0:Int),Zb3 e3=some (I v4_0,[])∧(∃ (e5:Int),a1[2]?=some e5∧(∃ (v6_0:Int),Zb3 e5=some (I v6_0,[])∧(∃ (v7_0:Int),Zcr a v2_0 v4_0 v6_0=some (I v7_0,[])∧(some (I v7_0,[])=some r))))))))):Zdc a a1=some r:=by
 unfold Zdc
 refine run Zug rfl ?_
 simp only [Zb3,Zcr,Zc.c_def,mpl,dfs] at h
 try simp only [itb] at h
 try simp only [itf,List.getElem?_eq_some_iff,kk] at h
 rcases h with ⟨e1,⟨g1,q1⟩,v2_0,q2,e3,⟨g3,q3⟩,v4_0,q4,e5,⟨g5,q5⟩,v6_0,q6,v7_0,q7,h⟩
 all_goals (refine Eq.trans ?_ h;clear h;simp +decide [*,kk,Zno])
theorem Zpi (o:Zc) (a:Int) (r:AV×List Blk) (h:(if a≤7 then (Zde o a 0=some r) else (some (.tup [.own 0,.own 1,Bo false],[.arr 3 1 true (([]:List Int).map ic),.arr 3 1 true (([]:List Int).map ic)])=some r))):Zdd o a=some r:=by
 unfold Zdd
 rw [EvL_eq Ze5.eq_1]
 try simp only [itb] at h
 try simp only [itf,List.getElem?_eq_some_iff,kk] at h
 rcases h with ⟨q1,h⟩ | ⟨q1,h⟩
 all_goals (refine Eq.trans ?_ h;clear h;simp +decide [*,kk,Zde,Ze6])
theorem Zpj (o:Zc) (a:Int) (b:Int) (r:AV×List Blk) (h:(if b≤7 then (Zdf o a b 0=some r) else (Zdd o (w (a+1))=some r))):Zde o a b=some r:=by
 unfold Zde
 rw [EvL_eq Zf0.eq_1]
 try simp only [itb] at h
 try simp only [itf,List.getElem?_eq_some_iff,kk] at h
 rcases h with ⟨q1,h⟩ | ⟨q1,h⟩
 all_goals (refine Eq.trans ?_ h;clear h;simp +decide [*,kk,Zdf,Zdd,Zf1])
theorem Zpk (o:Zc) (a:Int) (b:Int) (e:Int) (r:AV×List Blk) (h:(if e≤7 then (Zb4 o ([a,b,e]) a b e 0=some r) else (Zde o a (w (b+1))=some r))):Zdf o a b e=some r:=by
 unfold Zdf
 rw [EvL_eq Zhr.eq_1]
 try simp only [itb] at h
 try simp only [itf,List.getElem?_eq_some_iff,kk] at h
 rcases h with ⟨q1,h⟩ | ⟨q1,h⟩
 all_goals (refine Eq.trans ?_ h;clear h;simp +decide [*,kk,Zb4,Zde,Zhs])
theorem Zpl (o:Zc) (x:List Int) (a:Int) (b:Int) (e:Int) (k:Int) (r:AV×List Blk) (h:(if k<3 then (x.length≤68719476736∧(0≤k∧(∃ (e1:Int),x[k.toNat]?=some e1∧(if (w (e1+1))≤7 then (∃ (v2_0:Int),Zdc o (x.set k.toNat (w (e1+1)))=some (I v2_0,[])∧(∃ (v3_0:Int),Zdc o x=some (I v3_0,[])∧(if v2_0<v3_0 then (some (.tup [.own 0,.own 1,Bo true],[.arr 3 1 true (x.map ic),.arr 3 1 true ((x.set k.toNat (w (e1+1))).map ic)])=some r) else (Zb4 o x a b e (w (k+1))=some r)))) else (Zb4 o x a b e (w (k+1))=some r))))) else (Zdf o a b (w (e+1))=some r))):Zb4 o x a b e k=some r:=by
 unfold Zb4
 rw [EvL_eq Zj1.eq_1]
 simp only [Zdc,Zc.c_def,mpl,dfs] at h
 try simp only [itb] at h
 try simp only [itf,List.getElem?_eq_some_iff,kk] at h
 rcases h with ⟨q1,q2,q3,e1,⟨g4,q4⟩,(⟨q5,v2_0,q6,v3_0,q7,(⟨q8,h⟩ | ⟨q8,h⟩)⟩ | ⟨q5,h⟩)⟩ | ⟨q1,h⟩
 all_goals (refine Eq.trans ?_ h;clear h;simp +decide [*,kk,Zb4,Zdf,Zj2])
theorem Zwh (a:Zc) (r:AV×List Blk) (h:(∃ (v1_0:Bool),Zcb a=some (Bo v1_0,[])∧(if v1_0=true then (Zdd a 0=some r) else (some (.tup [.own 0,.own 1,Bo false],[.arr 3 1 true (([]:List Int).map ic),.arr 3 1 true (([]:List Int).map ic)])=some r)))):Zf2 a=some r:=by
 unfold Zf2
 refine run Zuh rfl ?_
 simp only [Zcb,Zc.c_def,mpl,dfs] at h
 try simp only [itb] at h
 try simp only [itf,List.getElem?_eq_some_iff,kk] at h
 rcases h with ⟨v1_0,q1,(⟨q2,h⟩ | ⟨q2,h⟩)⟩
 all_goals (refine Eq.trans ?_ h;clear h;simp +decide [*,kk,Znp,Zdd])
theorem Zpm (o:Zc) (a:Int) (r:AV×List Blk) (h:(if a≤7 then (Zdh o a 0=some r) else (some (.own 0,[.arr 3 1 true (([]:List Int).map ic)])=some r))):Zdg o a=some r:=by
 unfold Zdg
 rw [EvL_eq Zf3.eq_1]
 try simp only [itb] at h
 try simp only [itf,List.getElem?_eq_some_iff,kk] at h
 rcases h with ⟨q1,h⟩ | ⟨q1,h⟩
 all_goals (refine Eq.trans ?_ h;clear h;simp +decide [*,kk,Zdh,Zf4])
theorem Zpn (o:Zc) (a:Int) (b:Int) (r:AV×List Blk) (h:(if b≤7 then (Zeb o a b 0=some r) else (Zdg o (w (a+1))=some r))):Zdh o a b=some r:=by
 unfold Zdh
 rw [EvL_eq Zht.eq_1]
 try simp only [itb] at h
 try simp only [itf,List.getElem?_eq_some_iff,kk] at h
 rcases h with ⟨q1,h⟩ | ⟨q1,h⟩
 all_goals (refine Eq.trans ?_ h;clear h;simp +decide [*,kk,Zeb,Zdg,Zhu])
theorem Zle (o:Zc) (a:Int) (b:Int) (e:Int) (r:AV×List Blk) (h:(if e≤7 then (∃ (v1_0:Int),Zdc o ([a,b,e])=some (I v1_0,[])∧(if v1_0<1 then (some (.own 0,[.arr 3 1 true (([a,b,e]).map ic)])=some r) else (Zeb o a b (w (e+1))=some r))) else (Zdh o a (w (b+1))=some r))):Zeb o a b e=some r:=by
 unfold Zeb
 rw [EvL_eq Zj3.eq_1]
 simp only [Zdc,Zc.c_def,mpl,dfs] at h
 try simp only [itb] at h
 try simp only [itf,List.getElem?_eq_some_iff,kk] at h
 rcases h with ⟨q1,v1_0,q2,(⟨q3,h⟩ | ⟨q3,h⟩)⟩ | ⟨q1,h⟩
 all_goals (refine Eq.trans ?_ h;clear h;simp +decide [*,kk,Zeb,Zdh,Zj4])
theorem Zwi (a:Zc) (r:AV×List Blk) (h:(Zdg a 0=some r)):Zf5 a=some r:=by
 unfold Zf5
 refine run Zui rfl ?_
 refine Eq.trans ?_ h;clear h;simp +decide [*,kk,Znq,Zdg]
theorem Zpo (m:Zf) (k:Int) (r:AV×List Blk) (h:(if k≤5 then (∃ (v1_0:Zc),Zea m k=some (.agg (v1_0.c.map .t),[])∧(∃ (v2_0:Bool),Zcb v1_0=some (Bo v2_0,[])∧(if v2_0=true then (∃ (v3_0:List Int) (v3_1:List Int) (v3_2:Bool),Zf2 v1_0=some (.tup [.own 0,.own 1,Bo v3_2],[.arr 3 1 true (v3_0.map ic),.arr 3 1 true (v3_1.map ic)])∧(if v3_2=true then (some (.tup [I k,.own 0,.own 1],[.arr 3 1 true (v3_0.map ic),.arr 3 1 true (v3_1.map ic)])=some r) else (∃ (v4_0:List Int),Zf5 v1_0=some (.own 0,[.arr 3 1 true (v4_0.map ic)])∧(if 0<(v4_0.length:Int) then (some (.tup [I k,.own 0,.own 1],[.arr 3 1 true (v4_0.map ic),.arr 3 1 true (([]:List Int).map ic)])=some r) else (Zdi m (w (k+1))=some r))))) else (some (.tup [I k,.own 0,.own 1],[.arr 3 1 true (([]:List Int).map ic),.arr 3 1 true (([]:List Int).map ic)])=some r)))) else (some (.tup [I 0,.own 0,.own 1],[.arr 3 1 true (([]:List Int).map ic),.arr 3 1 true (([]:List Int).map ic)])=some r))):Zdi m k=some r:=by
 unfold Zdi
 rw [EvL_eq Zj5.eq_1]
 simp only [Zea,Zcb,Zf2,Zf5,Zf.c_def,Zc.c_def,mpl,dfs] at h
 try simp only [itb] at h
 try simp only [itf,List.getElem?_eq_some_iff,kk] at h
 rcases h with ⟨q1,v1_0,q2,v2_0,q3,(⟨q4,v3_0,v3_1,v3_2,q5,(⟨q6,h⟩ | ⟨q6,v4_0,q7,(⟨q8,h⟩ | ⟨q8,h⟩)⟩)⟩ | ⟨q4,h⟩)⟩ | ⟨q1,h⟩
 all_goals (refine Eq.trans ?_ h;clear h;simp +decide [*,kk,Zdi,Zj6])
theorem Zwj (a:Zf) (r:AV×List Blk) (h:(Zdi a 1=some r)):Zhv a=some r:=by
 unfold Zhv
 refine run Zuj rfl ?_
 refine Eq.trans ?_ h;clear h;simp +decide [*,kk,Znr,Zdi]
end Go.Proofs.YtbapkgocloaaeaaGreat
/- part: G9 -/
namespace Go.Proofs.YtbapkgocloaaeaaGreat
open Go.AM
theorem Zwk (a:Zf) (r:AV×List Blk) (h:(∃ (v1_0:List Int) (v1_1:List Int) (v1_2:Int),Zhv a=some (.tup [I v1_2,.own 0,.own 1],[.arr 3 1 true (v1_0.map ic),.arr 3 1 true (v1_1.map ic)])∧(some (Bo (decide (v1_2=0)),[])=some r))):Zf6 a=some r:=by
 unfold Zf6
 refine run Zuk rfl ?_
 simp only [Zhv,Zf.c_def,Zc.c_def,mpl,dfs] at h
 rcases h with ⟨v1_0,v1_1,v1_2,q1,h⟩
 all_goals (refine Eq.trans ?_ h;clear h;simp +decide [*,kk,Zns])
theorem Zwl (a:ByteArray) (r:AV×List Blk) (h:(if (a.size:Int)=1 then (∃ (b1:UInt8),a[0]?=some b1∧(if 97≤(b1.toNat:Int) then (some (Bo (decide ((b1.toNat:Int)≤122)),[])=some r) else (some (Bo false,[])=some r))) else (some (Bo false,[])=some r))):Zf7 a=some r:=by
 unfold Zf7
 refine run Zul rfl ?_
 try simp only [itb] at h
 try simp only [itf,List.getElem?_eq_some_iff,kk] at h
 rcases h with ⟨q1,b1,q2,(⟨q3,h⟩ | ⟨q3,h⟩)⟩ | ⟨q1,h⟩
 all_goals (refine Eq.trans ?_ h;clear h;simp +decide [*,kk,Znt])
theorem Zpp (l:List Int) (x:Int) (i:Int) (r:AV×List Blk) (h:(if i<(l.length:Int) then (0≤i∧(∃ (e1:Int),l[i.toNat]?=some e1∧(if e1=x then (some (Bo true,[])=some r) else (Zec l x (w (i+1))=some r)))) else (some (Bo false,[])=some r))):Zec l x i=some r:=by
 unfold Zec
 rw [EvL_eq Zj7.eq_1]
 try simp only [itb] at h
 try simp only [itf,List.getElem?_eq_some_iff,kk] at h
 rcases h with ⟨q1,q2,e1,⟨g3,q3⟩,(⟨q4,h⟩ | ⟨q4,h⟩)⟩ | ⟨q1,h⟩
 all_goals (refine Eq.trans ?_ h;clear h;simp +decide [*,kk,Zec,Zj8])
theorem Zwm (a:List Int) (a1:Int) (r:AV×List Blk) (h:(Zec a a1 0=some r)):Zf8 a a1=some r:=by
 unfold Zf8
 refine run Zum rfl ?_
 refine Eq.trans ?_ h;clear h;simp +decide [*,kk,Znu,Zec]
theorem Zpq (q:Zd) (seen:Int) (i:Int) (r:AV×List Blk) (h:(if i<(q.Atoms.length:Int) then (0≤i∧(∃ (e1:Atom),q.Atoms[i.toNat]?=some e1∧(∃ (v2_0:Bool),Zf7 e1.Name=some (Bo v2_0,[])∧(if v2_0=true then (∃ (v3_0:Bool),Zr (e1.Vars.length:Int) 1 3=some (Bo v3_0,[])∧(if v3_0=true then (Zee q e1 seen i 0=some r) else (some (Bo false,[])=some r))) else (some (Bo false,[])=some r))))) else (¬ q.Zg<0∧(some (Bo (decide (seen=(w ((shlI 1 q.Zg) - 1)))),[])=some r)))):Zdj q seen i=some r:=by
 unfold Zdj
 rw [EvL_eq Zhw.eq_1]
 simp only [Zf7,Zr,mpl,dfs] at h
 try simp only [itb] at h
 try simp only [itf,List.getElem?_eq_some_iff,kk] at h
 rcases h with ⟨q1,q2,e1,⟨g3,q3⟩,v2_0,q4,(⟨q5,v3_0,q6,(⟨q7,h⟩ | ⟨q7,h⟩)⟩ | ⟨q5,h⟩)⟩ | ⟨q1,q8,h⟩
 all_goals (refine Eq.trans ?_ h;clear h;simp +decide [*,kk,Zee,Zhx])
theorem Zpr (q:Zd) (a:Atom) (seen:Int) (i:Int) (k:Int) (r:AV×List Blk) (h:(if k<(a.Vars.length:Int) then (0≤k∧(∃ (e1:Int),a.Vars[k.toNat]?=some e1∧(∃ (v2_0:Bool),Zr e1 0 (w (q.Zg - 1))=some (Bo v2_0,[])∧(if v2_0=true then (k.toNat≤a.Vars.length∧(∃ (v3_0:Bool),Zf8 (a.Vars.take k.toNat) e1=some (Bo v3_0,[])∧(if v3_0=true then (some (Bo false,[])=some r) else (¬ e1<0∧(Zee q a (orI seen (shlI 1 e1)) i (w (k+1))=some r))))) else (some (Bo false,[])=some r))))) else (Zdj q seen (w (i+1))=some r))):Zee q a seen i k=some r:=by
 unfold Zee
 rw [EvL_eq Zj9.eq_1]
 simp only [Zr,Zf8,mpl,dfs] at h
 try simp only [itb] at h
 try simp only [itf,List.getElem?_eq_some_iff,kk] at h
 rcases h with ⟨q1,q2,e1,⟨g3,q3⟩,v2_0,q4,(⟨q5,q6,v3_0,q7,(⟨q8,h⟩ | ⟨q8,q9,h⟩)⟩ | ⟨q5,h⟩)⟩ | ⟨q1,h⟩
 all_goals (refine Eq.trans ?_ h;clear h;simp +decide [*,kk,Zee,Zdj,Zka])
theorem Zwn (a:Zd) (r:AV×List Blk) (h:(∃ (v1_0:Bool),Zr a.Zg 1 4=some (Bo v1_0,[])∧(if v1_0=true then (∃ (v2_0:Bool),Zr (a.Atoms.length:Int) 1 4=some (Bo v2_0,[])∧(if v2_0=true then (Zdj a 0 0=some r) else (some (Bo false,[])=some r))) else (some (Bo false,[])=some r)))):Zed a=some r:=by
 unfold Zed
 refine run Zun rfl ?_
 simp only [Zr,mpl,dfs] at h
 try simp only [itb] at h
 try simp only [itf,List.getElem?_eq_some_iff,kk] at h
 rcases h with ⟨v1_0,q1,(⟨q2,v2_0,q3,(⟨q4,h⟩ | ⟨q4,h⟩)⟩ | ⟨q2,h⟩)⟩
 all_goals (refine Eq.trans ?_ h;clear h;simp +decide [*,kk,Znv,Zdj])
theorem Zwo (a:Zd) (r:AV×List Blk) (h:(∃ (v1_0:Bool),Zed a=some (Bo v1_0,[])∧(if v1_0=true then (¬ (a.Atoms.length:Int)<0∧(some (I (w ((shlI 1 (a.Atoms.length:Int)) - 1)),[])=some r)) else (some (I 0,[])=some r)))):Zkb a=some r:=by
 unfold Zkb
 refine run Zuo rfl ?_
 simp only [Zed,Zd.c_def,mpl,dfs] at h
 try simp only [itb] at h
 try simp only [itf,List.getElem?_eq_some_iff,kk] at h
 rcases h with ⟨v1_0,q1,(⟨q2,q3,h⟩ | ⟨q2,h⟩)⟩
 all_goals (refine Eq.trans ?_ h;clear h;simp +decide [*,kk,Znw])
theorem Zps (q:Zd) (mask:Int) (x:Int) (i:Int) (r:AV×List Blk) (h:(if i<(q.Atoms.length:Int) then (Zdk q mask x i 0=some r) else (some (I x,[])=some r))):Zct q mask x i=some r:=by
 unfold Zct
 rw [EvL_eq Zhy.eq_1]
 try simp only [itb] at h
 try simp only [itf,List.getElem?_eq_some_iff,kk] at h
 rcases h with ⟨q1,h⟩ | ⟨q1,h⟩
 all_goals (refine Eq.trans ?_ h;clear h;simp +decide [*,kk,Zdk,Zhz])
theorem Zlf (q:Zd) (mask:Int) (x:Int) (i:Int) (k:Int) (r:AV×List Blk) (h:(0≤i∧(∃ (e1:Atom),q.Atoms[i.toNat]?=some e1∧(if k<(e1.Vars.length:Int) then (¬ i<0∧(if (andI (shrI mask i) 1)=1 then (0≤k∧(∃ (e2:Int),e1.Vars[k.toNat]?=some e2∧(¬ e2<0∧(Zdk q mask (orI x (shlI 1 e2)) i (w (k+1))=some r)))) else (Zct q mask x (w (i+1))=some r))) else (Zct q mask x (w (i+1))=some r))))):Zdk q mask x i k=some r:=by
 unfold Zdk
 rw [EvL_eq Zkc.eq_1]
 try simp only [itb] at h
 try simp only [itf,List.getElem?_eq_some_iff,kk] at h
 rcases h with ⟨q1,e1,⟨g2,q2⟩,(⟨q3,q4,(⟨q5,q6,e2,⟨g7,q7⟩,q8,h⟩ | ⟨q5,h⟩)⟩ | ⟨q3,h⟩)⟩
 all_goals (refine Eq.trans ?_ h;clear h;simp +decide [*,kk,Zdk,Zct,Zkd])
theorem Zwp (a:Zd) (a1:Int) (r:AV×List Blk) (h:(Zct a a1 0 0=some r)):Zb5 a a1=some r:=by
 unfold Zb5
 refine run Zup rfl ?_
 refine Eq.trans ?_ h;clear h;simp +decide [*,kk,Znx,Zct]
theorem Zpt (l:List Int) (i:Int) (r:AV×List Blk) (h:(if i<(l.length:Int) then (0≤i∧(∃ (e1:Int),l[i.toNat]?=some e1∧(∃ (v2_0:Bool),Zr e1 0 7=some (Bo v2_0,[])∧(if v2_0=true then (Zef l (w (i+1))=some r) else (some (Bo false,[])=some r))))) else (some (Bo (decide ((l.length:Int)≤16)),[])=some r))):Zef l i=some r:=by
 unfold Zef
 rw [EvL_eq Zke.eq_1]
 simp only [Zr,mpl,dfs] at h
 try simp only [itb] at h
 try simp only [itf,List.getElem?_eq_some_iff,kk] at h
 rcases h with ⟨q1,q2,e1,⟨g3,q3⟩,v2_0,q4,(⟨q5,h⟩ | ⟨q5,h⟩)⟩ | ⟨q1,h⟩
 all_goals (refine Eq.trans ?_ h;clear h;simp +decide [*,kk,Zef,Zkf])
theorem Zwq (a:List Int) (r:AV×List Blk) (h:(Zef a 0=some r)):Ze7 a=some r:=by
 unfold Ze7
 refine run Zuq rfl ?_
 refine Eq.trans ?_ h;clear h;simp +decide [*,kk,Zny,Zef]
theorem Zpu (a:List Int) (b:List Int) (i:Int) (r:AV×List Blk) (h:(if i<(a.length:Int) then (0≤i∧(∃ (e1:Int),a[i.toNat]?=some e1∧(∃ (e2:Int),b[i.toNat]?=some e2∧(if e1<e2 then (some (Bo false,[])=some r) else (Zeg a b (w (i+1))=some r))))) else (some (Bo true,[])=some r))):Zeg a b i=some r:=by
 unfold Zeg
 rw [EvL_eq Zkg.eq_1]
 try simp only [itb] at h
 try simp only [itf,List.getElem?_eq_some_iff,kk] at h
 rcases h with ⟨q1,q2,e1,⟨g3,q3⟩,e2,⟨g4,q4⟩,(⟨q5,h⟩ | ⟨q5,h⟩)⟩ | ⟨q1,h⟩
 all_goals (refine Eq.trans ?_ h;clear h;simp +decide [*,kk,Zeg,Zkh])
theorem Zwr (a:List Int) (a1:List Int) (r:AV×List Blk) (h:(if (a.length:Int)=(a1.length:Int) then (Zeg a a1 0=some r) else (some (Bo false,[])=some r))):Zf9 a a1=some r:=by
 unfold Zf9
 refine run Zur rfl ?_
 try simp only [itb] at h
 try simp only [itf,List.getElem?_eq_some_iff,kk] at h
 rcases h with ⟨q1,h⟩ | ⟨q1,h⟩
 all_goals (refine Eq.trans ?_ h;clear h;simp +decide [*,kk,Znz,Zeg])
theorem Zws (a:Box) (r:AV×List Blk) (h:(if 0<(a.Low.length:Int) then (∃ (v1_0:Bool),Ze7 a.Low=some (Bo v1_0,[])∧(if v1_0=true then (∃ (v2_0:Bool),Ze7 a.High=some (Bo v2_0,[])∧(if v2_0=true then (∃ (v3_0:Bool),Zf9 a.High a.Low=some (Bo v3_0,[])∧(some (Bo v3_0,[])=some r)) else (some (Bo false,[])=some r))) else (some (Bo false,[])=some r))) else (some (Bo false,[])=some r))):Zga a=some r:=by
 unfold Zga
 refine run Zus rfl ?_
 simp only [Ze7,Zf9,mpl,dfs] at h
 try simp only [itb] at h
 try simp only [itf,List.getElem?_eq_some_iff,kk] at h
 rcases h with ⟨q1,v1_0,q2,(⟨q3,v2_0,q4,(⟨q5,v3_0,q6,h⟩ | ⟨q5,h⟩)⟩ | ⟨q3,h⟩)⟩ | ⟨q1,h⟩
 all_goals (refine Eq.trans ?_ h;clear h;simp +decide [*,kk,Zn0])
theorem Zwt (a:Int) (a1:Int) (r:AV×List Blk) (h:(∃ (v1_0:Bool),Zr a1 0 3=some (Bo v1_0,[])∧(if v1_0=true then (¬ a1<0∧(some (Bo (decide ((andI (shrI a a1) 1)=1)),[])=some r)) else (some (Bo false,[])=some r)))):Zcu a a1=some r:=by
 unfold Zcu
 refine run Zut rfl ?_
 simp only [Zr,mpl,dfs] at h
 try simp only [itb] at h
 try simp only [itf,List.getElem?_eq_some_iff,kk] at h
 rcases h with ⟨v1_0,q1,(⟨q2,q3,h⟩ | ⟨q2,h⟩)⟩
 all_goals (refine Eq.trans ?_ h;clear h;simp +decide [*,kk,Zn1])
end Go.Proofs.YtbapkgocloaaeaaGreat
/- part: G10 -/
namespace Go.Proofs.YtbapkgocloaaeaaGreat
open Go.AM
theorem Zgq (q:Zd) (x:Ze) (x1:Za) (info:List Za) (stack:List Int) (n:Int) (x2:Int) (x3:Bool) (r:AV×List Blk) (h:(if x3=true then (if x.Atom=0 then (if n<2 then (some (.tup [.agg [I 0,I 0,I 0,I 0],I (-1)],[])=some r) else (0≤(w (n - 2))∧(∃ (e1:Int),stack[(w (n - 2)).toNat]?=some e1∧(0≤e1∧(∃ (e2:Za),info[e1.toNat]?=some e2∧(0≤(w (n - 1))∧(∃ (e3:Int),stack[(w (n - 1)).toNat]?=some e3∧(0≤e3∧(∃ (e4:Za),info[e3.toNat]?=some e4∧(∃ (v5_0:Int),Zb5 q e2.Mask=some (I v5_0,[])∧(∃ (v6_0:Int),Zb5 q e4.Mask=some (I v6_0,[])∧(if (andI e2.Mask e4.Mask)=0 then (if (andI v5_0 v6_0)=0 then (some (.tup [.agg [I 0,I 0,I 0,I 0],I (-1)],[])=some r) else (if x.Kind=4 then (Zdm q x x1 e2 e4 (⟨(orI e2.Mask e4.Mask),(-1),e1,e3⟩:Za) (andI v5_0 v6_0) false=some r) else (if x.Order=0 then (if x.Kind=5 then (Zei q x x1 e2 e4 (⟨(orI e2.Mask e4.Mask),e2.Order,e1,e3⟩:Za) (andI v5_0 v6_0)=some r) else (Zdm q x x1 e2 e4 (⟨(orI e2.Mask e4.Mask),(-1),e1,e3⟩:Za) (andI v5_0 v6_0) false=some r)) else (some (.tup [.agg [I 0,I 0,I 0,I 0],I (-1)],[])=some r)))) else (some (.tup [.agg [I 0,I 0,I 0,I 0],I (-1)],[])=some r))))))))))))) else (some (.tup [.agg [I 0,I 0,I 0,I 0],I (-1)],[])=some r)) else (some (.tup [.agg [I 0,I 0,I 0,I 0],I (-1)],[])=some r))):Zeh q x x1 info stack n x2 x3=some r:=by
 unfold Zeh
 rw [Ev_eq Zh0.eq_1]
 by_cases q1:x3=true
 ·rw [if_pos q1] at h
  by_cases q2:x.Atom=0
  ·rw [if_pos q2] at h
   replace q2:=eq_true q2
   by_cases q3:n<2
   ·rw [if_pos q3] at h
    refine Eq.trans ?_ h
    clear h
    simp +decide [*]
   ·rw [if_neg q3] at h
    obtain ⟨q4,h⟩:=h
    obtain ⟨e1,q5,h⟩:=h
    have gq5:=ltOfGet q5
    have kq5:=getOf q5
    obtain ⟨q6,h⟩:=h
    obtain ⟨e2,q7,h⟩:=h
    have gq7:=ltOfGet q7
    have kq7:=getOf q7
    obtain ⟨q8,h⟩:=h
    obtain ⟨e3,q9,h⟩:=h
    have gq9:=ltOfGet q9
    have kq9:=getOf q9
    obtain ⟨q10,h⟩:=h
    obtain ⟨e4,q11,h⟩:=h
    have gq11:=ltOfGet q11
    have kq11:=getOf q11
    obtain ⟨v5_0,q12,h⟩:=h
    unfold Zb5 at q12
    try simp at q12
    obtain ⟨v6_0,q13,h⟩:=h
    unfold Zb5 at q13
    try simp at q13
    by_cases q14:(andI e2.Mask e4.Mask)=0
    ·rw [if_pos q14] at h
     replace q14:=eq_true q14
     by_cases q15:(andI v5_0 v6_0)=0
     ·rw [if_pos q15] at h
      replace q15:=eq_true q15
      refine Eq.trans ?_ h
      clear h
      simp +decide [*]
     ·rw [if_neg q15] at h
      replace q15:=eq_false q15
      by_cases q16:x.Kind=4
      ·rw [if_pos q16] at h
       replace q16:=eq_true q16
       have q17:(x.Kind=5)=False:=eq_false (by intro hh;simp_all)
       refine Eq.trans ?_ h
       clear h
       simp +decide [*,Zdm]
      ·rw [if_neg q16] at h
       replace q16:=eq_false q16
       by_cases q18:x.Order=0
       ·rw [if_pos q18] at h
        replace q18:=eq_true q18
        by_cases q19:x.Kind=5
        ·rw [if_pos q19] at h
         replace q19:=eq_true q19
         refine Eq.trans ?_ h
         clear h
         simp +decide [*,Zei]
        ·rw [if_neg q19] at h
         replace q19:=eq_false q19
         refine Eq.trans ?_ h
         clear h
         simp +decide [*,Zdm]
       ·rw [if_neg q18] at h
        replace q18:=eq_false q18
        refine Eq.trans ?_ h
        clear h
        simp +decide [*]
    ·rw [if_neg q14] at h
     replace q14:=eq_false q14
     refine Eq.trans ?_ h
     clear h
     simp +decide [*]
  ·rw [if_neg q2] at h
   replace q2:=eq_false q2
   refine Eq.trans ?_ h
   clear h
   simp +decide [*]
 ·rw [if_neg q1] at h
  refine Eq.trans ?_ h
  clear h
  simp +decide [*]
theorem Zwu (x:Zd) (x1:Ze) (x2:Za) (a:Za) (b:Za) (y:Za) (v:Int) (r:AV×List Blk) (h:(if x1.Kind=4 then (∃ (v1_0:Bool),Zcu v x1.Order=some (Bo v1_0,[])∧(if v1_0=true then (if a.Order=x1.Order then (if b.Order=x1.Order then (some (.tup [.agg [I y.Mask,I x1.Order,I y.Left,I y.Right],I 2],[])=some r) else (some (.tup [.agg [I 0,I 0,I 0,I 0],I (-1)],[])=some r)) else (some (.tup [.agg [I 0,I 0,I 0,I 0],I (-1)],[])=some r)) else (some (.tup [.agg [I 0,I 0,I 0,I 0],I (-1)],[])=some r))) else (some (.tup [.agg (y.c.map .t),I 2],[])=some r))):Zei x x1 x2 a b y v=some r:=by
 unfold Zei
 rw [Ev_eq Zgb.eq_1]
 simp only [Zcu,mpl,dfs] at h
 try simp only [itb] at h
 try simp only [itf,List.getElem?_eq_some_iff,kk] at h
 rcases h with ⟨q1,v1_0,q2,(⟨q3,(⟨q4,(⟨q5,h⟩ | ⟨q5,h⟩)⟩ | ⟨q4,h⟩)⟩ | ⟨q3,h⟩)⟩ | ⟨q1,h⟩
 all_goals (refine Eq.trans ?_ h;clear h;simp +decide [*,kk,Zki])
theorem Zlg (x:Zd) (x1:Ze) (x2:Za) (a:Za) (b:Za) (y:Za) (v:Int) (x3:Bool) (r:AV×List Blk) (h:(if x1.Kind=4 then (∃ (v1_0:Bool),Zcu v x1.Order=some (Bo v1_0,[])∧(if v1_0=true then (if a.Order=x1.Order then (if b.Order=x1.Order then (some (.tup [.agg [I y.Mask,I x1.Order,I y.Left,I y.Right],I 2],[])=some r) else (some (.tup [.agg [I 0,I 0,I 0,I 0],I (-1)],[])=some r)) else (some (.tup [.agg [I 0,I 0,I 0,I 0],I (-1)],[])=some r)) else (some (.tup [.agg [I 0,I 0,I 0,I 0],I (-1)],[])=some r))) else (some (.tup [.agg (y.c.map .t),I 2],[])=some r))):Zdm x x1 x2 a b y v x3=some r:=by
 unfold Zdm
 rw [Ev_eq Zgb.eq_1]
 simp only [Zcu,mpl,dfs] at h
 try simp only [itb] at h
 try simp only [itf,List.getElem?_eq_some_iff,kk] at h
 rcases h with ⟨q1,v1_0,q2,(⟨q3,(⟨q4,(⟨q5,h⟩ | ⟨q5,h⟩)⟩ | ⟨q4,h⟩)⟩ | ⟨q3,h⟩)⟩ | ⟨q1,h⟩
 all_goals (refine Eq.trans ?_ h;clear h;simp +decide [*,kk,Zki])
theorem Zcc (a:Zd) (a1:Ze) (a2:List Za) (a3:List Int) (r:AV×List Blk) (h:(if a1.Kind=1 then (∃ (v1_0:Bool),Zr a1.Atom 0 (w ((a.Atoms.length:Int) - 1))=some (Bo v1_0,[])∧(if v1_0=true then (if a1.Order=0 then (¬ a1.Atom<0∧(0≤a1.Atom∧(∃ (e2:Atom),a.Atoms[a1.Atom.toNat]?=some e2∧(∃ (e3:Int),e2.Vars[0]?=some e3∧(some (.tup [.agg [I (shlI 1 a1.Atom),I e3,I (-1),I (-1)],I 0],[])=some r))))) else (some (.tup [.agg [I 0,I 0,I 0,I 0],I (-1)],[])=some r)) else (some (.tup [.agg [I 0,I 0,I 0,I 0],I (-1)],[])=some r))) else (if a1.Kind=2 then (if a1.Atom=0 then (if (a3.length:Int)<1 then (some (.tup [.agg [I 0,I 0,I 0,I 0],I (-1)],[])=some r) else (0≤(w ((a3.length:Int) - 1))∧(∃ (e4:Int),a3[(w ((a3.length:Int) - 1)).toNat]?=some e4∧(0≤e4∧(∃ (e5:Za),a2[e4.toNat]?=some e5∧(if e5.Order=a1.Order then (some (.tup [.agg [I 0,I 0,I 0,I 0],I (-1)],[])=some r) else (∃ (v6_0:Int),Zb5 a e5.Mask=some (I v6_0,[])∧(∃ (v7_0:Bool),Zcu v6_0 a1.Order=some (Bo v7_0,[])∧(if v7_0=true then (some (.tup [.agg [I e5.Mask,I a1.Order,I e4,I (-1)],I 1],[])=some r) else (some (.tup [.agg [I 0,I 0,I 0,I 0],I (-1)],[])=some r)))))))))) else (some (.tup [.agg [I 0,I 0,I 0,I 0],I (-1)],[])=some r)) else (if a1.Kind=3 then (Zeh a a1 (⟨0,0,0,0⟩:Za) a2 a3 (a3.length:Int) a1.Kind true=some r) else (if a1.Kind=4 then (Zeh a a1 (⟨0,0,0,0⟩:Za) a2 a3 (a3.length:Int) a1.Kind true=some r) else (if a1.Kind=5 then (if a1.Atom=0 then (if (a3.length:Int)<2 then (some (.tup [.agg [I 0,I 0,I 0,I 0],I (-1)],[])=some r) else (0≤(w ((a3.length:Int) - 2))∧(∃ (e8:Int),a3[(w ((a3.length:Int) - 2)).toNat]?=some e8∧(0≤e8∧(∃ (e9:Za),a2[e8.toNat]?=some e9∧(0≤(w ((a3.length:Int) - 1))∧(∃ (e10:Int),a3[(w ((a3.length:Int) - 1)).toNat]?=some e10∧(0≤e10∧(∃ (e11:Za),a2[e10.toNat]?=some e11∧(∃ (v12_0:Int),Zb5 a e9.Mask=some (I v12_0,[])∧(∃ (v13_0:Int),Zb5 a e11.Mask=some (I v13_0,[])∧(if (andI e9.Mask e11.Mask)=0 then (if (andI v12_0 v13_0)=0 then (some (.tup [.agg [I 0,I 0,I 0,I 0],I (-1)],[])=some r) else (if a1.Order=0 then (Zei a a1 (⟨0,0,0,0⟩:Za) e9 e11 (⟨(orI e9.Mask e11.Mask),e9.Order,e8,e10⟩:Za) (andI v12_0 v13_0)=some r) else (some (.tup [.agg [I 0,I 0,I 0,I 0],I (-1)],[])=some r))) else (some (.tup [.agg [I 0,I 0,I 0,I 0],I (-1)],[])=some r))))))))))))) else (some (.tup [.agg [I 0,I 0,I 0,I 0],I (-1)],[])=some r)) else (some (.tup [.agg [I 0,I 0,I 0,I 0],I (-1)],[])=some r))))))):Zdl a a1 a2 a3=some r:=by
 unfold Zdl
 refine run Zuu rfl ?_
 simp only [Zr,Zb5,Zcu,Zd.c_def,mpl,dfs] at h
 try simp only [itb] at h
 try simp only [itf,List.getElem?_eq_some_iff,kk] at h
 rcases h with ⟨q1,v1_0,q2,(⟨q3,(⟨q4,q5,q6,e2,⟨g7,q7⟩,e3,⟨g8,q8⟩,h⟩ | ⟨q4,h⟩)⟩ | ⟨q3,h⟩)⟩ | ⟨q1,(⟨q9,(⟨q10,(⟨q11,h⟩ | ⟨q11,q12,e4,⟨g13,q13⟩,q14,e5,⟨g15,q15⟩,(⟨q16,h⟩ | ⟨q16,v6_0,q17,v7_0,q18,(⟨q19,h⟩ | ⟨q19,h⟩)⟩)⟩)⟩ | ⟨q10,h⟩)⟩ | ⟨q9,(⟨q20,h⟩ | ⟨q20,(⟨q21,h⟩ | ⟨q21,(⟨q22,(⟨q23,(⟨q24,h⟩ | ⟨q24,q25,e8,⟨g26,q26⟩,q27,e9,⟨g28,q28⟩,q29,e10,⟨g30,q30⟩,q31,e11,⟨g32,q32⟩,v12_0,q33,v13_0,q34,(⟨q35,(⟨q36,h⟩ | ⟨q36,(⟨q37,h⟩ | ⟨q37,h⟩)⟩)⟩ | ⟨q35,h⟩)⟩)⟩ | ⟨q23,h⟩)⟩ | ⟨q22,h⟩)⟩)⟩)⟩)⟩
 all_goals (refine Eq.trans ?_ h;clear h;simp +decide [*,kk,Zn2,Zeh,Zh0,Zei])
theorem Zpv (q:Zd) (p:Plan) (info:List Za) (stack:List Int) (i:Int) (r:AV×List Blk) (h:(if i<(p.Steps.length:Int) then (0≤i∧(∃ (e1:Ze),p.Steps[i.toNat]?=some e1∧(∃ (v2_0:Za) (v2_1:Int),Zdl q e1 info stack=some (.tup [.agg (v2_0.c.map .t),I v2_1],[])∧(if v2_1<0 then (some (.tup [.own 0,Bo false],[.arr 138 4 true (([]:List Za).map Za.c)])=some r) else (info.length+1≤68719476736∧(0≤(w ((stack.length:Int) - v2_1))∧((w ((stack.length:Int) - v2_1)).toNat≤stack.length∧((w ((stack.length:Int) - v2_1)).toNat≤68719476736∧((w ((stack.length:Int) - v2_1)).toNat+1≤68719476736∧(Zek q p (info++[v2_0]) ((stack.take ((w ((stack.length:Int) - v2_1)).toNat))++[i]) (w (i+1))=some r)))))))))) else (if (stack.length:Int)=1 then (some (.tup [.own 0,Bo true],[.arr 138 4 true (info.map Za.c)])=some r) else (some (.tup [.own 0,Bo false],[.arr 138 4 true (([]:List Za).map Za.c)])=some r)))):Zek q p info stack i=some r:=by
 unfold Zek
 rw [EvL_eq Zkj.eq_1]
 simp only [Zdl,Ze.c_def,Zd.c_def,Za.c_def,mpl,dfs] at h
 try simp only [itb] at h
 try simp only [itf,List.getElem?_eq_some_iff,kk] at h
 rcases h with ⟨q1,q2,e1,⟨g3,q3⟩,v2_0,v2_1,q4,(⟨q5,h⟩ | ⟨q5,q6,q7,q8,q9,q10,h⟩)⟩ | ⟨q1,(⟨q11,h⟩ | ⟨q11,h⟩)⟩
 all_goals (refine Eq.trans ?_ h;clear h;simp +decide [*,kk,Zek,Zkk])
theorem Zwv (a:Zd) (a1:Plan) (r:AV×List Blk) (h:(∃ (v1_0:Bool),Zed a=some (Bo v1_0,[])∧(if v1_0=true then (∃ (v2_0:Bool),Zr (a1.Steps.length:Int) 1 14=some (Bo v2_0,[])∧(if v2_0=true then (Zek a a1 ([]:List Za) ([]:List Int) 0=some r) else (some (.tup [.own 0,Bo false],[.arr 138 4 true (([]:List Za).map Za.c)])=some r))) else (some (.tup [.own 0,Bo false],[.arr 138 4 true (([]:List Za).map Za.c)])=some r)))):Zej a a1=some r:=by
 unfold Zej
 refine run Zuv rfl ?_
 simp only [Zed,Zr,Zd.c_def,mpl,dfs] at h
 try simp only [itb] at h
 try simp only [itf,List.getElem?_eq_some_iff,kk] at h
 rcases h with ⟨v1_0,q1,(⟨q2,v2_0,q3,(⟨q4,h⟩ | ⟨q4,h⟩)⟩ | ⟨q2,h⟩)⟩
 all_goals (refine Eq.trans ?_ h;clear h;simp +decide [*,kk,Zn3,Zek])
theorem Zww (a:Zd) (a1:Plan) (r:AV×List Blk) (h:(∃ (v1_0:List Za) (v1_1:Bool),Zej a a1=some (.tup [.own 0,Bo v1_1],[.arr 138 4 true (v1_0.map Za.c)])∧(if v1_1=true then (0≤(w ((v1_0.length:Int) - 1))∧(∃ (e2:Za),v1_0[(w ((v1_0.length:Int) - 1)).toNat]?=some e2∧(some (I e2.Mask,[])=some r))) else (some (I 0,[])=some r)))):Zkl a a1=some r:=by
 unfold Zkl
 refine run Zuw rfl ?_
 simp only [Zej,Plan.c_def,Zd.c_def,mpl,dfs] at h
 try simp only [itb] at h
 try simp only [itf,List.getElem?_eq_some_iff,kk] at h
 rcases h with ⟨v1_0,v1_1,q1,(⟨q2,q3,e2,⟨g4,q4⟩,h⟩ | ⟨q2,h⟩)⟩
 all_goals (refine Eq.trans ?_ h;clear h;simp +decide [*,kk,Zn4])
end Go.Proofs.YtbapkgocloaaeaaGreat
/- part: G11 -/
namespace Go.Proofs.YtbapkgocloaaeaaGreat
open Go.AM
end Go.Proofs.YtbapkgocloaaeaaGreat
/- part: G12 -/
namespace Go.Proofs.YtbapkgocloaaeaaGreat
open Go.AM
theorem Zpw (b:Box) (n:Int) (x:Int) (x1:Int) (r:AV×List Blk) (h:(if x1<x then (0≤x1∧(∃ (e1:Int),b.High[x1.toNat]?=some e1∧(∃ (e2:Int),b.Low[x1.toNat]?=some e2∧(Zel b (w (n*(w ((w (e1 - e2))+1)))) x (w (x1+1))=some r)))) else (some (I n,[])=some r))):Zel b n x x1=some r:=by
 unfold Zel
 rw [EvL_eq Zkm.eq_1]
 try simp only [itb] at h
 try simp only [itf,List.getElem?_eq_some_iff,kk] at h
 rcases h with ⟨q1,q2,e1,⟨g3,q3⟩,e2,⟨g4,q4⟩,h⟩ | ⟨q1,h⟩
 all_goals (refine Eq.trans ?_ h;clear h;simp +decide [*,kk,Zel,Zkn])
theorem Zwx (a:Box) (r:AV×List Blk) (h:(Zel a 1 (a.Low.length:Int) 0=some r)):Zgc a=some r:=by
 unfold Zgc
 refine run Zux rfl ?_
 refine Eq.trans ?_ h;clear h;simp +decide [*,kk,Zn5,Zel]
theorem Zwy (a:Box) (r:AV×List Blk) (h:(∃ (v1_0:Bool),Zfu a=some (Bo v1_0,[])∧(if v1_0=true then (∃ (v2_0:Int),Zgc a=some (I v2_0,[])∧(some (I (if 401<v2_0 then 401 else v2_0),[])=some r)) else (some (I 0,[])=some r)))):Zko a=some r:=by
 unfold Zko
 refine run Zuy rfl ?_
 simp only [Zfu,Zgc,Box.c_def,mpl,dfs] at h
 try simp only [itb] at h
 try simp only [itf,List.getElem?_eq_some_iff,kk] at h
 rcases h with ⟨v1_0,q1,(⟨q2,v2_0,q3,h⟩ | ⟨q2,h⟩)⟩
 all_goals (refine Eq.trans ?_ h;clear h;simp +decide [*,kk,Zn6])
end Go.Proofs.YtbapkgocloaaeaaGreat
/- part: G13 -/
namespace Go.Proofs.YtbapkgocloaaeaaGreat
open Go.AM
theorem Zpx (b:Box) (n:Int) (i:Int) (r:AV×List Blk) (h:(if i<(b.Low.length:Int) then (0≤i∧(∃ (e1:Int),b.High[i.toNat]?=some e1∧(∃ (e2:Int),b.Low[i.toNat]?=some e2∧(Zem b (if (w (n*(w ((w (e1 - e2))+1))))<401 then (w (n*(w ((w (e1 - e2))+1)))) else 401) (w (i+1))=some r)))) else (some (I n,[])=some r))):Zem b n i=some r:=by
 unfold Zem
 rw [EvL_eq Zkp.eq_1]
 try simp only [itb] at h
 try simp only [itf,List.getElem?_eq_some_iff,kk] at h
 rcases h with ⟨q1,q2,e1,⟨g3,q3⟩,e2,⟨g4,q4⟩,h⟩ | ⟨q1,h⟩
 all_goals (refine Eq.trans ?_ h;clear h;simp +decide [*,kk,Zem,Zkq])
theorem Zwz (a:Box) (r:AV×List Blk) (h:(∃ (v1_0:Bool),Zga a=some (Bo v1_0,[])∧(if v1_0=true then (Zem a 1 0=some r) else (some (I 0,[])=some r)))):Zkr a=some r:=by
 unfold Zkr
 refine run Zuz rfl ?_
 simp only [Zga,Box.c_def,mpl,dfs] at h
 try simp only [itb] at h
 try simp only [itf,List.getElem?_eq_some_iff,kk] at h
 rcases h with ⟨v1_0,q1,(⟨q2,h⟩ | ⟨q2,h⟩)⟩
 all_goals (refine Eq.trans ?_ h;clear h;simp +decide [*,kk,Zn7,Zem])
end Go.Proofs.YtbapkgocloaaeaaGreat
/- part: G14 -/
namespace Go.Proofs.YtbapkgocloaaeaaGreat
open Go.AM
theorem Zpy (out:List Int) (x:List Ze) (x1:Int) (x2:Int) (r:AV×List Blk) (h:(if x2<x1 then (0≤x2∧(∃ (e1:Ze),x[x2.toNat]?=some e1∧(if 3≤e1.Kind then (out.length+1≤68719476736∧(Zdn (out++[x2]) x x1 (w (x2+1))=some r)) else (Zdn out x x1 (w (x2+1))=some r)))) else (some (.own 0,[.arr 3 1 true (out.map ic)])=some r))):Zdn out x x1 x2=some r:=by
 unfold Zdn
 rw [EvL_eq Zks.eq_1]
 try simp only [itb] at h
 try simp only [itf,List.getElem?_eq_some_iff,kk] at h
 rcases h with ⟨q1,q2,e1,⟨g3,q3⟩,(⟨q4,q5,h⟩ | ⟨q4,h⟩)⟩ | ⟨q1,h⟩
 all_goals (refine Eq.trans ?_ h;clear h;simp +decide [*,kk,Zdn,Zn8,Zkt])
theorem Zw0 (a:Plan) (r:AV×List Blk) (h:(Zdn ([]:List Int) a.Steps (a.Steps.length:Int) 0=some r)):Zgd a=some r:=by
 unfold Zgd
 refine run Zu0 rfl ?_
 refine Eq.trans ?_ h;clear h;simp +decide [*,kk,Zn9,Zdn]
theorem Zw1 (a:Kept) (a1:List Za) (a2:Int) (r:AV×List Blk) (h:(0≤a2∧(∃ (e1:Za),a1[a2.toNat]?=some e1∧(if a.Mask=e1.Mask then (∃ (v2_0:Bool),Zm a.Size 0 4096=some (Bo v2_0,[])∧(some (Bo v2_0,[])=some r)) else (some (Bo false,[])=some r))))):Zge a a1 a2=some r:=by
 unfold Zge
 refine run Zu1 rfl ?_
 simp only [Zm,mpl,dfs] at h
 try simp only [itb] at h
 try simp only [itf,List.getElem?_eq_some_iff,kk] at h
 rcases h with ⟨q1,e1,⟨g2,q2⟩,(⟨q3,v2_0,q4,h⟩ | ⟨q3,h⟩)⟩
 all_goals (refine Eq.trans ?_ h;clear h;simp +decide [*,kk,Zoa])
theorem Zpz (s:List Kept) (f:List Za) (f1:Int) (x:Int) (x1:Int) (r:AV×List Blk) (h:(if x1<x then (0≤x1∧(∃ (e1:Kept),s[x1.toNat]?=some e1∧(∃ (v2_0:Bool),Zge e1 f f1=some (Bo v2_0,[])∧(if v2_0=true then (some (I x1,[])=some r) else (Zen s f f1 x (w (x1+1))=some r))))) else (some (I (-1),[])=some r))):Zen s f f1 x x1=some r:=by
 unfold Zen
 rw [EvL_eq Zku.eq_1]
 simp only [Zge,Kept.c_def,Za.c_def,mpl,dfs] at h
 try simp only [itb] at h
 try simp only [itf,List.getElem?_eq_some_iff,kk] at h
 rcases h with ⟨q1,q2,e1,⟨g3,q3⟩,v2_0,q4,(⟨q5,h⟩ | ⟨q5,h⟩)⟩ | ⟨q1,h⟩
 all_goals (refine Eq.trans ?_ h;clear h;simp +decide [*,kk,Zen,Zkv])
theorem Zw2 (a:List Kept) (a1:List Za) (a2:Int) (r:AV×List Blk) (h:(Zen a a1 a2 (a.length:Int) 0=some r)):Zgf a a1 a2=some r:=by
 unfold Zgf
 refine run Zu2 rfl ?_
 refine Eq.trans ?_ h;clear h;simp +decide [*,kk,Zob,Zen]
theorem Zdr (n:Int) (c:Int) (r:AV×List Blk) (h:(∃ (v1_0:Int),Zbz c=some (I v1_0,[])∧(if n≤v1_0 then (some (I c,[])=some r) else (Zeo n (w (c+1))=some r)))):Zeo n c=some r:=by
 unfold Zeo
 rw [EvL_eq Zkw.eq_1]
 simp only [Zbz,mpl,dfs] at h
 try simp only [itb] at h
 try simp only [itf,List.getElem?_eq_some_iff,kk] at h
 rcases h with ⟨v1_0,q1,(⟨q2,h⟩ | ⟨q2,h⟩)⟩
 all_goals (refine Eq.trans ?_ h;clear h;simp +decide [*,kk,Zeo])
theorem Zw3 (a:Int) (r:AV×List Blk) (h:(∃ (v1_0:Bool),Zm a 0 4096=some (Bo v1_0,[])∧(if v1_0=true then (Zeo a 0=some r) else (some (I (-1),[])=some r)))):Zgg a=some r:=by
 unfold Zgg
 refine run Zu3 rfl ?_
 simp only [Zm,mpl,dfs] at h
 try simp only [itb] at h
 try simp only [itf,List.getElem?_eq_some_iff,kk] at h
 rcases h with ⟨v1_0,q1,(⟨q2,h⟩ | ⟨q2,h⟩)⟩
 all_goals (refine Eq.trans ?_ h;clear h;simp +decide [*,kk,Zoc,Zeo])
theorem Zw4 (a:Int) (r:AV×List Blk) (h:(∃ (v1_0:Int),Zgg a=some (I v1_0,[])∧(∃ (v2_0:Int),Zbz v1_0=some (I v2_0,[])∧(some (I v2_0,[])=some r)))):Zbd a=some r:=by
 unfold Zbd
 refine run Zu4 rfl ?_
 simp only [Zgg,Zbz,mpl,dfs] at h
 rcases h with ⟨v1_0,q1,v2_0,q2,h⟩
 all_goals (refine Eq.trans ?_ h;clear h;simp +decide [*,kk,Zod])
theorem Zw5 (a:Zf) (a1:Int) (r:AV×List Blk) (h:(∃ (v1_0:Int),Zbd a1=some (I v1_0,[])∧(if v1_0<0 then (some (I (-1),[])=some r) else (∃ (v2_0:Int),Zbc a.Scan v1_0 0 v1_0=some (I v2_0,[])∧(some (I v2_0,[])=some r))))):Zgh a a1=some r:=by
 unfold Zgh
 refine run Zu5 rfl ?_
 simp only [Zbd,Zbc,Zc.c_def,mpl,dfs] at h
 try simp only [itb] at h
 try simp only [itf,List.getElem?_eq_some_iff,kk] at h
 rcases h with ⟨v1_0,q1,(⟨q2,h⟩ | ⟨q2,v2_0,q3,h⟩)⟩
 all_goals (refine Eq.trans ?_ h;clear h;simp +decide [*,kk,Zoe])
theorem Zw6 (a:Zf) (a1:Int) (a2:Int) (r:AV×List Blk) (h:(∃ (v1_0:Bool),Zm a1 3 5=some (Bo v1_0,[])∧(if v1_0=true then (∃ (v2_0:Bool),Zm a2 0 4096=some (Bo v2_0,[])∧(if v2_0=true then (∃ (v3_0:Bool),Zd9 a=some (Bo v3_0,[])∧(if v3_0=true then (∃ (v4_0:Int),Zgh a a2=some (I v4_0,[])∧(Zc5 a=some (.bsl 1 5,[.box (a.c.map .t),.box [.ptr 0 0,.ptr 0 6,.ptr 0 12,.ptr 0 18,.ptr 0 24]])∧(if (w (a1 - 1))=0 then (∃ (v6_0:Int),Zbd a2=some (I v6_0,[])∧(∃ (v7_0:Int),Zbc a.Scan 0 0 v6_0=some (I v7_0,[])∧(some (Bo (decide (v4_0≤v7_0)),[])=some r))) else (if (w (a1 - 1))=1 then (∃ (v8_0:Int),Zbd a2=some (I v8_0,[])∧(∃ (v9_0:Int),Zbc a.Sort_ 0 0 v8_0=some (I v9_0,[])∧(some (Bo (decide (v4_0≤v9_0)),[])=some r))) else (if (w (a1 - 1))=2 then (∃ (v10_0:Int),Zbd a2=some (I v10_0,[])∧(∃ (v11_0:Int),Zbc a.Hash 0 0 v10_0=some (I v11_0,[])∧(some (Bo (decide (v4_0≤v11_0)),[])=some r))) else (if (w (a1 - 1))=3 then (∃ (v12_0:Int),Zbd a2=some (I v12_0,[])∧(∃ (v13_0:Int),Zbc a.Merge 0 0 v12_0=some (I v13_0,[])∧(some (Bo (decide (v4_0≤v13_0)),[])=some r))) else (if (w (a1 - 1))=4 then (∃ (v14_0:Int),Zbd a2=some (I v14_0,[])∧(∃ (v15_0:Int),Zbc a.Nested 0 0 v14_0=some (I v15_0,[])∧(some (Bo (decide (v4_0≤v15_0)),[])=some r))) else False))))))) else (some (Bo false,[])=some r))) else (some (Bo false,[])=some r))) else (some (Bo false,[])=some r)))):Zgi a a1 a2=some r:=by
 unfold Zgi
 refine run Zu6 rfl ?_
 obtain ⟨v1_0,q1,h⟩:=h
 unfold Zm at q1
 try simp at q1
 by_cases q2:v1_0=true
 ·rw [if_pos q2] at h
  obtain ⟨v2_0,q3,h⟩:=h
  unfold Zm at q3
  try simp at q3
  by_cases q4:v2_0=true
  ·rw [if_pos q4] at h
   obtain ⟨v3_0,q5,h⟩:=h
   unfold Zd9 at q5
   try simp at q5
   by_cases q6:v3_0=true
   ·rw [if_pos q6] at h
    obtain ⟨v4_0,q7,h⟩:=h
    unfold Zgh at q7
    try simp at q7
    obtain ⟨q8,h⟩:=h
    unfold Zc5 at q8
    try simp at q8
    by_cases q9:(w (a1 - 1))=0
    ·rw [if_pos q9] at h
     obtain ⟨v6_0,q10,h⟩:=h
     unfold Zbd at q10
     try simp at q10
     obtain ⟨v7_0,q11,h⟩:=h
     unfold Zbc at q11
     try simp at q11
     refine Eq.trans ?_ h
     clear h
     simp +decide [*,Zcv]
    ·rw [if_neg q9] at h
     replace q9:=eq_false q9
     by_cases q12:(w (a1 - 1))=1
     ·rw [if_pos q12] at h
      obtain ⟨v8_0,q13,h⟩:=h
      unfold Zbd at q13
      try simp at q13
      obtain ⟨v9_0,q14,h⟩:=h
      unfold Zbc at q14
      try simp at q14
      refine Eq.trans ?_ h
      clear h
      simp +decide [*,Zcv]
     ·rw [if_neg q12] at h
      replace q12:=eq_false q12
      by_cases q15:(w (a1 - 1))=2
      ·rw [if_pos q15] at h
       obtain ⟨v10_0,q16,h⟩:=h
       unfold Zbd at q16
       try simp at q16
       obtain ⟨v11_0,q17,h⟩:=h
       unfold Zbc at q17
       try simp at q17
       refine Eq.trans ?_ h
       clear h
       simp +decide [*,Zcv]
      ·rw [if_neg q15] at h
       replace q15:=eq_false q15
       by_cases q18:(w (a1 - 1))=3
       ·rw [if_pos q18] at h
        obtain ⟨v12_0,q19,h⟩:=h
        unfold Zbd at q19
        try simp at q19
        obtain ⟨v13_0,q20,h⟩:=h
        unfold Zbc at q20
        try simp at q20
        refine Eq.trans ?_ h
        clear h
        simp +decide [*,Zcv]
       ·rw [if_neg q18] at h
        replace q18:=eq_false q18
        by_cases q21:(w (a1 - 1))=4
        ·rw [if_pos q21] at h
         obtain ⟨v14_0,q22,h⟩:=h
         unfold Zbd at q22
         try simp at q22
         obtain ⟨v15_0,q23,h⟩:=h
         unfold Zbc at q23
         try simp at q23
         refine Eq.trans ?_ h
         clear h
         simp +decide [*,Zcv]
        ·rw [if_neg q21] at h
         replace q21:=eq_false q21
         cases h
   ·rw [if_neg q6] at h
    refine Eq.trans ?_ h
    clear h
    simp +decide [*,Zcv]
  ·rw [if_neg q4] at h
   refine Eq.trans ?_ h
   clear h
   simp +decide [*,Zcv]
 ·rw [if_neg q2] at h
  refine Eq.trans ?_ h
  clear h
  simp +decide [*,Zcv]
theorem Zw7 (info:List Za) (step:Int) (r:AV×List Blk) (h:(0≤step∧(∃ (e1:Za),info[step.toNat]?=some e1∧(if 0≤e1.Left then (Zep info e1.Left=some r) else (some (I step,[])=some r))))):Zep info step=some r:=by
 unfold Zep
 rw [EvL_eq Zkx.eq_1]
 try simp only [itb] at h
 try simp only [itf,List.getElem?_eq_some_iff,kk] at h
 rcases h with ⟨q1,e1,⟨g2,q2⟩,(⟨q3,h⟩ | ⟨q3,h⟩)⟩
 all_goals (refine Eq.trans ?_ h;clear h;simp +decide [*,kk,Zep,Zky])
theorem Zw8 (a:List Za) (a1:Int) (r:AV×List Blk) (h:(Zep a a1=some r)):Zgj a a1=some r:=by
 unfold Zgj
 refine run Zu7 rfl ?_
 refine Eq.trans ?_ h;clear h;simp +decide [*,kk,Zof,Zep]
end Go.Proofs.YtbapkgocloaaeaaGreat
/- part: G15 -/
namespace Go.Proofs.YtbapkgocloaaeaaGreat
open Go.AM
theorem Zw9 (a:List Za) (a1:Int) (a2:Int) (r:AV×List Blk) (h:(if a1<a2 then (∃ (v1_0:Int),Zgj a a2=some (I v1_0,[])∧(some (Bo (decide (v1_0≤a1)),[])=some r)) else (some (Bo false,[])=some r))):Zgk a a1 a2=some r:=by
 unfold Zgk
 refine run Zu8 rfl ?_
 simp only [Zgj,Za.c_def,mpl,dfs] at h
 try simp only [itb] at h
 try simp only [itf,List.getElem?_eq_some_iff,kk] at h
 rcases h with ⟨q1,v1_0,q2,h⟩ | ⟨q1,h⟩
 all_goals (refine Eq.trans ?_ h;clear h;simp +decide [*,kk,Zog])
theorem Zxa (a:Int) (a1:List Za) (a2:Int) (r:AV×List Blk) (h:(∃ (v1_0:Bool),Zgk a1 a2 a=some (Bo v1_0,[])∧(some (Bo v1_0,[])=some r))):Zh1 a a1 a2=some r:=by
 unfold Zh1
 refine run Zu9 rfl ?_
 simp only [Zgk,Za.c_def,mpl,dfs] at h
 rcases h with ⟨v1_0,q1,h⟩
 all_goals (refine Eq.trans ?_ h;clear h;simp +decide [*,kk,Zoh])
theorem Zp0 (s:List Int) (f:List Za) (f1:Int) (x:Int) (x1:Int) (r:AV×List Blk) (h:(if x1<x then (0≤x1∧(∃ (e1:Int),s[x1.toNat]?=some e1∧(∃ (v2_0:Bool),Zh1 e1 f f1=some (Bo v2_0,[])∧(if v2_0=true then (some (I x1,[])=some r) else (Zeq s f f1 x (w (x1+1))=some r))))) else (some (I (-1),[])=some r))):Zeq s f f1 x x1=some r:=by
 unfold Zeq
 rw [EvL_eq Zkz.eq_1]
 simp only [Zh1,Za.c_def,mpl,dfs] at h
 try simp only [itb] at h
 try simp only [itf,List.getElem?_eq_some_iff,kk] at h
 rcases h with ⟨q1,q2,e1,⟨g3,q3⟩,v2_0,q4,(⟨q5,h⟩ | ⟨q5,h⟩)⟩ | ⟨q1,h⟩
 all_goals (refine Eq.trans ?_ h;clear h;simp +decide [*,kk,Zeq,Zk0])
theorem Zxb (a:List Int) (a1:List Za) (a2:Int) (r:AV×List Blk) (h:(Zeq a a1 a2 (a.length:Int) 0=some r)):Zh2 a a1 a2=some r:=by
 unfold Zh2
 refine run Zva rfl ?_
 refine Eq.trans ?_ h;clear h;simp +decide [*,kk,Zoi,Zeq]
theorem Zxc (a:List Int) (a1:List Za) (a2:Int) (r:AV×List Blk) (h:(∃ (v1_0:Int),Zh2 a a1 a2=some (I v1_0,[])∧(some (Bo (decide (0≤v1_0)),[])=some r))):Zgl a a1 a2=some r:=by
 unfold Zgl
 refine run Zvb rfl ?_
 simp only [Zh2,Za.c_def,mpl,dfs] at h
 rcases h with ⟨v1_0,q1,h⟩
 all_goals (refine Eq.trans ?_ h;clear h;simp +decide [*,kk,Zoj])
theorem Zp1 (m:Zf) (p:Plan) (x:List Za) (readable:List Int) (x1:List Int) (kept:List Kept) (x2:Int) (x3:Int) (r:AV×List Blk) (h:(if x3<x2 then (0≤x3∧(∃ (e1:Int),x1[x3.toNat]?=some e1∧(∃ (v2_0:Int),Zgf kept x e1=some (I v2_0,[])∧(if 0≤v2_0 then (0≤e1∧(∃ (e3:Ze),p.Steps[e1.toNat]?=some e3∧(∃ (e4:Kept),kept[v2_0.toNat]?=some e4∧(∃ (v5_0:Bool),Zgi m e3.Kind e4.Size=some (Bo v5_0,[])∧(if v5_0=true then (readable.length+1≤68719476736∧(Zcw m p x (readable++[e1]) x1 kept x2 (w (x3+1))=some r)) else (Zcw m p x readable x1 kept x2 (w (x3+1))=some r)))))) else (Zcw m p x readable x1 kept x2 (w (x3+1))=some r))))) else (Zcx x readable ([]:List Int) (readable.length:Int) 0=some r))):Zcw m p x readable x1 kept x2 x3=some r:=by
 unfold Zcw
 rw [EvL_eq Zk1.eq_1]
 simp only [Zgf,Zgi,Kept.c_def,Zf.c_def,Zc.c_def,Za.c_def,mpl,dfs] at h
 try simp only [itb] at h
 try simp only [itf,List.getElem?_eq_some_iff,kk] at h
 rcases h with ⟨q1,q2,e1,⟨g3,q3⟩,v2_0,q4,(⟨q5,q6,e3,⟨g7,q7⟩,e4,⟨g8,q8⟩,v5_0,q9,(⟨q10,q11,h⟩ | ⟨q10,h⟩)⟩ | ⟨q5,h⟩)⟩ | ⟨q1,h⟩
 all_goals (refine Eq.trans ?_ h;clear h;simp +decide [*,kk,Zcw,Zok,Zcx,Zk4])
theorem Zp2 (x:List Za) (readable:List Int) (out:List Int) (x1:Int) (x2:Int) (r:AV×List Blk) (h:(if x2<x1 then (0≤x2∧(∃ (e1:Int),readable[x2.toNat]?=some e1∧(∃ (v2_0:Bool),Zgl readable x e1=some (Bo v2_0,[])∧(if v2_0=true then (Zcx x readable out x1 (w (x2+1))=some r) else (out.length+1≤68719476736∧(Zcx x readable (out++[e1]) x1 (w (x2+1))=some r)))))) else (some (.own 0,[.arr 3 1 true (out.map ic)])=some r))):Zcx x readable out x1 x2=some r:=by
 unfold Zcx
 rw [EvL_eq Zk2.eq_1]
 simp only [Zgl,Za.c_def,mpl,dfs] at h
 try simp only [itb] at h
 try simp only [itf,List.getElem?_eq_some_iff,kk] at h
 rcases h with ⟨q1,q2,e1,⟨g3,q3⟩,v2_0,q4,(⟨q5,h⟩ | ⟨q5,q6,h⟩)⟩ | ⟨q1,h⟩
 all_goals (refine Eq.trans ?_ h;clear h;simp +decide [*,kk,Zcx,Zol,Zk3])
theorem Zxd (a:Zf) (a1:Zd) (a2:Plan) (a3:List Kept) (r:AV×List Blk) (h:((Zch a1 a2=some (.tup [.t .nil,Bo false],[])∧(some (.t .nil,[])=some r))∨(∃ (v2_0:List Za),Zch a1 a2=some (.tup [.own 0,Bo true],[.arr 138 4 true (v2_0.map Za.c)])∧(∃ (v3_0:Bool),Zd9 a=some (Bo v3_0,[])∧(if v3_0=true then (∃ (v4_0:List Int),Zgd a2=some (.own 0,[.arr 3 1 true (v4_0.map ic)])∧(Zcw a a2 v2_0 ([]:List Int) v4_0 a3 (v4_0.length:Int) 0=some r)) else (some (.t .nil,[])=some r)))))):Zh3 a a1 a2 a3=some r:=by
 unfold Zh3
 refine run Zvc rfl ?_
 simp only [Zch,Zd9,Zgd,Zf.c_def,Zc.c_def,Plan.c_def,Zd.c_def,mpl,dfs] at h
 try simp only [itb] at h
 try simp only [itf,List.getElem?_eq_some_iff,kk] at h
 rcases h with ⟨q2,h⟩ | ⟨v2_0,q3,v3_0,q4,(⟨q5,v4_0,q6,h⟩ | ⟨q5,h⟩)⟩
 all_goals (refine Eq.trans ?_ h;clear h;simp +decide [*,kk,Zom,Zcw])
theorem Zp3 (l:List Kept) (mask:Int) (i:Int) (r:AV×List Blk) (h:(if i<(l.length:Int) then (0≤i∧(∃ (e1:Kept),l[i.toNat]?=some e1∧(if e1.Mask=mask then (∃ (v2_0:Bool),Zr e1.Size 0 4096=some (Bo v2_0,[])∧(if v2_0=true then (some (I e1.Size,[])=some r) else (Zdo l mask (w (i+1))=some r))) else (Zdo l mask (w (i+1))=some r)))) else (some (I (-1),[])=some r))):Zdo l mask i=some r:=by
 unfold Zdo
 rw [EvL_eq Zk5.eq_1]
 simp only [Zr,mpl,dfs] at h
 try simp only [itb] at h
 try simp only [itf,List.getElem?_eq_some_iff,kk] at h
 rcases h with ⟨q1,q2,e1,⟨g3,q3⟩,(⟨q4,v2_0,q5,(⟨q6,h⟩ | ⟨q6,h⟩)⟩ | ⟨q4,h⟩)⟩ | ⟨q1,h⟩
 all_goals (refine Eq.trans ?_ h;clear h;simp +decide [*,kk,Zdo,Zk6])
theorem Zxe (a:List Kept) (a1:Int) (r:AV×List Blk) (h:(Zdo a a1 0=some r)):Zgm a a1=some r:=by
 unfold Zgm
 refine run Zvd rfl ?_
 refine Eq.trans ?_ h;clear h;simp +decide [*,kk,Zon,Zdo]
theorem Zds (n:Int) (k:Int) (r:AV×List Blk) (h:(if k≤7 then (∃ (v1_0:Int),Zb3 k=some (I v1_0,[])∧(if n≤v1_0 then (some (I k,[])=some r) else (Zer n (w (k+1))=some r))) else (some (I (-1),[])=some r))):Zer n k=some r:=by
 unfold Zer
 rw [EvL_eq Zk7.eq_1]
 simp only [Zb3,mpl,dfs] at h
 try simp only [itb] at h
 try simp only [itf,List.getElem?_eq_some_iff,kk] at h
 rcases h with ⟨q1,v1_0,q2,(⟨q3,h⟩ | ⟨q3,h⟩)⟩ | ⟨q1,h⟩
 all_goals (refine Eq.trans ?_ h;clear h;simp +decide [*,kk,Zer,Zk8])
theorem Zxf (a:Int) (r:AV×List Blk) (h:(if a<0 then (some (I (-1),[])=some r) else (Zer a 0=some r))):Zgn a=some r:=by
 unfold Zgn
 refine run Zve rfl ?_
 try simp only [itb] at h
 try simp only [itf,List.getElem?_eq_some_iff,kk] at h
 rcases h with ⟨q1,h⟩ | ⟨q1,h⟩
 all_goals (refine Eq.trans ?_ h;clear h;simp +decide [*,kk,Zoo,Zer])
theorem Zxg (a:Int) (r:AV×List Blk) (h:(∃ (v1_0:Int),Zgn a=some (I v1_0,[])∧(∃ (v2_0:Int),Zb3 v1_0=some (I v2_0,[])∧(some (I v2_0,[])=some r)))):Zes a=some r:=by
 unfold Zes
 refine run Zvf rfl ?_
 simp only [Zgn,Zb3,mpl,dfs] at h
 rcases h with ⟨v1_0,q1,v2_0,q2,h⟩
 all_goals (refine Eq.trans ?_ h;clear h;simp +decide [*,kk,Zop])
theorem Zxh (a:Zf) (a1:Int) (r:AV×List Blk) (h:(∃ (v1_0:Bool),Zr a1 0 4096=some (Bo v1_0,[])∧(if v1_0=true then (∃ (v2_0:Int),Zes a1=some (I v2_0,[])∧(∃ (v3_0:Int),Zcr a.Scan v2_0 0 v2_0=some (I v3_0,[])∧(some (I v3_0,[])=some r))) else (some (I (-1),[])=some r)))):Zgo a a1=some r:=by
 unfold Zgo
 refine run Zvg rfl ?_
 simp only [Zr,Zes,Zcr,Zc.c_def,mpl,dfs] at h
 try simp only [itb] at h
 try simp only [itf,List.getElem?_eq_some_iff,kk] at h
 rcases h with ⟨v1_0,q1,(⟨q2,v2_0,q3,v3_0,q4,h⟩ | ⟨q2,h⟩)⟩
 all_goals (refine Eq.trans ?_ h;clear h;simp +decide [*,kk,Zoq])
theorem Zxi (info:List Za) (i:Int) (r:AV×List Blk) (h:(0≤i∧(∃ (e1:Za),info[i.toNat]?=some e1∧(if 0≤e1.Left then (Zet info e1.Left=some r) else (some (I i,[])=some r))))):Zet info i=some r:=by
 unfold Zet
 rw [EvL_eq Zk9.eq_1]
 try simp only [itb] at h
 try simp only [itf,List.getElem?_eq_some_iff,kk] at h
 rcases h with ⟨q1,e1,⟨g2,q2⟩,(⟨q3,h⟩ | ⟨q3,h⟩)⟩
 all_goals (refine Eq.trans ?_ h;clear h;simp +decide [*,kk,Zet,Zla])
theorem Zxj (a:List Za) (a1:Int) (r:AV×List Blk) (h:(Zet a a1=some r)):Zgp a a1=some r:=by
 unfold Zgp
 refine run Zvh rfl ?_
 refine Eq.trans ?_ h;clear h;simp +decide [*,kk,Zor,Zet]
theorem Zp4 (m:Zf) (p:Plan) (out:List Int) (info:List Za) (kept:List Kept) (i:Int) (r:AV×List Blk) (h:(if i<(info.length:Int) then (0≤i∧(∃ (e1:Za),info[i.toNat]?=some e1∧(∃ (v2_0:Int),Zgm kept e1.Mask=some (I v2_0,[])∧(if e1.Right<0 then (Zbq m p out info kept (w (i+1))=some r) else (if v2_0<0 then (Zbq m p out info kept (w (i+1))=some r) else (∃ (v3_0:Int),Zgo m v2_0=some (I v3_0,[])∧(∃ (e4:Ze),p.Steps[i.toNat]?=some e4∧(∃ (v5_0:Zc),Zea m e4.Kind=some (.agg (v5_0.c.map .t),[])∧(∃ (v6_0:Int),Zes v2_0=some (I v6_0,[])∧(∃ (v7_0:Int),Zcr v5_0 0 0 v6_0=some (I v7_0,[])∧(if v7_0<v3_0 then (Zbq m p out info kept (w (i+1))=some r) else (∃ (v8_0:Int),Zgp info i=some (I v8_0,[])∧(Zdp m p out info ([]:List Int) kept i v8_0 0=some r))))))))))))) else (some (.own 0,[.arr 3 1 true (out.map ic)])=some r))):Zbq m p out info kept i=some r:=by
 unfold Zbq
 rw [EvL_eq Zh5.eq_1]
 simp only [Zgm,Zgo,Zea,Zes,Zcr,Zgp,Kept.c_def,Zf.c_def,Zc.c_def,Za.c_def,mpl,dfs] at h
 try simp only [itb] at h
 try simp only [itf,List.getElem?_eq_some_iff,kk] at h
 rcases h with ⟨q1,q2,e1,⟨g3,q3⟩,v2_0,q4,(⟨q5,h⟩ | ⟨q5,(⟨q6,h⟩ | ⟨q6,v3_0,q7,e4,⟨g8,q8⟩,v5_0,q9,v6_0,q10,v7_0,q11,(⟨q12,h⟩ | ⟨q12,v8_0,q13,h⟩)⟩)⟩)⟩ | ⟨q1,h⟩
 all_goals (refine Eq.trans ?_ h;clear h;simp +decide [*,kk,Zbq,Zh4,Zdp,Zh6])
theorem Zp5 (m:Zf) (p:Plan) (out:List Int) (info:List Za) (next:List Int) (kept:List Kept) (i:Int) (first:Int) (k:Int) (r:AV×List Blk) (h:(if k<(out.length:Int) then (0≤k∧(∃ (e1:Int),out[k.toNat]?=some e1∧(if e1<first then (next.length+1≤68719476736∧(Zdp m p out info (next++[e1]) kept i first (w (k+1))=some r)) else (Zdp m p out info next kept i first (w (k+1))=some r)))) else (next.length+1≤68719476736∧(Zbq m p (next++[i]) info kept (w (i+1))=some r)))):Zdp m p out info next kept i first k=some r:=by
 unfold Zdp
 rw [EvL_eq Zlb.eq_1]
 try simp only [itb] at h
 try simp only [itf,List.getElem?_eq_some_iff,kk] at h
 rcases h with ⟨q1,q2,e1,⟨g3,q3⟩,(⟨q4,q5,h⟩ | ⟨q4,h⟩)⟩ | ⟨q1,q6,h⟩
 all_goals (refine Eq.trans ?_ h;clear h;simp +decide [*,kk,Zdp,Zos,Zbq,Zh4,Zlc])
theorem Zxk (a:Zf) (a1:Zd) (a2:Plan) (a3:List Kept) (r:AV×List Blk) (h:(∃ (v1_0:List Za) (v1_1:Bool),Zej a1 a2=some (.tup [.own 0,Bo v1_1],[.arr 138 4 true (v1_0.map Za.c)])∧(if v1_1=true then (∃ (v2_0:Bool),Zf6 a=some (Bo v2_0,[])∧(if v2_0=true then (Zbq a a2 ([]:List Int) v1_0 a3 0=some r) else (some (.own 0,[.arr 3 1 true (([]:List Int).map ic)])=some r))) else (some (.own 0,[.arr 3 1 true (([]:List Int).map ic)])=some r)))):Zh7 a a1 a2 a3=some r:=by
 unfold Zh7
 refine run Zvi rfl ?_
 simp only [Zej,Zf6,Zf.c_def,Zc.c_def,Plan.c_def,Zd.c_def,mpl,dfs] at h
 try simp only [itb] at h
 try simp only [itf,List.getElem?_eq_some_iff,kk] at h
 rcases h with ⟨v1_0,v1_1,q1,(⟨q2,v2_0,q3,(⟨q4,h⟩ | ⟨q4,h⟩)⟩ | ⟨q2,h⟩)⟩
 all_goals (refine Eq.trans ?_ h;clear h;simp +decide [*,kk,Zot,Zbq])
end Go.Proofs.YtbapkgocloaaeaaGreat
/- part: V1 -/
namespace Go.Proofs.YtbapkgocloaaeaaGreat
open Go.AM
@[simp] theorem Zbr (a b c:Int):Zm a b c=some (Bo (inR a b c),[]):=by
 refine Zvj _ _ _ _ ?_
 by_cases h:b≤a <;> simp [inR,h]
@[simp] theorem Zfa (a b c:Int):Zr a b c=some (Bo (inR a b c),[]):=by
 refine Zwa _ _ _ _ ?_
 by_cases h:b≤a <;> simp [inR,h]
theorem lIndexI (xs:List Int) (v:Int) (hx:Le xs):∀ i,i≤xs.length →
  Zdz xs v xs.length i=some (I (Z0 (fun x=>decide (v=x)) (xs.drop i) i),[]):=by
 refine down _ ?_ ?_
 ·refine Zou _ _ _ _ _ ?_
  simp [Z0]
 ·intro i hi ih
  refine Zou _ _ _ _ _ ?_
  have h4:=inc64 (i:=i) (by omega)
  rw [Zg8 _ hi]
  simp at ih
  by_cases e:v=xs[i] <;> simp [hi,h4,e,ih]
@[simp] theorem xIndexI (xs:List Int) (v:Int) (hx:Le xs):Zfq xs v=some (I (Z0 (fun x=>decide (v=x)) xs 0),[]):=by
 refine Zvl _ _ _ ?_
 have:=lIndexI xs v hx 0 (Nat.zero_le _)
 simpa using this
@[simp] theorem Zgr (xs:List Int) (v:Int) (hx:Le xs):Zbp xs v=some (Bo (has xs v),[]):=by
 refine Zvm _ _ _ ?_
 unfold has
 rcases tf (xs.any (fun x=>decide (v=x))) with e | e
 ·simp [hx,Ziw _ _ _ e,e]
 ·have:=Zix _ _ 0 e
  simp [hx,this,e]
theorem lIndexB (xs:List Bool) (v:Bool) (hx:Le xs):∀ i,i≤xs.length →
  Zd0 xs v xs.length i=some (I (Z0 (fun x=>v == x) (xs.drop i) i),[]):=by
 refine down _ ?_ ?_
 ·refine Zov _ _ _ _ _ ?_
  simp [Z0]
 ·intro i hi ih
  refine Zov _ _ _ _ _ ?_
  have h4:=inc64 (i:=i) (by omega)
  rw [Zg8 _ hi]
  simp at ih
  by_cases e:v=xs[i] <;> simp [hi,h4,e,ih]
@[simp] theorem Zxl (xs:List Bool) (v:Bool) (hx:Le xs):Zfs xs v=some (Bo (xs.any (fun x=>v == x)),[]):=by
 refine Zvo _ _ _ ?_
 have q:Zfr xs v=some (I (Z0 (fun x=>v == x) xs 0),[]):=by
  refine Zvn _ _ _ ?_
  have:=lIndexB xs v hx 0 (Nat.zero_le _)
  simpa using this
 rcases tf (xs.any (fun x=>v == x)) with e | e
 ·rw [Ziw _ _ _ e] at q
  rw [e];simp [q]
 ·have:=Zix _ _ 0 e
  rw [e];simp [q,this]
theorem l_l7Has (xs:List Int) (v:Int) (hx:Le xs):∀ i,i≤xs.length→Zec xs v i=some (Bo (has (xs.drop i) v),[]):=by
 unfold has
 refine down _ ?_ ?_
 ·refine Zpp _ _ _ _ ?_
  simp
 ·intro i hi ih
  refine Zpp _ _ _ _ ?_
  have h4:=inc64 (i:=i) (by omega)
  rw [drop_any _ hi]
  simp at ih
  by_cases e:v=xs[i]
  ·simp [hi,h4,← e]
  ·have e':¬ xs[i]=v:=fun hc=>e hc.symm
   simp [hi,h4,e,e',ih]
@[simp] theorem x_l7Has (xs:List Int) (v:Int) (hx:Le xs):Zf8 xs v=some (Bo (has xs v),[]):=by
 refine Zwm _ _ _ ?_
 have:=l_l7Has xs v hx 0 (Nat.zero_le _)
 simpa using this
theorem nm_aux (s:ByteArray) (P:Prop):(if (s.size:Int)=1 then (∃ (b1:UInt8),s[0]?=some b1∧(if 97≤(b1.toNat:Int) then (some (Bo (decide ((b1.toNat:Int)≤122)),[])=some (Bo (nmOk s),([]:List Blk))) else (some (Bo false,[])=some (Bo (nmOk s),([]:List Blk))))) else (some (Bo false,[])=some (Bo (nmOk s),([]:List Blk)))):=by
 by_cases h:s.size=1
 ·obtain ⟨b,hb⟩:=get0 h
  rw [if_pos (by omega)]
  refine ⟨b,hb,?_⟩
  have e:nmOk s=(decide (97≤(b.toNat:Int)) && decide ((b.toNat:Int)≤122)):=by
   unfold nmOk;rw [hb];simp only [h,decide_true,Bool.true_and]
  by_cases h1:(97:Int)≤(b.toNat:Int)
  ·rw [if_pos h1,e,decide_eq_true h1,Bool.true_and]
  ·rw [if_neg h1,e,decide_eq_false h1,Bool.false_and]
 ·have h':¬ (s.size:Int)=1:=by omega
  have:nmOk s=false:=by unfold nmOk;split <;> simp [h]
  simp [h',this]
@[simp] theorem x_nameOk (s:ByteArray):Zfp s=some (Bo (nmOk s),[]):=Zvk _ _ (nm_aux s True)
@[simp] theorem x_l4Name (s:ByteArray):Zf7 s=some (Bo (nmOk s),[]):=Zwl _ _ (nm_aux s True)
def LeQ (q:Zd):Prop:=Le q.Atoms∧∀ a∈q.Atoms,Le a.Vars
def blB (p:Nat→Bool) (n:Nat):List Bool:=(List.range n).map p
theorem blB_set (p:Nat→Bool) (n:Nat) {v:Int} (h:inR v 0 ((n:Int) - 1)=true):(blB p n).set v.toNat true=blB (addV p [v]) n:=by
 simp [inR] at h
 apply List.ext_getElem
 ·simp [blB]
 ·intro i h1 h2
  simp only [blB,List.length_set,List.length_map,List.length_range] at h1
  rw [List.getElem_set]
  simp only [blB,List.getElem_map,List.getElem_range]
  by_cases e:v.toNat=i
  ·have:(i:Int)=v:=by omega
   simp [e,addV,has,this]
  ·have:¬ (i:Int)=v:=by omega
   simp [e,addV,has,this]
theorem Zxm (q:Zd) (n:Nat) (hn:n≤4) (hq:q.Zg=n) (a:Atom) (qa:List Atom) (l j:Int) (hv:Le a.Vars) (r:AV×List Blk):∀ k,k≤a.Vars.length→∀ p,
  (if Zbk n (a.Vars.take k) (a.Vars.drop k)=true then Zc2 q (blB (addV p (a.Vars.drop k)) n) qa l (w (j+1))=some r else some (Bo false,[])=some r) →
  Zd2 q (blB p n) a qa l j a.Vars a.Vars.length k=some r:=by
 refine down _ ?_ ?_
 ·intro p h
  refine Zox _ _ _ _ _ _ _ _ _ _ ?_
  simpa [Zbk,Ziu] using h
 ·intro k hk ih p h
  have h4:=inc64 (i:=k) (by omega)
  have hw:w (q.Zg - 1)=(n:Int) - 1:=by rw [hq];exact wrap64 (by omega) (by omega)
  have hl:=Zgr (a.Vars.take k) a.Vars[k] (by simp;omega)
  refine Zox _ _ _ _ _ _ _ _ _ _ ?_
  rw [Zl4 _ hk] at h
  rcases tf (inR a.Vars[k] 0 ((n:Int) - 1)) with e1 | e1
  ·simp [e1] at h
   simp [hk,h4,hw,e1,← h]
  ·rcases tf (has (a.Vars.take k) a.Vars[k]) with e2 | e2
   ·rw [Ziv p hk] at h
    simp only [e1,e2,Bool.true_and,Bool.not_false] at h
    have ih:=ih _ h
    have e0:=e1
    simp [inR] at e0
    have e5:(a.Vars[k]).toNat<(blB p n).length:=by simp [blB];omega
    have e6:=blB_set p n e1
    have e7:k≤a.Vars.length:=by omega
    simp at ih
    simp [hk,h4,hw,e1,e2,hl,e0,e5,e6,e7,ih]
   ·simp [e1,e2] at h
    have e7:k≤a.Vars.length:=by omega
    simp [hk,h4,hw,e1,e2,hl,e7,← h]
theorem Zxn (q:Zd) (n:Nat) (hn:n≤4) (hq:q.Zg=n) (qa:List Atom) (hl:Le qa) (hv:∀ a∈qa,Le a.Vars):∀ k,k≤qa.length→∀ p,
  Zc2 q (blB p n) qa qa.length k=some (Bo ((qa.drop k).all (Z1 n) && (List.range n).all (addA p (qa.drop k))),[]):=by
 refine down _ ?_ ?_
 ·intro p
  refine Zow _ _ _ _ _ _ ?_
  have e:addA p []=p:=by funext u;simp [addA]
  have q1:=Zxl (blB p n) false (by simp [blB];omega)
  have q2:(blB p n).any (fun x=>false == x)=!(List.range n).all p:=bl_any p n
  rw [q2] at q1
  simp [q1,e]
 ·intro k hk ih p
  refine Zow _ _ _ _ _ _ ?_
  have h4:=inc64 (i:=k) (by omega)
  rw [Zit _ hk]
  rcases tf (nmOk qa[k].Name) with e1 | e1
  ·simp [hk,e1,Z1]
  rcases tf (inR qa[k].Vars.length 1 3) with e2 | e2
  ·simp [hk,e1,e2,Z1]
  have b:=Zxm q n hn hq qa[k] qa qa.length k (hv _ (List.getElem_mem hk)) (Bo (Z1 n qa[k] && (qa.drop (k+1)).all (Z1 n) && (List.range n).all (addA p (qa.drop k))),[]) 0 (Nat.zero_le _) p ?_
  ·simp at b
   simp [hk,e1,e2,b]
  ·simp only [List.take_zero,List.drop_zero,Z1,e1,e2,Bool.true_and]
   rcases tf (Zbk n [] qa[k].Vars) with e3 | e3
   ·simp [e3]
   ·have ih:=ih (addV p qa[k].Vars)
    simp only [e3,if_true,Bool.true_and,Zl5 p hk]
    simp at ih
    rw [show w ((k:Int)+1)=(k:Int)+1 from h4,ih]
@[simp] theorem Zp6 (q:Zd) (h:LeQ q):Zd1 q=some (Bo (Zt q.Zg q.Atoms),[]):=by
 refine Zvp _ _ ?_
 unfold Zt
 rcases tf (inR q.Zg 1 4) with e1 | e1
 ·simp [e1]
 rcases tf (inR q.Atoms.length 1 4) with e2 | e2
 ·simp [e1,e2]
 have e0:=e1
 simp [inR] at e0
 have hn:q.Zg=(q.Zg.toNat:Int):=by omega
 have b:=Zxn q q.Zg.toNat (by omega) hn q.Atoms h.1 h.2 0 (Nat.zero_le _) (fun _=>false)
 have r1:q.Zg.toNat≤room:=room2 (by omega)
 have r2:q.Zg≤room:=by
  have:(q.Zg.toNat:Int)≤room:=by exact_mod_cast r1
  omega
 have r3:q.Zg≤140737488355328:=by omega
 have ez:blB (fun _=>false) q.Zg.toNat=List.replicate q.Zg.toNat false:=by
  apply List.ext_getElem <;> simp [blB]
 rw [ez,← hn] at b
 simp at b
 simp [e1,e2,e0,r1,r2,r3,b]
 omega
theorem Zxo (q:Zd) (n:Nat) (hn1:1≤n) (hn:n≤4) (hq:q.Zg=n) (a:Atom) (j:Int) (hv:Le a.Vars) (r:AV×List Blk):∀ k,k≤a.Vars.length→∀ p,
  (if Zbk n (a.Vars.take k) (a.Vars.drop k)=true then Zdj q (Zp (addV p (a.Vars.drop k))) (w (j+1))=some r else some (Bo false,[])=some r) →
  Zee q a (Zp p) j k=some r:=by
 refine down _ ?_ ?_
 ·intro p h
  refine Zpr _ _ _ _ _ _ ?_
  simpa [Zbk,Ziu] using h
 ·intro k hk ih p h
  have h4:=inc64 (i:=k) (by omega)
  have hw:w (q.Zg - 1)=(n:Int) - 1:=by rw [hq];exact wrap64 (by omega) (by omega)
  have hl:=x_l7Has (a.Vars.take k) a.Vars[k] (by simp;omega)
  have e7:k≤a.Vars.length:=by omega
  refine Zpr _ _ _ _ _ _ ?_
  rw [Zl4 _ hk] at h
  rcases tf (inR a.Vars[k] 0 ((n:Int) - 1)) with e1 | e1
  ·simp [e1] at h
   simp [hk,h4,hw,e1,← h]
  ·rcases tf (has (a.Vars.take k) a.Vars[k]) with e2 | e2
   ·rw [Ziv p hk] at h
    simp only [e1,e2,Bool.true_and,Bool.not_false] at h
    have ih:=ih _ h
    have e0:=e1
    simp [inR] at e0
    have e6:=or_bit p (v:=a.Vars[k]) (by simp [inR];omega)
    have e8:¬ a.Vars[k]<0:=by omega
    simp at ih
    simp [hk,h4,hw,e1,e2,hl,e0,e6,e7,e8,ih]
   ·simp [e1,e2] at h
    simp [hk,h4,hw,e1,e2,hl,e7,← h]
end Go.Proofs.YtbapkgocloaaeaaGreat
