/-
  Parts of the proofs for this seat: L27.
-/
import Derived.Test.YtbapkgocloaaeaaGreatP16
import Derived.Test.YtbapkgocloaaeaaGreatP17
import Derived.Test.YtbapkgocloaaeaaGreatP18
set_option linter.unusedSimpArgs false
set_option linter.unusedVariables false
set_option maxRecDepth 100000
set_option maxHeartbeats 4000000
namespace Go.Proofs.YtbapkgocloaaeaaGreat
open Go.AM
theorem Zbpk:C Zxp [.t .nil,.t .nil] []=some (Bo true,[]):=by
 refine run Z73 rfl ?_
 simp [Zqi,EvL_eq Znu.eq_1]
theorem Zbpl (x:Int):C Zxm [.agg [I x,.t .nil],.agg [I x,.t .nil]] []=some (Bo true,[]):=by
 refine run Z7i rfl ?_
 simp [Zwh,Zbpk]
theorem Zqq {α:Type} (f:α→Nat):∀ xs ys:List α,cnL f (xs++ys)=cnL f xs+cnL f ys
 | [],_=>by simp [cnL]
 | x::xs,ys=>by simp [cnL,Zqq f xs ys,Nat.add_assoc]
theorem keptE_cn (es:List Ze):Z1 (Zbx es)≤Z1 es:=by
 unfold Zbx
 split
 ·rename_i h
  have o:=(Zwe (es:=es) (by omega)).2
  have e:es=es.take (Zbc es).toNat++(es[(Zbc es).toNat]::es.drop ((Zbc es).toNat+1)):=by rw [← List.drop_eq_getElem_cons o,List.take_append_drop]
  have e2:Z1 es=Z1 (es.take (Zbc es).toNat)+(Zcr es[(Zbc es).toNat]+Z1 (es.drop ((Zbc es).toNat+1))):=by
   conv=>lhs;rw [e]
   unfold Z1
   rw [Zqq];rfl
  have e3:Z1 (es.take (Zbc es).toNat++es.drop ((Zbc es).toNat+1))=Z1 (es.take (Zbc es).toNat)+Z1 (es.drop ((Zbc es).toNat+1)):=Zqq _ _ _
  omega
 ·exact Nat.le_refl _
theorem Z84 (m:Zd) (c:Zn) (q:Zb) (v:Int) (r:Region) (hm:m.okay) (hc:c.okay) (hq:q.okay) (hv:OkI v) (hr:r.okay):Sound Tryz.prog Z9c [.agg (m.c.map .t),.agg (c.c.map .t),.agg (q.c.map .t),I v,.agg (r.c.map .t)] [] (Bo true) []:=by
 refine one_sound (C:=give C 74) (tblOK _ _) (give_ok fun _ _ _ _ _ h=>sound h) Zbl5 rfl ?_
 show Ev (give C 74) [.fin 0 _] _ ⟨initE _ 0,[[]],[]⟩=_
 have e1:=fun l=>Zbn4 m.Scan.Fixed m.Scan.Zj m.Scan.Zk m.Scan.Zm m.Scan.Zl m.Scan.Steps m.Sort_.Fixed m.Sort_.Zj m.Sort_.Zk m.Sort_.Zm m.Sort_.Zl m.Sort_.Steps m.Hash.Fixed m.Hash.Zj m.Hash.Zk m.Hash.Zm m.Hash.Zl m.Hash.Steps m.Merge.Fixed m.Merge.Zj m.Merge.Zk m.Merge.Zm m.Merge.Zl m.Merge.Steps m.Nested.Fixed m.Nested.Zj m.Nested.Zk m.Nested.Zm m.Nested.Zl m.Nested.Steps l
 by_cases h1:Zd.sz m (1048576)<0
 ·simp [give_not,Zhp,e1,h1]
 obtain ⟨b1,g1⟩:=Zd.Zbf m _ hm (by omega) (by omega) (by omega:0≤Zd.sz m (1048576))
 have u1:=(Zd.ct m _ hm (by omega) (by omega) (by omega:0≤Zd.sz m (1048576))).2
 unfold Zw0 at u1
 have e2:=fun l=>Zbom c.Clock c.Entries l (hc.2)
 by_cases h2:Zn.sz c (Zd.sz m (1048576))<0
 ·simp [give_not,Zhp,e1,h1,e2,h2]
 obtain ⟨b2,g2⟩:=Zn.Zbf c _ hc (by omega) (by omega) (by omega:0≤Zn.sz c (Zd.sz m (1048576)))
 have u2:=(Zn.ct c _ hc (by omega) (by omega) (by omega:0≤Zn.sz c (Zd.sz m (1048576)))).2
 unfold Zw4 at u2
 have e3:=fun l=>Z8q q.Zf q.Atoms l (hq.2)
 by_cases h3:Zb.sz q (Zn.sz c (Zd.sz m (1048576)))<0
 ·simp [give_not,Zhp,e1,h1,e2,h2,e3,h3]
 obtain ⟨b3,g3⟩:=Zb.Zbf q _ hq (by omega) (by omega) (by omega:0≤Zb.sz q (Zn.sz c (Zd.sz m (1048576))))
 have u3:=(Zb.ct q _ hq (by omega) (by omega) (by omega:0≤Zb.sz q (Zn.sz c (Zd.sz m (1048576))))).2
 unfold Zqo at u3
 have e4:=fun l=>Z8t r.Plan.Steps r.Box.Low r.Box.High r.Percent l
 by_cases h4:Region.sz r (Zb.sz q (Zn.sz c (Zd.sz m (1048576))))<0
 ·simp [give_not,Zhp,e1,h1,e2,h2,e3,h3,e4,h4]
 obtain ⟨b4,g4⟩:=Region.Zbf r _ hr (by omega) (by omega) (by omega:0≤Region.sz r (Zb.sz q (Zn.sz c (Zd.sz m (1048576)))))
 have u4:=(Region.ct r _ hr (by omega) (by omega) (by omega:0≤Region.sz r (Zb.sz q (Zn.sz c (Zd.sz m (1048576)))))).2
 unfold Zqp at u4
 have t1:=Zbn2 m.Scan.Fixed m.Scan.Zj m.Scan.Zk m.Scan.Zm m.Scan.Zl m.Scan.Steps m.Sort_.Fixed m.Sort_.Zj m.Sort_.Zk m.Sort_.Zm m.Sort_.Zl m.Sort_.Steps m.Hash.Fixed m.Hash.Zj m.Hash.Zk m.Hash.Zm m.Hash.Zl m.Hash.Steps m.Merge.Fixed m.Merge.Zj m.Merge.Zk m.Merge.Zm m.Merge.Zl m.Merge.Steps m.Nested.Fixed m.Nested.Zj m.Nested.Zk m.Nested.Zm m.Nested.Zl m.Nested.Steps (g1.1) (g1.2.1) (g1.2.2.1) (g1.2.2.2.1) (g1.2.2.2.2)
 have q1:=fun y0 y1 y2 y3 y4 y5 y6 y7 y8 y9 y10 y11 y12 y13 y14 y15 y16 y17 y18 y19 y20 y21 y22 y23 y24 y25 y26 y27 y28 y29=>Zbn3 m.Scan.Fixed m.Scan.Zj m.Scan.Zk m.Scan.Zm m.Scan.Zl m.Scan.Steps m.Sort_.Fixed m.Sort_.Zj m.Sort_.Zk m.Sort_.Zm m.Sort_.Zl m.Sort_.Steps m.Hash.Fixed m.Hash.Zj m.Hash.Zk m.Hash.Zm m.Hash.Zl m.Hash.Steps m.Merge.Fixed m.Merge.Zj m.Merge.Zk m.Merge.Zm m.Merge.Zl m.Merge.Steps m.Nested.Fixed m.Nested.Zj m.Nested.Zk m.Nested.Zm m.Nested.Zl m.Nested.Steps y0 y1 y2 y3 y4 y5 y6 y7 y8 y9 y10 y11 y12 y13 y14 y15 y16 y17 y18 y19 y20 y21 y22 y23 y24 y25 y26 y27 y28 y29 (g1.1) (g1.2.1) (g1.2.2.1) (g1.2.2.2.1) (g1.2.2.2.2)
 have t2:=Zbol c.Clock c.Entries (g2)
 have q2:=fun y0 y1=>Z8u c.Clock c.Entries y0 y1 (g2)
 have t3:=Z8o q.Zf q.Atoms (g3)
 have q3:=fun y0 y1=>Z8p q.Zf q.Atoms y0 y1 (g3)
 have t4:=Z8r r.Plan.Steps r.Box.Low r.Box.High r.Percent (g4.1) (g4.2.1) (g4.2.2)
 have q4:=fun y0 y1 y2 y3=>Z8s r.Plan.Steps r.Box.Low r.Box.High r.Percent y0 y1 y2 y3 (g4.1) (g4.2.1) (g4.2.2)
 have m1:=fun a0 a1 a2 a3 a4=>Zbpc a0 a1 a2 a3 a4 m.Scan.Fixed m.Scan.Zj m.Scan.Zk m.Scan.Zm m.Scan.Zl m.Scan.Steps m.Sort_.Fixed m.Sort_.Zj m.Sort_.Zk m.Sort_.Zm m.Sort_.Zl m.Sort_.Steps m.Hash.Fixed m.Hash.Zj m.Hash.Zk m.Hash.Zm m.Hash.Zl m.Hash.Steps m.Merge.Fixed m.Merge.Zj m.Merge.Zk m.Merge.Zm m.Merge.Zl m.Merge.Steps m.Nested.Fixed m.Nested.Zj m.Nested.Zk m.Nested.Zm m.Nested.Zl m.Nested.Steps (1) (by omega) (by omega) (g1.1) (g1.2.1) (g1.2.2.1) (g1.2.2.2.1) (g1.2.2.2.2)
 have m2:=fun a0=>Zwx a0 c.Clock c.Entries (1+(Zq m.Scan.Steps:Int)+(Zq m.Sort_.Steps:Int)+(Zq m.Hash.Steps:Int)+(Zq m.Merge.Steps:Int)+(Zq m.Nested.Steps:Int)) (by omega) (by omega) (g2)
 have m3:=fun a0=>Zbpg a0 q.Zf q.Atoms (1+(Zq m.Scan.Steps:Int)+(Zq m.Sort_.Steps:Int)+(Zq m.Hash.Steps:Int)+(Zq m.Merge.Steps:Int)+(Zq m.Nested.Steps:Int)+(Z1 c.Entries:Int)) (by omega) (by omega) (g3)
 have m4:=fun a0 a1 a2=>Zbph a0 a1 a2 r.Plan.Steps r.Box.Low r.Box.High r.Percent (1+(Zq m.Scan.Steps:Int)+(Zq m.Sort_.Steps:Int)+(Zq m.Hash.Steps:Int)+(Zq m.Merge.Steps:Int)+(Zq m.Nested.Steps:Int)+(Z1 c.Entries:Int)+(Zs q.Atoms:Int)) (by omega) (by omega) (g4.1) (g4.2.1) (g4.2.2)
 have zk:¬ (1+(Zq m.Scan.Steps:Int)+(Zq m.Sort_.Steps:Int)+(Zq m.Hash.Steps:Int)+(Zq m.Merge.Steps:Int)+(Zq m.Nested.Steps:Int)+(Z1 c.Entries:Int)+(Zs q.Atoms:Int)+(Zr r.Plan.Steps:Int)+(r.Box.Low.length:Int)+(r.Box.High.length:Int)<0):=by omega
 have nm:LeM m:=⟨by have:=g1.1;omega,by have:=g1.2.1;omega,by have:=g1.2.2.1;omega,by have:=g1.2.2.2.1;omega,by have:=g1.2.2.2.2;omega⟩
 have nq:LeQ q:=⟨by have:=g3.1;omega,fun x hx=>by have:=(g3.2 x hx).2;omega⟩
 have nc:Lc c.Entries:=⟨g2.1,fun e he=>⟨⟨(g2.2 e he).1.1,fun x hx=>((g2.2 e he).1.2 x hx).2⟩,(g2.2 e he).2.1,(g2.2 e he).2.2.1,(g2.2 e he).2.2.2⟩⟩
 have lq:Lq q:=⟨g3.1,fun x hx=>(g3.2 x hx).2⟩
 have lr:Lr r:=⟨g4.1,g4.2.1,g4.2.2⟩
 obtain ⟨fr,s0⟩:=Zbl4 m nm c nc q lq v r lr
 have s1:=Zbl3 m nm c nc q lq v r lr
 unfold Zpf at s0
 unfold Zpc at s1
 simp only [Zd.c_def,Zn.c_def,Zb.c_def,Region.c_def,List.map_cons,List.map_nil] at s0 s1
 by_cases ok:adOk m c q r v=true
 ·rw [if_pos ok] at s0 s1
  unfold Zho at s0 s1
  have s0:=fun (a0 a1 a2 a3 a4 a5 a6 a7 a8 a9:Nat)=>give_at (C:=C) (g:=74) (vs:=[.agg [I m.Scan.Fixed,I m.Scan.Zj,I m.Scan.Zk,I m.Scan.Zm,I m.Scan.Zl,.own 0,I m.Sort_.Fixed,I m.Sort_.Zj,I m.Sort_.Zk,I m.Sort_.Zm,I m.Sort_.Zl,.own 1,I m.Hash.Fixed,I m.Hash.Zj,I m.Hash.Zk,I m.Hash.Zm,I m.Hash.Zl,.own 2,I m.Merge.Fixed,I m.Merge.Zj,I m.Merge.Zk,I m.Merge.Zm,I m.Merge.Zl,.own 3,I m.Nested.Fixed,I m.Nested.Zj,I m.Nested.Zk,I m.Nested.Zm,I m.Nested.Zl,.own 4],.agg [I c.Clock,.own 5],.agg [I q.Zf,.own 6],I v,.agg [.own 7,.own 8,.own 9,I r.Percent]]) (b:=.xarr a0 2 (m.Scan.Steps.map Zg.c)) (h0:=[.xarr a1 2 (m.Sort_.Steps.map Zg.c),.xarr a2 2 (m.Hash.Steps.map Zg.c),.xarr a3 2 (m.Merge.Steps.map Zg.c),.xarr a4 2 (m.Nested.Steps.map Zg.c),.xarr a5 8 (c.Entries.map Ze.c),.xarr a6 2 (q.Atoms.map Atom.c),.xarr a7 3 (r.Plan.Steps.map Zc.c),.xarr a8 1 (r.Box.Low.map ic),.xarr a9 1 (r.Box.High.map ic)]) rfl rfl s0
  have hl4:c.Entries.length≤4:=by
   unfold adOk at ok
   simp only [Bool.and_eq_true] at ok
   exact (clk_w ok.1.1.1).2
  have v1:Z1 (Zbx c.Entries++[newE q r v (c.Clock+1)])=Z1 (Zbx c.Entries)+Zcr (newE q r v (c.Clock+1)):=by
   unfold Z1
   rw [Zqq];rfl
  have v2:=keptE_cn c.Entries
  have v3:Zcr (newE q r v (c.Clock+1))=1+Zs q.Atoms+Zr r.Plan.Steps+r.Box.Low.length+r.Box.High.length+1+1+1:=rfl
  have v4:=Z6x c.Entries
  have g9:SmL Ze.small (Zbx c.Entries++[newE q r v (c.Clock+1)]):=by
   refine ⟨by rw [List.length_append];simp only [List.length_singleton];omega,fun x hx=>?_⟩
   rcases List.mem_append.1 hx with hx | hx
   ·exact g2.2 x (Zbl2 _ x hx)
   ·simp at hx
    subst hx
    exact ⟨g3,g4⟩
  generalize Zbx c.Entries++[newE q r v (c.Clock+1)]=es at s0 s1 v1 g9
  have q6:=Z8u (c.Clock+1) es (c.Clock+1) es g9
  have m6:=fun a0=>Zwx a0 (c.Clock+1) es 1 (by omega) (by omega) g9
  have m7:=Z82 (c.Clock+1) es 1 (by omega) (by omega) g9
  have z2:¬ (1+(Z1 es:Int)<0):=by omega
  simp +decide [Zhp,give_not,e1,h1,e2,h2,e3,h3,e4,h4,t1,q1,t2,q2,t3,q3,t4,q4,m1,m2,m3,m4,zk,s0,s1,shift,ren,rens,renB,List.replicate,q6,m6,m7,z2]
 ·rw [if_neg ok] at s0 s1
  unfold adNo at s0 s1
  by_cases he:c.Entries=[]
  ·rw [if_pos he] at s0 s1
   clear he
   have s0:=fun (a0 a1 a2 a3 a4 a5 a6 a7 a8 a9:Nat)=>give_at (C:=C) (g:=74) (vs:=[.agg [I m.Scan.Fixed,I m.Scan.Zj,I m.Scan.Zk,I m.Scan.Zm,I m.Scan.Zl,.own 0,I m.Sort_.Fixed,I m.Sort_.Zj,I m.Sort_.Zk,I m.Sort_.Zm,I m.Sort_.Zl,.own 1,I m.Hash.Fixed,I m.Hash.Zj,I m.Hash.Zk,I m.Hash.Zm,I m.Hash.Zl,.own 2,I m.Merge.Fixed,I m.Merge.Zj,I m.Merge.Zk,I m.Merge.Zm,I m.Merge.Zl,.own 3,I m.Nested.Fixed,I m.Nested.Zj,I m.Nested.Zk,I m.Nested.Zm,I m.Nested.Zl,.own 4],.agg [I c.Clock,.own 5],.agg [I q.Zf,.own 6],I v,.agg [.own 7,.own 8,.own 9,I r.Percent]]) (b:=.xarr a0 2 (m.Scan.Steps.map Zg.c)) (h0:=[.xarr a1 2 (m.Sort_.Steps.map Zg.c),.xarr a2 2 (m.Hash.Steps.map Zg.c),.xarr a3 2 (m.Merge.Steps.map Zg.c),.xarr a4 2 (m.Nested.Steps.map Zg.c),.xarr a5 8 (c.Entries.map Ze.c),.xarr a6 2 (q.Atoms.map Atom.c),.xarr a7 3 (r.Plan.Steps.map Zc.c),.xarr a8 1 (r.Box.Low.map ic),.xarr a9 1 (r.Box.High.map ic)]) rfl rfl s0
   simp +decide [Zhp,give_not,e1,h1,e2,h2,e3,h3,e4,h4,t1,q1,t2,q2,t3,q3,t4,q4,m1,m2,m3,m4,zk,s0,s1,shift,ren,rens,renB,List.replicate,Zbpl,Zbpe,Zbpf]
  ·rw [if_neg he] at s0 s1
   clear he
   have s0:=fun (a0 a1 a2 a3 a4 a5 a6 a7 a8 a9:Nat)=>give_at (C:=C) (g:=74) (vs:=[.agg [I m.Scan.Fixed,I m.Scan.Zj,I m.Scan.Zk,I m.Scan.Zm,I m.Scan.Zl,.own 0,I m.Sort_.Fixed,I m.Sort_.Zj,I m.Sort_.Zk,I m.Sort_.Zm,I m.Sort_.Zl,.own 1,I m.Hash.Fixed,I m.Hash.Zj,I m.Hash.Zk,I m.Hash.Zm,I m.Hash.Zl,.own 2,I m.Merge.Fixed,I m.Merge.Zj,I m.Merge.Zk,I m.Merge.Zm,I m.Merge.Zl,.own 3,I m.Nested.Fixed,I m.Nested.Zj,I m.Nested.Zk,I m.Nested.Zm,I m.Nested.Zl,.own 4],.agg [I c.Clock,.own 5],.agg [I q.Zf,.own 6],I v,.agg [.own 7,.own 8,.own 9,I r.Percent]]) (b:=.xarr a0 2 (m.Scan.Steps.map Zg.c)) (h0:=[.xarr a1 2 (m.Sort_.Steps.map Zg.c),.xarr a2 2 (m.Hash.Steps.map Zg.c),.xarr a3 2 (m.Merge.Steps.map Zg.c),.xarr a4 2 (m.Nested.Steps.map Zg.c),.xarr a5 8 (c.Entries.map Ze.c),.xarr a6 2 (q.Atoms.map Atom.c),.xarr a7 3 (r.Plan.Steps.map Zc.c),.xarr a8 1 (r.Box.Low.map ic),.xarr a9 1 (r.Box.High.map ic)]) rfl rfl s0
   have m6:=fun a0=>Zwx a0 c.Clock c.Entries 1 (by omega) (by omega) g2
   have m7:=Z82 c.Clock c.Entries 1 (by omega) (by omega) g2
   have z2:¬ (1+(Z1 c.Entries:Int)<0):=by omega
   simp +decide [Zhp,give_not,e1,h1,e2,h2,e3,h3,e4,h4,t1,q1,t2,q2,t3,q3,t4,q4,m1,m2,m3,m4,zk,s0,s1,shift,ren,rens,renB,List.replicate,m6,m7,z2]
end Go.Proofs.YtbapkgocloaaeaaGreat
