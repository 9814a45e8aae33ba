/-
  Parts of the proofs for this seat: IS SJ SK SM IE YC YD YE YF YG YH.
-/
import Derived.Test.YteaiinkcanpleaaGreatP33
import Derived.Test.YteaiinkcanpleaaGreatP34
set_option linter.all false
set_option maxRecDepth 100000
set_option maxHeartbeats 4000000
namespace Go.Proofs.YteaiinkcanpleaaGreat
open Go.AM
def Z2j(m:Zf)(hm:Ba m)(sizes:WL)(fr:Bool)(l:List Zd)(hl:l.length<=1000){M:Int}(h0:0<=M)(hM:sizes[M.toNat]?=some (Z6 sizes M))(cd:ofM l M≠[])(cc:(Xe (ofM l M)).Ze.Steps.length<=1000)(v:Int) :
  RK sizes fr l m M v=some (.agg ((inp m sizes M (ofM l M) v).c.map .t),[.arr 3 1 true (sizes.map ic),.arr 77 4 fr (l.map Zd.c)])\/
  RK sizes fr l m M v=some (.agg [I (inp m sizes M (ofM l M) v).Mask,I (inp m sizes M (ofM l M) v).Order,I (inp m sizes M (ofM l M) v).Cost,.own 2],[.arr 3 1 true (sizes.map ic),.arr 77 4 fr (l.map Zd.c),.arr 149 3 true ((inp m sizes M (ofM l M) v).Ze.Steps.map Zk.c)]):=by
 obtain⟨k1,k2⟩:=Zra cd;have hf:=ZDn l M v;unfold inp
 cases ho:BP (ofM l M) v with
 |none =>
  rw[ho]at hf;simp only at hf;refine .inr (KO.2.2.2 _ _ _ _ _ _ _ ⟨_,Tn l M hl,k1,_,k2,h0,_,hM,_,KS _ hm.2.1 _ _ _,_,ZqX l M v hl,?_⟩);rw[hf,Ao]
  exact⟨_,ZDa _ _ cc,rfl⟩
 |some e =>
  rw[ho]at hf;simp only at hf;simp only;by_cases hc:e.Cost<=(CD m sizes M (ofM l M) v).Cost
  .rw[Ya hc];refine .inl (KO.2.2.2 _ _ _ _ _ _ _ ⟨_,Tn l M hl,k1,_,k2,h0,_,hM,_,KS _ hm.2.1 _ _ _,_,ZqX l M v hl,?_⟩);rw[Ya hf.1];exact⟨_,hf.2,by rw[Ya (show e.Cost<=w ((Xe (ofM l M)).Cost+XL m.Sort_ (Z6 sizes M) 0 (Z6 sizes M))from hc)]⟩
  .rw[Yb hc];refine .inr (KO.2.2.2 _ _ _ _ _ _ _ ⟨_,Tn l M hl,k1,_,k2,h0,_,hM,_,KS _ hm.2.1 _ _ _,_,ZqX l M v hl,?_⟩);rw[Ya hf.1];exact⟨_,hf.2,by rw[Yb (show ¬e.Cost<=w ((Xe (ofM l M)).Cost+XL m.Sort_ (Z6 sizes M) 0 (Z6 sizes M))from hc)];exact⟨_,ZDa _ _ cc,rfl⟩⟩
def jc(m:Zf)(sizes:WL)(a b:Zd)(k:Int):Int:=w (w (a.Cost+b.Cost)+XL (BI m k) (Z6 sizes a.Mask) (Z6 sizes b.Mask) (Z6 sizes (At a.Mask b.Mask)))
theorem qD{l:List Zd}{i:Nat}{e:Zd}(h:l[i]?=some e):l.set i e=l:=by
 grind [List.getElem?_eq_some_iff,List.set_getElem_self]
def Z2k(m:Zf)(hm:Ba m)(sizes:WL)(mine:List Zd)(a b:Zd)(k v o:Int)(ho:-1<=o/\o<=3){e:Zd}(he:mine[(o+1).toNat]?=some e)(ha:0<=a.Mask/\sizes[a.Mask.toNat]?=some (Z6 sizes a.Mask))(hb:0<=b.Mask/\sizes[b.Mask.toNat]?=some (Z6 sizes b.Mask))(cc:0<=At a.Mask b.Mask/\sizes[(At a.Mask b.Mask).toNat]?=some (Z6 sizes (At a.Mask b.Mask)))(la:a.Ze.Steps.length<=1000)(lb:b.Ze.Steps.length<=1000) :
  LQ sizes mine m a b k v o=some (.tup [],[.arr 3 1 true (sizes.map ic),.arr 77 4 true ((mine.set (o+1).toNat (Wb e (At a.Mask b.Mask) o (jc m sizes a b k) (Ve a.Ze.Steps b.Ze.Steps k v))).map Zd.c)]):=by
 have hw:w (o+1)=o+1:=Xn Z Z;refine KO.1.1.1 _ _ _ _ _ _ _ _ _ ⟨BI m k,SN m k,ha.1,_,ha.2,hb.1,_,hb.2,cc.1,_,cc.2,_,KS _ (hm.op k) _ _ _,Z,e,by rw[hw];exact he,?_⟩;rw[hw];by_cases e0:e.Mask=0
 .rw[Ya e0];refine⟨_,Ip a.Ze b.Ze _ _ la lb,?_⟩;simp[Wb,e0,jc]
 .rw[Yb e0];by_cases e1:jc m sizes a b k<e.Cost
  .have e2:=e1;unfold jc at e2;rw[Ya e2];refine⟨_,Ip a.Ze b.Ze _ _ la lb,?_⟩;unfold Wb;rw[Yb e0,Ya e1];rfl
  .have e2:=e1;unfold jc at e2;rw[Yb e2];unfold Wb
   grind [qD]
def ZPN(m:Zf)(hm:Ba m)(sizes:WL)(mine:List Zd)(a b:Zd)(k v o:Int)(ho:-1<=o/\o<=3){e:Zd}(he:mine[(o+1).toNat]?=some e)(ha:0<=a.Mask/\sizes[a.Mask.toNat]?=some (Z6 sizes a.Mask))(hb:0<=b.Mask/\sizes[b.Mask.toNat]?=some (Z6 sizes b.Mask))(cc:0<=At a.Mask b.Mask/\sizes[(At a.Mask b.Mask).toNat]?=some (Z6 sizes (At a.Mask b.Mask)))(la:a.Ze.Steps.length<=1000)(lb:b.Ze.Steps.length<=1000) :
  fQ sizes mine b.Ze.Steps m a b.Mask b.Order b.Cost k v o=some (.tup [],[.arr 3 1 true (sizes.map ic),.arr 77 4 true ((mine.set (o+1).toNat (Wb e (At a.Mask b.Mask) o (jc m sizes a b k) (Ve a.Ze.Steps b.Ze.Steps k v))).map Zd.c),.arr 149 3 true (b.Ze.Steps.map Zk.c)]):=by
 have hw:w (o+1)=o+1:=Xn Z Z;refine KO.2.1.1 _ _ _ _ _ _ _ _ _ _ _ _ ⟨BI m k,SN m k,ha.1,_,ha.2,hb.1,_,hb.2,cc.1,_,cc.2,_,KS _ (hm.op k) _ _ _,Z,e,by rw[hw];exact he,?_⟩;rw[hw];by_cases e0:e.Mask=0
 .rw[Ya e0];refine⟨_,Ip a.Ze ⟨b.Ze.Steps⟩ _ _ la lb,?_⟩;simp[Wb,e0,jc]
 .rw[Yb e0];by_cases e1:jc m sizes a b k<e.Cost
  .have e2:=e1;unfold jc at e2;rw[Ya e2];refine⟨_,Ip a.Ze ⟨b.Ze.Steps⟩ _ _ la lb,?_⟩;unfold Wb;rw[Yb e0,Ya e1];rfl
  .have e2:=e1;unfold jc at e2;rw[Yb e2];unfold Wb
   grind [qD]
def ZPO(m:Zf)(hm:Ba m)(sizes:WL)(mine:List Zd)(a b:Zd)(k v o:Int)(ho:-1<=o/\o<=3){e:Zd}(he:mine[(o+1).toNat]?=some e)(ha:0<=a.Mask/\sizes[a.Mask.toNat]?=some (Z6 sizes a.Mask))(hb:0<=b.Mask/\sizes[b.Mask.toNat]?=some (Z6 sizes b.Mask))(cc:0<=At a.Mask b.Mask/\sizes[(At a.Mask b.Mask).toNat]?=some (Z6 sizes (At a.Mask b.Mask)))(la:a.Ze.Steps.length<=1000)(lb:b.Ze.Steps.length<=1000) :
  fR sizes mine a.Ze.Steps m a.Mask a.Order a.Cost b k v o=some (.tup [],[.arr 3 1 true (sizes.map ic),.arr 77 4 true ((mine.set (o+1).toNat (Wb e (At a.Mask b.Mask) o (jc m sizes a b k) (Ve a.Ze.Steps b.Ze.Steps k v))).map Zd.c),.arr 149 3 true (a.Ze.Steps.map Zk.c)]):=by
 have hw:w (o+1)=o+1:=Xn Z Z;refine KO.2.1.2 _ _ _ _ _ _ _ _ _ _ _ _ ⟨BI m k,SN m k,ha.1,_,ha.2,hb.1,_,hb.2,cc.1,_,cc.2,_,KS _ (hm.op k) _ _ _,Z,e,by rw[hw];exact he,?_⟩;rw[hw];by_cases e0:e.Mask=0
 .rw[Ya e0];refine⟨_,Ip ⟨a.Ze.Steps⟩ b.Ze _ _ la lb,?_⟩;simp[Wb,e0,jc]
 .rw[Yb e0];by_cases e1:jc m sizes a b k<e.Cost
  .have e2:=e1;unfold jc at e2;rw[Ya e2];refine⟨_,Ip ⟨a.Ze.Steps⟩ b.Ze _ _ la lb,?_⟩;unfold Wb;rw[Yb e0,Ya e1];rfl
  .have e2:=e1;unfold jc at e2;rw[Yb e2];unfold Wb
   grind [qD]
def ZPP(m:Zf)(hm:Ba m)(sizes:WL)(mine:List Zd)(a b:Zd)(k v o:Int)(ho:-1<=o/\o<=3){e:Zd}(he:mine[(o+1).toNat]?=some e)(ha:0<=a.Mask/\sizes[a.Mask.toNat]?=some (Z6 sizes a.Mask))(hb:0<=b.Mask/\sizes[b.Mask.toNat]?=some (Z6 sizes b.Mask))(cc:0<=At a.Mask b.Mask/\sizes[(At a.Mask b.Mask).toNat]?=some (Z6 sizes (At a.Mask b.Mask)))(la:a.Ze.Steps.length<=1000)(lb:b.Ze.Steps.length<=1000) :
  fS sizes mine a.Ze.Steps b.Ze.Steps m a.Mask a.Order a.Cost b.Mask b.Order b.Cost k v o=some (.tup [],[.arr 3 1 true (sizes.map ic),.arr 77 4 true ((mine.set (o+1).toNat (Wb e (At a.Mask b.Mask) o (jc m sizes a b k) (Ve a.Ze.Steps b.Ze.Steps k v))).map Zd.c),.arr 149 3 true (a.Ze.Steps.map Zk.c),.arr 149 3 true (b.Ze.Steps.map Zk.c)]):=by
 have hw:w (o+1)=o+1:=Xn Z Z;refine KO.2.2.1 _ _ _ _ _ _ _ _ _ _ _ _ _ _ _ ⟨BI m k,SN m k,ha.1,_,ha.2,hb.1,_,hb.2,cc.1,_,cc.2,_,KS _ (hm.op k) _ _ _,Z,e,by rw[hw];exact he,?_⟩;rw[hw];by_cases e0:e.Mask=0
 .rw[Ya e0];refine⟨_,Ip ⟨a.Ze.Steps⟩ ⟨b.Ze.Steps⟩ _ _ la lb,?_⟩;simp[Wb,e0,jc]
 .rw[Yb e0];by_cases e1:jc m sizes a b k<e.Cost
  .have e2:=e1;unfold jc at e2;rw[Ya e2];refine⟨_,Ip ⟨a.Ze.Steps⟩ ⟨b.Ze.Steps⟩ _ _ la lb,?_⟩;unfold Wb;rw[Yb e0,Ya e1];rfl
  .have e2:=e1;unfold jc at e2;rw[Yb e2];unfold Wb
   grind [qD]
def Jc{α:Type}(f:α->Zd->α)(E:List Zd):Nat->Int->α->α
 |0,_,x=>x
 |n+1,o,x=>Jc f E n (o+1) (match BP E o with|some e=>f x e|none=>x)
def ZDu{α:Type}(f:α->Zd->α){E F:List Zd}:∀(n:Nat) (o:Int) (x:α),(∀p,o<=p->BP E p=BP F p)->Jc f E n o x=Jc f F n o x
 |0,_,_,_=>rfl
 |n+1,o,x,h=>by
  rw[Jc,Jc,h o (Int.le_refl o)];exact ZDu f n (o+1) _ (λp hp=>h p Z)
def ZDv{α:Type}(f:α->Zd->α):∀(n:Nat) (o:Int) (x:α),Jc f [] n o x=x
 |0,_,_=>rfl
 |n+1,o,x=>by rw[Jc];exact ZDv f n (o+1) x
def Z2l{α:Type}(f:α->Zd->α):∀(n:Nat) (E:List Zd) (o:Int) (x:α),E.Pairwise (λa b=>a.Order<b.Order)->(∀e∈E,o<=e.Order/\e.Order<o+n)->Jc f E n o x=E.foldl f x
 |0,[],_,_,_,_=>rfl
 |0,e::E,o,x,_,h=>by have:=h e Om;omega
 |n+1,[],o,x,_,_=>ZDv f (n+1) o x
 |n+1,e::E,o,x,hp,h=>by
  have hc:=Y2.1 hp;have he:=h e Om;rw[Jc];by_cases eo:e.Order=o
  .have h1:BP (e::E) o=some e:=by simp[BP,eo]
   rw[h1,Yv];simp only;rw[ZDu f (F:=E) n (o+1) (f x e) (λp hpo=>by unfold BP;rw[List.find?_cons];simp[show ¬e.Order=p by omega])];exact Z2l f n E (o+1) (f x e) hc.2 (λy hy=>by have:=hc.1 y hy;have:=h y (by simp[hy]);omega)
  .have h1:BP (e::E) o=none:=by
    unfold BP;rw[List.find?_eq_none];intro y hy
    have:e.Order<=y.Order:=by
     rcases Y1.1 hy with rfl|hy
     .exact Int.le_refl _
     .have:=hc.1 y hy;omega
    simp;omega
   rw[h1];simp only
   exact Z2l f n (e::E) (o+1) x hp (λy hy=>by
    have:=h y hy
    have:e.Order<=y.Order:=by
     rcases Y1.1 hy with rfl|hy
     .exact Int.le_refl _
     .have:=hc.1 y hy;omega
    omega)
def zE:Zd:=⟨0,0,0,⟨[]⟩⟩
def U6(m:Zf)(sizes:WL)(a b:Zd)(k v o:Int)(c:List Zd):List Zd :=
 c.set (o+1).toNat (Wb ((c[(o+1).toNat]?).getD zE) (At a.Mask b.Mask) o (jc m sizes a b k) (Ve a.Ze.Steps b.Ze.Steps k v))
def Jd(m:Zf)(sizes:WL)(b:Zd)(c:List Zd)(e:Zd):List Zd:=U6 m sizes e b 5 0 e.Order c
def JT(m:Zf)(sizes:WL)(A B:Int)(E F c:List Zd)(v:Int):List Zd:=U6 m sizes (inp m sizes A E v) (inp m sizes B F v) 4 v v c
def Ou(m:Zf)(sizes:WL)(A B:Int)(sh:WL)(E F c:List Zd):List Zd :=
 sh.foldl (JT m sizes A B E F) (E.foldl (Jd m sizes (Xe F)) (U6 m sizes (Xe E) (Xe F) 3 0 (-1) c))
def K3{m:Zf}{sizes:WL}{a b:Zd}{k v o:Int}{mine:List Zd}:(U6 m sizes a b k v o mine).length=mine.length:=by simp[U6]
def Zrc{m:Zf}{sizes:WL}{b:Zd}:∀{E c:List Zd},(E.foldl (Jd m sizes b) c).length=c.length
 |[],_=>rfl
 |e::E,c=>by rw[Yv,Zrc];exact K3
def ZDw{m:Zf}{sizes:WL}{A B:Int}{E F:List Zd}:∀{sh:WL} {c:List Zd},(sh.foldl (JT m sizes A B E F) c).length=c.length
 |[],_=>rfl
 |e::sh,c=>by rw[Yv,ZDw];exact K3
def ZDx{m:Zf}{sizes:WL}{A B:Int}{sh:WL}{E F mine:List Zd}:(Ou m sizes A B sh E F mine).length=mine.length:=by
 unfold Ou;rw[ZDw,Zrc,K3]
structure Z2m (m:Zf) (sizes:WL) (qa:List Zg) (M:Int) (o:Int) (e:Zd):Prop where
 mask:e.Mask=M
 ord:e.Order=o
 makes:XA m sizes qa e.Ze.Steps M o e.Cost
 len:1<=e.Ze.Steps.length/\e.Ze.Steps.length+3<=4*Xa M
def U7(m:Zf)(sizes:WL)(qa:List Zg)(M:Int)(c:List Zd):Prop :=
 c.length=5/\∀(k:Nat) (e:Zd),c[k]?=some e->e.Mask≠0->Z2m m sizes qa M ((k:Int)-1) e
def ZDy(m:Zf)(sizes:WL)(qa:List Zg)(M:Int):U7 m sizes qa M (List.replicate 5 zE):=by
 refine⟨Om,λk e h h0=>?_⟩;rw[List.getElem?_replicate]at h;split at h
 .cases h;exact absurd rfl h0
 .cases h
def ZPQ{m:Zf}{sizes:WL}{qa:List Zg}{M:Int}{mine:List Zd}(h:U7 m sizes qa M mine){a b:Zd}{k v o:Int}(ho:-1<=o/\o<=3)(hM:At a.Mask b.Mask=M)
  (c:XA m sizes qa (Ve a.Ze.Steps b.Ze.Steps k v) M o (jc m sizes a b k)) (hl:(Ve a.Ze.Steps b.Ze.Steps k v).length+3<=4*Xa M):U7 m sizes qa M (U6 m sizes a b k v o mine):=by
 refine⟨by rw[K3];exact h.1,λj e hj h0=>?_⟩;have h5:=h.1;unfold U6 at hj;have hlt:(o+1).toNat<mine.length:=by omega
 rw[List.getElem?_set]at hj;by_cases ej:(o+1).toNat=j
 .rw[Ya ej,Ya hlt]at hj;cases hj;have eo:(j:Int)-1=o:=by omega
  rw[eo];rw[Yd hlt]at h0|-;simp only[Option.getD_some]at h0|-;have hold:=h.2 (o+1).toNat mine[(o+1).toNat] (Yd hlt);have eo2:(((o+1).toNat:Nat):Int)-1=o:=by omega
  rw[eo2]at hold;have hnew:Z2m m sizes qa M o ⟨At a.Mask b.Mask,o,jc m sizes a b k,⟨Ve a.Ze.Steps b.Ze.Steps k v⟩⟩:=⟨hM,rfl,c,by simp[Ve];omega,hl⟩;unfold Wb
  grind
 .rw[Yb ej]at hj;exact h.2 j e hj h0
def ZPR{m:Zf}{sizes:WL}{qa:List Zg}{M:Int}{mine:List Zd}(h:U7 m sizes qa M mine)(c:mine.filter sm≠[]):WB m sizes qa M (mine.filter sm):=by
 have hg:∀e∈mine.filter sm,∃o,(-1<=o/\o<=3)/\Z2m m sizes qa M o e:=by
  intro e he;rw[CR]at he;obtain⟨k,hk⟩:=List.mem_iff_getElem?.1 he.1;have hlt:=(Dq.1 hk).1;have h5:=h.1
  have:e.Mask≠0:=by simpa[sm]using he.2
  exact⟨(k:Int)-1,Z,h.2 k e hk this⟩
 refine⟨c,?_,?_,?_,?_,?_⟩
 .rw[List.pairwise_filter,Ycj];intro i j hi hj hij s1 s2;have g1:=h.2 i _ (Yd hi) (by simpa[sm]using s1);have g2:=h.2 j _ (Yd hj) (by simpa[sm]using s2);rw[g1.ord,g2.ord];omega
 .intro e he;obtain⟨o,_,g⟩:=hg e he;exact g.mask
 .intro e he;obtain⟨o,ho,g⟩:=hg e he;rw[g.ord];exact ho
 .intro e he;obtain⟨o,_,g⟩:=hg e he;rw[g.ord];exact g.makes
 .intro e he;obtain⟨o,_,g⟩:=hg e he;exact g.len
def Iq{m:Zf}{sizes:WL}{qa:List Zg}{M:Int}{E:List Zd}(h:WB m sizes qa M E)(hg:Wi m.Sort_)(c:Um sizes)(hM:AU M){v:Int}(hv:Bj qa M v=true) :
  (inp m sizes M E v).Mask=M/\(inp m sizes M E v).Order=v/\XA m sizes qa (inp m sizes M E v).Ze.Steps M v (inp m sizes M E v).Cost/\1<=(inp m sizes M E v).Ze.Steps.length/\(inp m sizes M E v).Ze.Steps.length+2<=4*Xa M:=by
 have h4:=Un hM;have hlen:=h.len _ h.best;have hb:=(h.makes _ h.best).bound Z;have hp:=ZDq hg c M M;have hu:=Ot m.Sort_ (Z6 sizes M) 0 (Z6 sizes M);have hsrt:(Xe E).Order≠v->(CD m sizes M E v).Mask=M/\(CD m sizes M E v).Order=v/\XA m sizes qa (CD m sizes M E v).Ze.Steps M v (CD m sizes M E v).Cost/\1<=(CD m sizes M E v).Ze.Steps.length/\(CD m sizes M E v).Ze.Steps.length+2<=4*Xa M:=by
  intro hne;refine⟨rfl,rfl,h.srt_makes hv hne,?_,?_⟩<;>simp only[CD,Oj,Yu,Yx,Df]<;>omega
 unfold inp
 cases ho:BP E v with
 |none =>
  refine hsrt (λhe=>?_);have:=Zrb h.up h.best
  simp_all
 |some e =>
  have hmem:e∈E:=List.mem_of_find?_eq_some ho;have hov:e.Order=v:=by have:=List.find?_some ho;simpa using this
  simp only;by_cases hc:e.Cost<=(CD m sizes M E v).Cost
  .rw[Ya hc];have hm:=h.makes e hmem;rw[hov]at hm;have:=h.len e hmem;exact⟨h.mask e hmem,hov,hm,Z,Z⟩
  .rw[Yb hc];refine hsrt (λhe=>hc ?_);have hx:=Zrb h.up h.best;rw[he,ho]at hx;cases hx;unfold CD
   grind [Xn]
structure Je (qa:List Zg) (A B M:Int):Prop where
 a16:AU A
 b16:AU B
 or:At A B=M
 dis:Ah A B=0
 shr:shr qa A B=true
 pop:Xa A+Xa B=Xa M
def Z2n{m:Zf}{sizes:WL}{qa:List Zg}{A B M:Int}(hp:Je qa A B M){mine:List Zd}(h:U7 m sizes qa M mine){a b:Zd}{k v o oa ob:Int}(ho:-1<=o/\o<=3)(hk:3<=k)(ha:a.Mask=A)(hb:b.Mask=B)(ma:XA m sizes qa a.Ze.Steps A oa a.Cost)(mb:XA m sizes qa b.Ze.Steps B ob b.Cost)(hj:QU qa ⟨k,0,v⟩ (A,oa) (B,ob)=some o)(hl:a.Ze.Steps.length+2<=4*Xa A/\b.Ze.Steps.length+2<=4*Xa B):U7 m sizes qa M (U6 m sizes a b k v o mine):=by
 have hpop:=hp.pop;refine ZPQ h ho (by rw[ha,hb];exact hp.or) ?_ (by simp only[Ve,Yu,Yx,Df];omega);have:=ZDf (x:=⟨k,0,v⟩) ma mb hk rfl hp.dis hp.shr hj;rw[hp.or]at this;unfold jc;rw[ha,hb,hp.or];exact this
def ZDz{m:Zf}{sizes:WL}{qa:List Zg}{A B M:Int}(hp:Je qa A B M){b:Zd}{ob:Int}(hb:b.Mask=B)(mb:XA m sizes qa b.Ze.Steps B ob b.Cost)(lb:b.Ze.Steps.length+2<=4*Xa B):∀{E c:List Zd},(∀e∈E,e.Mask=A/\(-1<=e.Order/\e.Order<=3)/\XA m sizes qa e.Ze.Steps A e.Order e.Cost/\e.Ze.Steps.length+2<=4*Xa A)->U7 m sizes qa M c->U7 m sizes qa M (E.foldl (Jd m sizes b) c)
 |[],_,_,h=>h
 |e::E,c,he,h=>by
  obtain⟨e1,e2,e3,e4⟩:=he e Om;rw[Yv];exact ZDz hp hb mb lb (λx hx=>he x (by simp[hx])) (Z2n hp h e2 Z e1 hb e3 mb ZDh ⟨e4,lb⟩)
def ZD0{m:Zf}{sizes:WL}{qa:List Zg}{A B M:Int}(hp:Je qa A B M)(hg:Wi m.Sort_)(cc:Um sizes){E F:List Zd}(hE:WB m sizes qa A E)(hF:WB m sizes qa B F):∀{sh:WL} {c:List Zd},(∀v∈sh,(-1<=v/\v<=3)/\Bj qa A v=true/\Bj qa B v=true)->U7 m sizes qa M c->U7 m sizes qa M (sh.foldl (JT m sizes A B E F) c)
 |[],_,_,h=>h
 |v::sh,c,hv,h=>by
  obtain⟨v1,v2,v3⟩:=hv v Om;obtain⟨a1,a2,a3,a4,a5⟩:=Iq hE hg cc hp.a16 v2;obtain⟨b1,b2,b3,b4,b5⟩:=Iq hF hg cc hp.b16 v3;rw[Yv];exact ZD0 hp hg cc hE hF (λx hx=>hv x (by simp[hx])) (Z2n hp h v1 Z a1 b1 a3 b3 (ZDi v2 v3 rfl rfl) ⟨a5,b5⟩)
def ZPS{m:Zf}{sizes:WL}{qa:List Zg}{A B M:Int}(hp:Je qa A B M)(hg:Wi m.Sort_)(c:Um sizes){E F:List Zd}(hE:WB m sizes qa A E)(hF:WB m sizes qa B F){sh:WL}{mine:List Zd}(hv:∀v∈sh,(-1<=v/\v<=3)/\Bj qa A v=true/\Bj qa B v=true)(h:U7 m sizes qa M mine):U7 m sizes qa M (Ou m sizes A B sh E F mine):=by
 have lE:=hE.len _ hE.best;have lF:=hF.len _ hF.best;have mE:=hE.makes _ hE.best;have mF:=hF.makes _ hF.best;unfold Ou;refine ZD0 hp hg c hE hF hv (ZDz hp (hF.mask _ hF.best) mF Z (λe he=>⟨hE.mask e he,hE.ord e he,hE.makes e he,by have:=hE.len e he;omega⟩) ?_);exact Z2n hp h Z Z (hE.mask _ hE.best) (hF.mask _ hF.best) mE mF ZDg ⟨Z,Z⟩
def qE{qa:List Zg}{M A:Int}(h:A∈ZL qa M):1<=A/\A<M/\Ah A M=A/\XY qa A=true/\XY qa (M-A)=true:=by
 unfold ZL QK at h;rw[Yn]at h;obtain⟨k,hk,rfl⟩:=h;rw[CR,List.mem_range'_1]at hk;obtain⟨⟨h1,h2⟩,h3⟩:=hk;simp only[Vz,Yg,decide_eq_true_eq]at h3
 grind
def ZPT{qa:List Zg}{M:Int}{k:Nat}(h1:1<=k)(h2:(k:Int)<M)(h3:Vz qa M k=true):(k:Int)∈ZL qa M:=by
 unfold ZL QK
 grind
def Z2o{qa:List Zg}{M:Int}(h:AU M):(ZL qa M).length<=16:=by
 unfold ZL QK
 grind
set_option maxRecDepth 100000 in
def ZPU:∀a b c d e f g h:Bool,Wa (e,f,g,h) (a,b,c,d)=(e,f,g,h)->Xa (Bt (e,f,g,h))+Xa (Bt (Uk (a,b,c,d) (e,f,g,h)))=Xa (Bt (a,b,c,d))/\orB (e,f,g,h) (Uk (a,b,c,d) (e,f,g,h))=(a,b,c,d)/\Wa (e,f,g,h) (Uk (a,b,c,d) (e,f,g,h))=(false,false,false,false):=by decide
def ZD1{n:Int}{qa:List Zg}(hv:Zx n qa=true){M:Int}(h:MQ qa M):Oe qa.length (AP M)=true:=by
 have h4:=W1 hv;have h16:=(h.m16 hv).1;obtain⟨a,rfl⟩:=m16 h16;have key:∀a:Fin 16,(a.1<2->Oe 1 (AP (a.1:Int))=true)/\(a.1<4->Oe 2 (AP (a.1:Int))=true)/\(a.1<8->Oe 3 (AP (a.1:Int))=true)/\Oe 4 (AP (a.1:Int))=true:=by decide
 grind
def Abz(g:Ed){n:Nat}(hn:1<=n/\n<=4)(p:B4):Tk g n p=true:=by
 have:=f1 g.a g.b g.c g.d g.e g.f p.1 p.2.1 p.2.2.1 p.2.2.2;have hl:n=1\/n=2\/n=3\/n=4:=by omega
 rcases hl with rfl|rfl|rfl|rfl
 .exact this.1
 .exact this.2.1
 .exact this.2.2.1
 .exact this.2.2.2
def AbA(g:Ed){n:Nat}(hn:1<=n/\n<=4)(p x:B4):Tl g n p x=true:=by
 have:=f2 g.a g.b g.c g.d g.e g.f p.1 p.2.1 p.2.2.1 p.2.2.2 x.1 x.2.1 x.2.2.1 x.2.2.2;have hl:n=1\/n=2\/n=3\/n=4:=by omega
 rcases hl with rfl|rfl|rfl|rfl
 .exact this.1
 .exact this.2.1
 .exact this.2.2.1
 .exact this.2.2.2
def ZPV{n:Int}{qa:List Zg}(hv:Zx n qa=true){M A:Int}(hM:MQ qa M)(hc:XY qa M=true)(h:A∈ZL qa M):Je qa A (M-A) M:=by
 obtain⟨h1,h2,h3,_,_⟩:=qE h;have h16:=(hM.m16 hv).1;have a16:AU A:=by omega
 have b16:AU (M-A):=by omega
 have eM:=Z2d h16;have eA:=Z2d a16;have hsub:Wa (AP A) (AP M)=AP A:=by
  grind [Z2e,ZqU]
 have eB:=ZCX hsub;rw[eM,eA]at eB;have hp:=ZPU (AP M).1 (AP M).2.1 (AP M).2.2.1 (AP M).2.2.2 (AP A).1 (AP A).2.1 (AP A).2.2.1 (AP A).2.2.2 hsub;have hp1:Xa (Bt (AP A))+Xa (Bt (Uk (AP M) (AP A)))=Xa (Bt (AP M)):=hp.1;have hp2:orB (AP A) (Uk (AP M) (AP A))=AP M:=hp.2.1;have hp3:Wa (AP A) (Uk (AP M) (AP A))=(false,false,false,false):=hp.2.2;refine⟨a16,b16,?_,?_,?_,?_⟩
 .grind [ZCW]
 .rw[eB];have:=ZqU (AP A) (Uk (AP M) (AP A));rw[hp3,eA]at this;exact this
 .rw[eB];have:=ZP6 (W1 hv).2 (AP A) (Uk (AP M) (AP A)) hp3;rw[eA]at this;rw[this];have h5:=AbA (K2 qa) (W1 hv) (AP M) (AP A);have hcb:=ZqV hv (AP M);rw[eM,hc]at hcb;have hin:=ZD1 hv hM;have n0:AP A≠(false,false,false,false):=λhe=>by
   rw[he]at eA
   have:Bt (false,false,false,false)=0:=rfl
   omega
  have nM:AP A≠AP M:=λhe=>by rw[he,eM]at eA;omega
  unfold Tl at h5
  simp_all
 .simp_all
def ZPW{n:Int}{qa:List Zg}(hv:Zx n qa=true){M:Int}(hM:MQ qa M)(h0:M≠0)(hc:XY qa M=true)(h1:K0 (AP M)=false):ZL qa M≠[]:=by
 have h16:=(hM.m16 hv).1;have eM:=Z2d h16;have h5:=Abz (K2 qa) (W1 hv) (AP M);have hcb:=ZqV hv (AP M);rw[eM,hc]at hcb;have hin:=ZD1 hv hM;have nz:AP M≠(false,false,false,false):=λhe=>by
  rw[he]at eM
  have:Bt (false,false,false,false)=0:=rfl
  omega
 have one:∀(x:B4) (k:Nat),Bt x=(k:Int)->1<=k->K0 x=true->Wa x x=x->VD (K2 qa) qa.length x=true->Wa (AP M) x≠(false,false,false,false)->(Wa (AP M) x=x)->VD (K2 qa) qa.length (Uk (AP M) x)=true->ZL qa M≠[]:=by
  intro x k hk hk1 hx hxx hcx hne hsub hcs;have qF:Wa x (AP M)=x:=by
   have:Wa x (AP M)=Wa (AP M) x:=by
    obtain⟨a,b,c,d⟩:=x;show(a && (AP M).1,b && (AP M).2.1,c && (AP M).2.2.1,d && (AP M).2.2.2)=((AP M).1 && a,(AP M).2.1 && b,(AP M).2.2.1 && c,(AP M).2.2.2 && d)
    grind
   rw[this,hsub]
  have e1:=ZCX qF;rw[eM,hk]at e1;have hxm:x≠AP M:=λhe=>by rw[<-he,hx]at h1;cases h1
  have hle:(k:Int)<M:=by
   have q1:=Of (Uk (AP M) x)
   grind [Z2e]
  have:(k:Int)∈ZL qa M:=by
   refine ZPT hk1 hle ?_;unfold Vz
   grind [ZqV,ZqU]
  grind
 have c1:∀(g:Ed) (n:Nat),1<=n/\n<=4->VD g n (true,false,false,false)=true/\VD g n (false,true,false,false)=true/\VD g n (false,false,true,false)=true/\VD g n (false,false,false,true)=true:=by
  have key:∀a b c d e f:Bool,∀n:Fin 5,1<=n.1->VD ⟨a,b,c,d,e,f⟩ n.1 (true,false,false,false)=true/\VD ⟨a,b,c,d,e,f⟩ n.1 (false,true,false,false)=true/\VD ⟨a,b,c,d,e,f⟩ n.1 (false,false,true,false)=true/\VD ⟨a,b,c,d,e,f⟩ n.1 (false,false,false,true)=true:=by decide
  intro g n hn;exact key g.a g.b g.c g.d g.e g.f ⟨n,Z⟩ hn.1
 obtain⟨k0,k1,k2,k3⟩:=c1 (K2 qa) qa.length (W1 hv);have BG:∀a b c d:Bool,(¬Wa (a,b,c,d) (true,false,false,false)=(false,false,false,false)->Wa (a,b,c,d) (true,false,false,false)=(true,false,false,false))/\(¬Wa (a,b,c,d) (false,true,false,false)=(false,false,false,false)->Wa (a,b,c,d) (false,true,false,false)=(false,true,false,false))/\(¬Wa (a,b,c,d) (false,false,true,false)=(false,false,false,false)->Wa (a,b,c,d) (false,false,true,false)=(false,false,true,false))/\(¬Wa (a,b,c,d) (false,false,false,true)=(false,false,false,false)->Wa (a,b,c,d) (false,false,false,true)=(false,false,false,true)):=by
  intro a b c d;cases a<;>cases b<;>cases c<;>cases d<;>simp[Wa]
 have hs:=BG (AP M).1 (AP M).2.1 (AP M).2.2.1 (AP M).2.2.2;unfold Tk at h5;rw[hin,<-hcb,h1]at h5;have nz':(AP M == (false,false,false,false))=false:=by simpa using nz
 rw[nz']at h5;simp only[Bool.not_true,E1,rR,Yg,bne_iff_ne,ne_eq]at h5;rcases h5 with((h5|h5)|h5)|h5
 .exact one _ 1 rfl Z rfl rfl k0 h5.1 (hs.1 h5.1) h5.2
 .exact one _ 2 rfl Z rfl rfl k1 h5.1 (hs.2.1 h5.1) h5.2
 .exact one _ 4 rfl Z rfl rfl k2 h5.1 (hs.2.2.1 h5.1) h5.2
 .exact one _ 8 rfl Z rfl rfl k3 h5.1 (hs.2.2.2 h5.1) h5.2
def pos(e:Zd):Bool:=decide (0<e.Mask)
def ZPX(mine:List Zd)(h5:mine.length=5)(sizes:WL)(fr1:Bool)(l:List Zd):∀i:Nat,i<=5->∀(fr:Bool) (out:List Zd),out.length<=i->∃fr',LR mine fr out sizes fr1 l i=some (.own 2,[.arr 3 1 true (sizes.map ic),.arr 77 4 fr1 (l.map Zd.c),.arr 77 4 fr' ((out++(mine.drop i).filter pos).map Zd.c)]):=by
 refine down _ ?_ ?_
 .simp_all [WN.1.1.2.2,OS]
 .intro i hi ih fr out ho;have h4:=Z7 (i:=i) Z;have hlt:i<mine.length:=by omega
  have hw:w ((i:Int)+1)=((i+1:Nat):Int):=by rw[show w ((i:Int)+1)=(i:Int)+1 from h4];simp
  rw[Yi hlt,rU];by_cases e:0<mine[i].Mask
  .obtain⟨fr',h⟩:=ih false (out++[mine[i]]) (by simp;omega);refine⟨fr',WN.1.1.2.2 _ _ _ _ _ _ _ _ ?_⟩;rw[An];refine⟨Z,mine[i],by rw[Yh];exact Yd hlt,?_⟩;rw[Ya e,hw];refine⟨Z,?_⟩;simpa[pos,e]using h
  .obtain⟨fr',h⟩:=ih fr out Z;refine⟨fr',WN.1.1.2.2 _ _ _ _ _ _ _ _ ?_⟩;rw[An];refine⟨Z,mine[i],by rw[Yh];exact Yd hlt,?_⟩;rw[Yb e,hw];simpa[pos,e]using h
def ZPY{m:Zf}{sizes:WL}{qa:List Zg}{M:Int}{mine:List Zd}(h:U7 m sizes qa M mine)(hM:0<M):mine.filter pos=mine.filter sm:=by
 refine List.filter_congr λe he=>?_
 obtain⟨k,hk⟩:=List.mem_iff_getElem?.1 he;by_cases h0:e.Mask=0
 .simp[pos,sm,h0]
 .have:=(h.2 k e hk h0).mask;simp[pos,sm,h0];omega
def Jf(sizes:WL)(M:Int):Prop:=0<=M/\sizes[M.toNat]?=some (Z6 sizes M)
def Z2p{m:Zf}{sizes:WL}{a b:Zd}{k v o:Int}{mine:List Zd}{e:Zd}(he:mine[(o+1).toNat]?=some e):mine.set (o+1).toNat (Wb e (At a.Mask b.Mask) o (jc m sizes a b k) (Ve a.Ze.Steps b.Ze.Steps k v))=U6 m sizes a b k v o mine:=by
 simp[U6,he]
def ZPZ(m:Zf)(hm:Ba m)(hg:Wi m.Sort_)(sizes:WL)(c:Um sizes)(qa:List Zg)(fr:Bool)(l:List Zd)(hl:l.length<=1000){A B M:Int}(hp:Je qa A B M)(hE:WB m sizes qa A (ofM l A))(hF:WB m sizes qa B (ofM l B))(zA:Jf sizes A)(zB:Jf sizes B)(zM:Jf sizes M)(x:ZX)(k:Nat)(sh:WL)(cc:x.shared[k]?=some sh)(cd:sh.length<=1000)(hv:∀v∈sh,(-1<=v/\v<=3)/\Bj qa A v=true/\Bj qa B v=true)(r:XS):∀i,i<=sh.length->∀mine:List Zd,mine.length=5->RL sizes fr l m x ((sh.drop i).foldl (JT m sizes A B (ofM l A) (ofM l B)) mine) (w ((k:Int)+1))=some r->F2 sizes fr l m x mine k A B i=some r:=by
 have pA:=Un hp.a16;have pB:=Un hp.b16;refine down _ ?_ ?_
 .intro mine h5 h;refine WN.1.2.1 _ _ _ _ _ _ _ _ _ _ _ ⟨Z,sh,by rw[Yh];exact cc,?_⟩;rw[Ao];simpa using h
 .intro i hi ih mine h5 h;have h4:=Z7 (i:=i) Z;have hw:w ((i:Int)+1)=((i+1:Nat):Int):=by rw[show w ((i:Int)+1)=(i:Int)+1 from h4];simp
  rw[Yi hi,Yv]at h;have ih:=ih _ (by rw[show(JT m sizes A B (ofM l A) (ofM l B) mine sh[i]).length=mine.length from K3];exact h5) h;obtain⟨v1,v2,v3⟩:=hv sh[i] (Yf hi);obtain⟨a1,a2,a3,a4,a5⟩:=Iq hE hg c hp.a16 v2;obtain⟨b1,b2,b3,b4,b5⟩:=Iq hF hg c hp.b16 v3;have hlt:(sh[i]+1).toNat<mine.length:=by omega
  have he:mine[(sh[i]+1).toNat]?=some mine[(sh[i]+1).toNat]:=Yd hlt;have ea:0<=(inp m sizes A (ofM l A) sh[i]).Mask/\sizes[(inp m sizes A (ofM l A) sh[i]).Mask.toNat]?=some (Z6 sizes (inp m sizes A (ofM l A) sh[i]).Mask):=by rw[a1];exact zA
  have eb:0<=(inp m sizes B (ofM l B) sh[i]).Mask/\sizes[(inp m sizes B (ofM l B) sh[i]).Mask.toNat]?=some (Z6 sizes (inp m sizes B (ofM l B) sh[i]).Mask):=by rw[b1];exact zB
  have eab:0<=At (inp m sizes A (ofM l A) sh[i]).Mask (inp m sizes B (ofM l B) sh[i]).Mask/\sizes[(At (inp m sizes A (ofM l A) sh[i]).Mask (inp m sizes B (ofM l B) sh[i]).Mask).toNat]?=some (Z6 sizes (At (inp m sizes A (ofM l A) sh[i]).Mask (inp m sizes B (ofM l B) sh[i]).Mask)):=by rw[a1,b1,hp.or];exact zM
  have la:(inp m sizes A (ofM l A) sh[i]).Ze.Steps.length<=1000:=by omega
  have lb:(inp m sizes B (ofM l B) sh[i]).Ze.Steps.length<=1000:=by omega
  have o0:=Z2k m hm sizes mine _ _ 4 sh[i] sh[i] v1 he ea eb eab la lb;have o1:=ZPN m hm sizes mine _ _ 4 sh[i] sh[i] v1 he ea eb eab la lb;have o2:=ZPO m hm sizes mine _ _ 4 sh[i] sh[i] v1 he ea eb eab la lb;have o3:=ZPP m hm sizes mine _ _ 4 sh[i] sh[i] v1 he ea eb eab la lb;rw[Z2p he]at o0 o1 o2 o3;refine WN.1.2.1 _ _ _ _ _ _ _ _ _ _ _ ⟨Z,sh,by rw[Yh];exact cc,?_⟩;rw[An];refine⟨Z,sh[i],by rw[Yh];exact Yd hi,?_⟩;rw[hw];have bA:=hE.len _ hE.best;have bB:=hF.len _ hF.best;rcases Z2j m hm sizes fr l hl zA.1 zA.2 hE.ne Z sh[i]with ha|ha
  .refine .inl ⟨_,ha,?_⟩;rcases Z2j m hm sizes fr l hl zB.1 zB.2 hF.ne Z sh[i]with hb|hb
   .exact .inl ⟨_,hb,_,_,o0,ih⟩
   .exact .inr ⟨_,_,_,_,hb,_,_,_,o1,ih⟩
  .refine .inr ⟨_,_,_,_,ha,?_⟩;rcases Z2j m hm sizes fr l hl zB.1 zB.2 hF.ne Z sh[i]with hb|hb
   .exact .inl ⟨_,hb,_,_,_,o2,ih⟩
   .exact .inr ⟨_,_,_,_,hb,_,_,_,_,o3,ih⟩
def Z2q(m:Zf)(hm:Ba m)(sizes:WL)(qa:List Zg)(fr:Bool)(l:List Zd)(hl:l.length<=1000){A B M:Int}(hp:Je qa A B M)(hE:WB m sizes qa A (ofM l A))(b:Zd)(hb:b.Mask=B)(lb:b.Ze.Steps.length<=1000)(zA:Jf sizes A)(zB:Jf sizes B)(zM:Jf sizes M)(x:ZX)(k:Int)(r:XS):∀n:Nat,n<=5->∀mine:List Zd,mine.length=5->F2 sizes fr l m x (Jc (Jd m sizes b) (ofM l A) n (4-n) mine) k A B 0=some r->RM sizes fr l m x mine b k A B (4-n)=some r
 |0,_,mine,h5,h=>by
  apply WN.1.1.2.1;rw[Ao]
  exact h
 |n+1,hn,mine,h5,h=>by
  have pA:=Un hp.a16;have hw:w ((4:Int)-((n+1:Nat):Int)+1)=4-(n:Int):=by rw[Xn Z Z];omega
  rw[Jc,show(4:Int)-((n+1:Nat):Int)+1=4-(n:Int) by omega]at h;have hf:=ZDn l A (4-((n+1:Nat):Int));apply WN.1.1.2.1;rw[An,hw];refine⟨_,ZqX l A _ hl,?_⟩
  cases ho:BP (ofM l A) (4-((n+1:Nat):Int))with
  |none =>
   rw[ho]at hf h;simp only at hf h;rw[hf,Ao]
   exact Z2q m hm sizes qa fr l hl hp hE b hb lb zA zB zM x k r n Z mine h5 h
  |some e =>
   rw[ho]at hf h;simp only at hf h;have hmem:e∈ofM l A:=List.mem_of_find?_eq_some ho;have hov:e.Order=4-((n+1:Nat):Int):=by have:=List.find?_some ho;simpa using this
   have le:=hE.len e hmem;have me:=hE.mask e hmem;have hlt:((4-((n+1:Nat):Int))+1).toNat<mine.length:=by omega
   have he:=Yd hlt;have o0:=Z2k m hm sizes mine e b 5 0 (4-((n+1:Nat):Int)) Z he (by rw[me];exact zA) (by rw[hb];exact zB) (by rw[me,hb,hp.or];exact zM) Z lb;rw[Z2p he]at o0;rw[Ya hf.1];refine⟨e,hf.2,_,_,o0,?_⟩;rw[show Jd m sizes b mine e=U6 m sizes e b 5 0 (4-((n+1:Nat):Int)) mine by rw[Jd,hov]]at h;exact Z2q m hm sizes qa fr l hl hp hE b hb lb zA zB zM x k r n Z _ (by rw[K3];exact h5) h
def K4(m:Zf)(sizes:WL)(M:Int)(l c:List Zd)(p:Int×WL):List Zd:=Ou m sizes p.1 (M-p.1) p.2 (ofM l p.1) (ofM l (M-p.1)) c
structure Ov (m:Zf) (sizes:WL) (qa:List Zg) (l:List Zd) (M A:Int) (sh:WL):Prop where
 pair:Je qa A (M-A) M
 left:WB m sizes qa A (ofM l A)
 right:WB m sizes qa (M-A) (ofM l (M-A))
 zA:Jf sizes A
 zB:Jf sizes (M-A)
 len:sh.length<=1000
 vars:∀v∈sh,(-1<=v/\v<=3)/\Bj qa A v=true/\Bj qa (M-A) v=true
def ZQa(m:Zf)(hm:Ba m)(hg:Wi m.Sort_)(sizes:WL)(cc:Um sizes)(qa:List Zg)(fr:Bool)(l:List Zd)(hl:l.length<=1000)(x:ZX)(zM:Jf sizes x.mask)(cd:AU x.mask)(c:x.ZL.length=x.shared.length)(hx:x.ZL.length<=100)(ok:∀p∈x.ZL.zip x.shared,Ov m sizes qa l x.mask p.1 p.2)(r:XS):∀i,i<=x.ZL.length->∀mine:List Zd,mine.length=5->LR (((x.ZL.zip x.shared).drop i).foldl (K4 m sizes x.mask l) mine) true [] sizes fr l 0=some r->RL sizes fr l m x mine i=some r:=by
 have hz:(x.ZL.zip x.shared).length=x.ZL.length:=by simp[c]
 refine down _ ?_ ?_
 .simp_all [WN.1.1.1,OS]
 .intro i hi ih mine h5 h;have h4:=Z7 (i:=i) Z;have hw:w ((i:Int)+1)=((i+1:Nat):Int):=by rw[show w ((i:Int)+1)=(i:Int)+1 from h4];simp
  have hiz:i<(x.ZL.zip x.shared).length:=by omega
  have his:i<x.shared.length:=by omega
  rw[Yi hiz,Yv,List.getElem_zip]at h;have o:=ok _ (Yf hiz);rw[List.getElem_zip]at o;have ih:=ih _ (by rw[show(K4 m sizes x.mask l mine (x.ZL[i],x.shared[i])).length=mine.length from ZDx];exact h5) h;have hB:w (x.mask-x.ZL[i])=x.mask-x.ZL[i]:=by
   have:=o.pair.b16
   grind [Xn]
  obtain⟨k1,k2⟩:=Zra o.left.ne;obtain⟨j1,j2⟩:=Zra o.right.ne;have eM:=o.left.mask _ o.left.best;have fM:=o.right.mask _ o.right.best;have pA:=Un o.pair.a16;have pB:=Un o.pair.b16;have la:=o.left.len _ o.left.best;have lb:=o.right.len _ o.right.best;have hlt:((-1:Int)+1).toNat<mine.length:=by simp;omega
  have he:=Yd hlt;have o0:=Z2k m hm sizes mine _ _ 3 0 (-1) Z he (by rw[eM];exact o.zA) (by rw[fM];exact o.zB) (by rw[eM,fM,o.pair.or];exact zM) Z Z;rw[Z2p he]at o0;apply WN.1.1.1;rw[An];refine⟨Z,x.ZL[i],by rw[Yh];exact Yd hi,?_⟩;rw[hB];refine⟨_,Tn l _ hl,k1,_,k2,_,Tn l _ hl,j1,_,j2,_,_,o0,?_⟩;refine Z2q m hm sizes qa fr l hl o.pair o.left _ fM Z o.zA o.zB zM x i r 5 (Yj _) _ (by rw[K3];exact h5) ?_;rw[Z2l _ 5 _ _ _ o.left.up (λe he=>by have:=o.left.ord e he;omega)];refine ZPZ m hm hg sizes cc qa fr l hl o.pair o.left o.right o.zA o.zB zM x i _ (Yd his) o.len o.vars r 0 (Yc _) _ (by rw[Zrc,K3];exact h5) ?_;rw[hw,Yo];exact ih
def Z2r{m:Zf}{sizes:WL}{qa:List Zg}{l:List Zd}{M:Int}(hg:Wi m.Sort_)(cc:Um sizes):∀{ps:List (Int×WL)} {c:List Zd},(∀p∈ps,Ov m sizes qa l M p.1 p.2)->U7 m sizes qa M c->U7 m sizes qa M (ps.foldl (K4 m sizes M l) c)
 |[],_,_,h=>h
 |p::ps,c,hp,h=>by
  have o:=hp p Om;rw[Yv];exact Z2r hg cc (λy hy=>hp y (by simp[hy])) (ZPS o.pair hg cc o.left o.right o.vars h)
def Tq(m:Zf)(sizes:WL)(M:Int)(l:List Zd)(ps:List (Int×WL)):List Zd:=ps.foldl (K4 m sizes M l) (List.replicate 5 zE)
def ZQb(m:Zf)(hm:Ba m)(hg:Wi m.Sort_)(sizes:WL)(cc:Um sizes)(qa:List Zg)(fr:Bool)(l:List Zd)(hl:l.length<=1000)(x:ZX)(zM:Jf sizes x.mask)(cl:AU x.mask)(h0:0<x.mask)(cd:x.ZL.length=x.shared.length)(hx:x.ZL.length<=100)(ok:∀p∈x.ZL.zip x.shared,Ov m sizes qa l x.mask p.1 p.2) :
  ∃fr',zJ sizes fr l m x=some (.own 2,[.arr 3 1 true (sizes.map ic),.arr 77 4 fr (l.map Zd.c),.arr 77 4 fr' (((Tq m sizes x.mask l (x.ZL.zip x.shared)).filter sm).map Zd.c)]):=by
 have hs:U7 m sizes qa x.mask (Tq m sizes x.mask l (x.ZL.zip x.shared)):=Z2r hg cc ok (ZDy m sizes qa x.mask);obtain⟨fr',h⟩:=ZPX _ hs.1 sizes fr l 0 Z true [] (Yj _);rw[Yo,EZ,ZPY hs h0]at h;exact⟨fr',WN.1.2.2.1 _ _ _ _ _ _ (ZQa m hm hg sizes cc qa fr l hl x zM cl cd hx ok _ 0 (Yc _) _ Om (by rw[Yo];exact h))⟩
def ZQc{m:Zf}{sizes:WL}{a b:Zd}{k v o:Int}(ho:-1<=o/\o<=3)(a0 a1 a2 a3 a4:Zd):U6 m sizes a b k v o [a0,a1,a2,a3,a4] =
  [X2 0 a0 (At a.Mask b.Mask) o (jc m sizes a b k) (Ve a.Ze.Steps b.Ze.Steps k v),X2 1 a1 (At a.Mask b.Mask) o (jc m sizes a b k) (Ve a.Ze.Steps b.Ze.Steps k v),X2 2 a2 (At a.Mask b.Mask) o (jc m sizes a b k) (Ve a.Ze.Steps b.Ze.Steps k v),X2 3 a3 (At a.Mask b.Mask) o (jc m sizes a b k) (Ve a.Ze.Steps b.Ze.Steps k v),X2 4 a4 (At a.Mask b.Mask) o (jc m sizes a b k) (Ve a.Ze.Steps b.Ze.Steps k v)]:=by
 have h5:o=-1\/o=0\/o=1\/o=2\/o=3:=by omega
 rcases h5 with rfl|rfl|rfl|rfl|rfl<;>simp[U6,X2]
def five{mine:List Zd}(h:mine.length=5):∃a0 a1 a2 a3 a4,mine=[a0,a1,a2,a3,a4]:=by
 match mine,h with
 |[a0,a1,a2,a3,a4],_=>exact⟨a0,a1,a2,a3,a4,rfl⟩
def Z2s(m:Zf)(hm:Ba m)(q:Zc)(hq:AI q)(cl:Zx q.Zh q.Atoms=true)(sizes:WL)(hs:Le sizes)(cd:WT q.Zh q.Atoms sizes=true){A B M:Int}(cc:AU M)(hM:M≠0)(hp:Je q.Atoms A B M){a b:Zd}{k v o oa ob:Int}(ho:-1<=o/\o<=3)(hk:3<=k)(ha:a.Mask=A)(hb:b.Mask=B)(ma:XA m sizes q.Atoms a.Ze.Steps A oa a.Cost)(mb:XA m sizes q.Atoms b.Ze.Steps B ob b.Cost)(hj:QU q.Atoms ⟨k,0,v⟩ (A,oa) (B,ob)=some o)(hl:a.Ze.Steps.length+2<=4*Xa A/\b.Ze.Steps.length+2<=4*Xa B)(a0 a1 a2 a3 a4:Zd) :
  ∃b0 b1 b2 b3 b4 t,U6 m sizes a b k v o [a0,a1,a2,a3,a4]=[b0,b1,b2,b3,b4]/\(t=.dead\/t=.arr 149 3 true ((Ve a.Ze.Steps b.Ze.Steps k v).map Zk.c))/\F7 m q sizes M a0 a1 a2 a3 a4 (sm a0) (sm a1) (sm a2) (sm a3) (sm a4) (Ve a.Ze.Steps b.Ze.Steps k v) o=some (.tup [],[WW m q sizes M b0 b1 b2 b3 b4 (sm b0) (sm b1) (sm b2) (sm b3) (sm b4),t]):=by
 have hpop:=hp.pop;have p4:=Un cc;have mk:=ZDf (x:=⟨k,0,v⟩) ma mb hk rfl hp.dis hp.shr hj;rw[hp.or]at mk;have hc:=XA.cost mk cl (by simp only[Yu,Yx,Df];omega) cd;obtain⟨t,ht,hx⟩:=ZDj m hm q hq sizes hs M hM a0 a1 a2 a3 a4 (Ve a.Ze.Steps b.Ze.Steps k v) o ho _ hc;refine⟨_,_,_,_,_,t,ZQc ho a0 a1 a2 a3 a4,ht,?_⟩;rw[hx];simp only[jc,ha,hb,hp.or]
