/-
  Parts of the proofs for this seat: IS SJ SK SM IE YC YD YE YF YG YH.
-/
import Derived.Test.YtggcnlojfngdeaaGreatP31
set_option linter.all false
set_option maxRecDepth 100000
set_option maxHeartbeats 4000000
namespace Go.Proofs.YtggcnlojfngdeaaGreat
open Go.AM
def Z0t(m:Zf)(hm:Be m)(sizes:WL)(fr:Bool)(l:List Ze)(hl:l.length<=1000){M:Int}(h0:0<=M)(hM:sizes[M.toNat]?=some (Z5 sizes M))(cd:ofM l M≠[])(cc:(W4 (ofM l M)).Zj.Steps.length<=1000)(v:Int) :
  RU sizes fr l m M v=some (.agg ((inp m sizes M (ofM l M) v).c.map .t),[.arr 3 1 true (sizes.map ic),.arr 117 4 fr (l.map Ze.c)])\/
  RU sizes fr l m M v=some (.agg [I (inp m sizes M (ofM l M) v).Mask,I (inp m sizes M (ofM l M) v).Order,I (inp m sizes M (ofM l M) v).Cost,.own 2],[.arr 3 1 true (sizes.map ic),.arr 117 4 fr (l.map Ze.c),.arr 210 3 true ((inp m sizes M (ofM l M) v).Zj.Steps.map Zn.c)]):=by
 obtain⟨k1,k2⟩:=Zpw cd;have hf:=Z8C l M v;unfold inp
 cases ho:Ca (ofM l M) v with
 |none =>
  rw[ho]at hf;simp only at hf;refine .inr (KC.2.2.2 _ _ _ _ _ _ _ ⟨_,SH l M hl,k1,_,k2,h0,_,hM,_,KD _ hm.2.1 _ _ _,_,Zpu l M v hl,?_⟩);rw[hf,Ap]
  exact⟨_,Z83 _ _ cc,rfl⟩
 |some e =>
  rw[ho]at hf;simp only at hf;simp only;by_cases hc:e.Cost<=(Di m sizes M (ofM l M) v).Cost
  .rw[Ya hc];refine .inl (KC.2.2.2 _ _ _ _ _ _ _ ⟨_,SH l M hl,k1,_,k2,h0,_,hM,_,KD _ hm.2.1 _ _ _,_,Zpu l M v hl,?_⟩);rw[Ya hf.1];exact⟨_,hf.2,by rw[Ya (show e.Cost<=w ((W4 (ofM l M)).Cost+Xo m.Sort_ (Z5 sizes M) 0 (Z5 sizes M))from hc)]⟩
  .rw[Yb hc];refine .inr (KC.2.2.2 _ _ _ _ _ _ _ ⟨_,SH l M hl,k1,_,k2,h0,_,hM,_,KD _ hm.2.1 _ _ _,_,Zpu l M v hl,?_⟩);rw[Ya hf.1];exact⟨_,hf.2,by rw[Yb (show ¬e.Cost<=w ((W4 (ofM l M)).Cost+Xo m.Sort_ (Z5 sizes M) 0 (Z5 sizes M))from hc)];exact⟨_,Z83 _ _ cc,rfl⟩⟩
def jc(m:Zf)(sizes:WL)(a b:Ze)(k:Int):Int:=w (w (a.Cost+b.Cost)+Xo (BC m k) (Z5 sizes a.Mask) (Z5 sizes b.Mask) (Z5 sizes (Au a.Mask b.Mask)))
theorem Zqc{l:List Ze}{i:Nat}{e:Ze}(h:l[i]?=some e):l.set i e=l:=by
 grind [List.getElem?_eq_some_iff,List.set_getElem_self]
def Z0u(m:Zf)(hm:Be m)(sizes:WL)(mine:List Ze)(a b:Ze)(k v o:Int)(ho:-1<=o/\o<=3){e:Ze}(he:mine[(o+1).toNat]?=some e)(ha:0<=a.Mask/\sizes[a.Mask.toNat]?=some (Z5 sizes a.Mask))(hb:0<=b.Mask/\sizes[b.Mask.toNat]?=some (Z5 sizes b.Mask))(cc:0<=Au a.Mask b.Mask/\sizes[(Au a.Mask b.Mask).toNat]?=some (Z5 sizes (Au a.Mask b.Mask)))(la:a.Zj.Steps.length<=1000)(lb:b.Zj.Steps.length<=1000) :
  L3 sizes mine m a b k v o=some (.tup [],[.arr 3 1 true (sizes.map ic),.arr 117 4 true ((mine.set (o+1).toNat (WV e (Au a.Mask b.Mask) o (jc m sizes a b k) (Q9 a.Zj.Steps b.Zj.Steps k v))).map Ze.c)]):=by
 have hw:w (o+1)=o+1:=ZO Z Z;refine KC.1.1.1 _ _ _ _ _ _ _ _ _ ⟨BC m k,SD m k,ha.1,_,ha.2,hb.1,_,hb.2,cc.1,_,cc.2,_,KD _ (hm.op k) _ _ _,Z,e,by rw[hw];exact he,?_⟩;rw[hw];by_cases e0:e.Mask=0
 .rw[Ya e0];refine⟨_,HV a.Zj b.Zj _ _ la lb,?_⟩;simp[WV,e0,jc]
 .rw[Yb e0];by_cases e1:jc m sizes a b k<e.Cost
  .have e2:=e1;unfold jc at e2;rw[Ya e2];refine⟨_,HV a.Zj b.Zj _ _ la lb,?_⟩;unfold WV;rw[Yb e0,Ya e1];rfl
  .have e2:=e1;unfold jc at e2;rw[Yb e2];unfold WV
   grind [Zqc]
def ZMO(m:Zf)(hm:Be m)(sizes:WL)(mine:List Ze)(a b:Ze)(k v o:Int)(ho:-1<=o/\o<=3){e:Ze}(he:mine[(o+1).toNat]?=some e)(ha:0<=a.Mask/\sizes[a.Mask.toNat]?=some (Z5 sizes a.Mask))(hb:0<=b.Mask/\sizes[b.Mask.toNat]?=some (Z5 sizes b.Mask))(cc:0<=Au a.Mask b.Mask/\sizes[(Au a.Mask b.Mask).toNat]?=some (Z5 sizes (Au a.Mask b.Mask)))(la:a.Zj.Steps.length<=1000)(lb:b.Zj.Steps.length<=1000) :
  gF sizes mine b.Zj.Steps m a b.Mask b.Order b.Cost k v o=some (.tup [],[.arr 3 1 true (sizes.map ic),.arr 117 4 true ((mine.set (o+1).toNat (WV e (Au a.Mask b.Mask) o (jc m sizes a b k) (Q9 a.Zj.Steps b.Zj.Steps k v))).map Ze.c),.arr 210 3 true (b.Zj.Steps.map Zn.c)]):=by
 have hw:w (o+1)=o+1:=ZO Z Z;refine KC.2.1.1 _ _ _ _ _ _ _ _ _ _ _ _ ⟨BC m k,SD m k,ha.1,_,ha.2,hb.1,_,hb.2,cc.1,_,cc.2,_,KD _ (hm.op k) _ _ _,Z,e,by rw[hw];exact he,?_⟩;rw[hw];by_cases e0:e.Mask=0
 .rw[Ya e0];refine⟨_,HV a.Zj ⟨b.Zj.Steps⟩ _ _ la lb,?_⟩;simp[WV,e0,jc]
 .rw[Yb e0];by_cases e1:jc m sizes a b k<e.Cost
  .have e2:=e1;unfold jc at e2;rw[Ya e2];refine⟨_,HV a.Zj ⟨b.Zj.Steps⟩ _ _ la lb,?_⟩;unfold WV;rw[Yb e0,Ya e1];rfl
  .have e2:=e1;unfold jc at e2;rw[Yb e2];unfold WV
   grind [Zqc]
def ZMP(m:Zf)(hm:Be m)(sizes:WL)(mine:List Ze)(a b:Ze)(k v o:Int)(ho:-1<=o/\o<=3){e:Ze}(he:mine[(o+1).toNat]?=some e)(ha:0<=a.Mask/\sizes[a.Mask.toNat]?=some (Z5 sizes a.Mask))(hb:0<=b.Mask/\sizes[b.Mask.toNat]?=some (Z5 sizes b.Mask))(cc:0<=Au a.Mask b.Mask/\sizes[(Au a.Mask b.Mask).toNat]?=some (Z5 sizes (Au a.Mask b.Mask)))(la:a.Zj.Steps.length<=1000)(lb:b.Zj.Steps.length<=1000) :
  gG sizes mine a.Zj.Steps m a.Mask a.Order a.Cost b k v o=some (.tup [],[.arr 3 1 true (sizes.map ic),.arr 117 4 true ((mine.set (o+1).toNat (WV e (Au a.Mask b.Mask) o (jc m sizes a b k) (Q9 a.Zj.Steps b.Zj.Steps k v))).map Ze.c),.arr 210 3 true (a.Zj.Steps.map Zn.c)]):=by
 have hw:w (o+1)=o+1:=ZO Z Z;refine KC.2.1.2 _ _ _ _ _ _ _ _ _ _ _ _ ⟨BC m k,SD m k,ha.1,_,ha.2,hb.1,_,hb.2,cc.1,_,cc.2,_,KD _ (hm.op k) _ _ _,Z,e,by rw[hw];exact he,?_⟩;rw[hw];by_cases e0:e.Mask=0
 .rw[Ya e0];refine⟨_,HV ⟨a.Zj.Steps⟩ b.Zj _ _ la lb,?_⟩;simp[WV,e0,jc]
 .rw[Yb e0];by_cases e1:jc m sizes a b k<e.Cost
  .have e2:=e1;unfold jc at e2;rw[Ya e2];refine⟨_,HV ⟨a.Zj.Steps⟩ b.Zj _ _ la lb,?_⟩;unfold WV;rw[Yb e0,Ya e1];rfl
  .have e2:=e1;unfold jc at e2;rw[Yb e2];unfold WV
   grind [Zqc]
def ZMQ(m:Zf)(hm:Be m)(sizes:WL)(mine:List Ze)(a b:Ze)(k v o:Int)(ho:-1<=o/\o<=3){e:Ze}(he:mine[(o+1).toNat]?=some e)(ha:0<=a.Mask/\sizes[a.Mask.toNat]?=some (Z5 sizes a.Mask))(hb:0<=b.Mask/\sizes[b.Mask.toNat]?=some (Z5 sizes b.Mask))(cc:0<=Au a.Mask b.Mask/\sizes[(Au a.Mask b.Mask).toNat]?=some (Z5 sizes (Au a.Mask b.Mask)))(la:a.Zj.Steps.length<=1000)(lb:b.Zj.Steps.length<=1000) :
  gH sizes mine a.Zj.Steps b.Zj.Steps m a.Mask a.Order a.Cost b.Mask b.Order b.Cost k v o=some (.tup [],[.arr 3 1 true (sizes.map ic),.arr 117 4 true ((mine.set (o+1).toNat (WV e (Au a.Mask b.Mask) o (jc m sizes a b k) (Q9 a.Zj.Steps b.Zj.Steps k v))).map Ze.c),.arr 210 3 true (a.Zj.Steps.map Zn.c),.arr 210 3 true (b.Zj.Steps.map Zn.c)]):=by
 have hw:w (o+1)=o+1:=ZO Z Z;refine KC.2.2.1 _ _ _ _ _ _ _ _ _ _ _ _ _ _ _ ⟨BC m k,SD m k,ha.1,_,ha.2,hb.1,_,hb.2,cc.1,_,cc.2,_,KD _ (hm.op k) _ _ _,Z,e,by rw[hw];exact he,?_⟩;rw[hw];by_cases e0:e.Mask=0
 .rw[Ya e0];refine⟨_,HV ⟨a.Zj.Steps⟩ ⟨b.Zj.Steps⟩ _ _ la lb,?_⟩;simp[WV,e0,jc]
 .rw[Yb e0];by_cases e1:jc m sizes a b k<e.Cost
  .have e2:=e1;unfold jc at e2;rw[Ya e2];refine⟨_,HV ⟨a.Zj.Steps⟩ ⟨b.Zj.Steps⟩ _ _ la lb,?_⟩;unfold WV;rw[Yb e0,Ya e1];rfl
  .have e2:=e1;unfold jc at e2;rw[Yb e2];unfold WV
   grind [Zqc]
def KM{α:Type}(f:α->Ze->α)(E:List Ze):Nat->Int->α->α
 |0,_,x=>x
 |n+1,o,x=>KM f E n (o+1) (match Ca E o with|some e=>f x e|none=>x)
def ZAG{α:Type}(f:α->Ze->α){E F:List Ze}:∀(n:Nat) (o:Int) (x:α),(∀p,o<=p->Ca E p=Ca F p)->KM f E n o x=KM f F n o x
 |0,_,_,_=>rfl
 |n+1,o,x,h=>by
  rw[KM,KM,h o (Int.le_refl o)];exact ZAG f n (o+1) _ (λp hp=>h p Z)
def ZAH{α:Type}(f:α->Ze->α):∀(n:Nat) (o:Int) (x:α),KM f [] n o x=x
 |0,_,_=>rfl
 |n+1,o,x=>by rw[KM];exact ZAH f n (o+1) x
def Z0v{α:Type}(f:α->Ze->α):∀(n:Nat) (E:List Ze) (o:Int) (x:α),E.Pairwise (λa b=>a.Order<b.Order)->(∀e∈E,o<=e.Order/\e.Order<o+n)->KM f E n o x=E.foldl f x
 |0,[],_,_,_,_=>rfl
 |0,e::E,o,x,_,h=>by have:=h e Om;omega
 |n+1,[],o,x,_,_=>ZAH f (n+1) o x
 |n+1,e::E,o,x,hp,h=>by
  have hc:=Y9.1 hp;have he:=h e Om;rw[KM];by_cases eo:e.Order=o
  .have h1:Ca (e::E) o=some e:=by simp[Ca,eo]
   rw[h1,Y6];simp only;rw[ZAG f (F:=E) n (o+1) (f x e) (λp hpo=>by unfold Ca;rw[List.find?_cons];simp[show ¬e.Order=p by omega])];exact Z0v f n E (o+1) (f x e) hc.2 (λy hy=>by have:=hc.1 y hy;have:=h y (by simp[hy]);omega)
  .have h1:Ca (e::E) o=none:=by
    unfold Ca;rw[List.find?_eq_none];intro y hy
    have:e.Order<=y.Order:=by
     rcases Yz.1 hy with rfl|hy
     .exact Int.le_refl _
     .have:=hc.1 y hy;omega
    simp;omega
   rw[h1];simp only
   exact Z0v f n (e::E) (o+1) x hp (λy hy=>by
    have:=h y hy
    have:e.Order<=y.Order:=by
     rcases Yz.1 hy with rfl|hy
     .exact Int.le_refl _
     .have:=hc.1 y hy;omega
    omega)
def zE:Ze:=⟨0,0,0,⟨[]⟩⟩
def QJ(m:Zf)(sizes:WL)(a b:Ze)(k v o:Int)(c:List Ze):List Ze :=
 c.set (o+1).toNat (WV ((c[(o+1).toNat]?).getD zE) (Au a.Mask b.Mask) o (jc m sizes a b k) (Q9 a.Zj.Steps b.Zj.Steps k v))
def Ih(m:Zf)(sizes:WL)(b:Ze)(c:List Ze)(e:Ze):List Ze:=QJ m sizes e b 5 0 e.Order c
def Ot(m:Zf)(sizes:WL)(A B:Int)(E F c:List Ze)(v:Int):List Ze:=QJ m sizes (inp m sizes A E v) (inp m sizes B F v) 4 v v c
def Ti(m:Zf)(sizes:WL)(A B:Int)(sh:WL)(E F c:List Ze):List Ze :=
 sh.foldl (Ot m sizes A B E F) (E.foldl (Ih m sizes (W4 F)) (QJ m sizes (W4 E) (W4 F) 3 0 (-1) c))
def Kt{m:Zf}{sizes:WL}{a b:Ze}{k v o:Int}{mine:List Ze}:(QJ m sizes a b k v o mine).length=mine.length:=by simp[QJ]
def Zqd{m:Zf}{sizes:WL}{b:Ze}:∀{E c:List Ze},(E.foldl (Ih m sizes b) c).length=c.length
 |[],_=>rfl
 |e::E,c=>by rw[Y6,Zqd];exact Kt
def ZAI{m:Zf}{sizes:WL}{A B:Int}{E F:List Ze}:∀{sh:WL} {c:List Ze},(sh.foldl (Ot m sizes A B E F) c).length=c.length
 |[],_=>rfl
 |e::sh,c=>by rw[Y6,ZAI];exact Kt
def ZAJ{m:Zf}{sizes:WL}{A B:Int}{sh:WL}{E F mine:List Ze}:(Ti m sizes A B sh E F mine).length=mine.length:=by
 unfold Ti;rw[ZAI,Zqd,Kt]
structure Z0w (m:Zf) (sizes:WL) (qa:List Zd) (M:Int) (o:Int) (e:Ze):Prop where
 mask:e.Mask=M
 ord:e.Order=o
 makes:Wd m sizes qa e.Zj.Steps M o e.Cost
 len:1<=e.Zj.Steps.length/\e.Zj.Steps.length+3<=4*Xe M
def U6(m:Zf)(sizes:WL)(qa:List Zd)(M:Int)(c:List Ze):Prop :=
 c.length=5/\∀(k:Nat) (e:Ze),c[k]?=some e->e.Mask≠0->Z0w m sizes qa M ((k:Int)-1) e
def ZAK(m:Zf)(sizes:WL)(qa:List Zd)(M:Int):U6 m sizes qa M (List.replicate 5 zE):=by
 refine⟨Om,λk e h h0=>?_⟩;rw[List.getElem?_replicate]at h;split at h
 .cases h;exact absurd rfl h0
 .cases h
def ZMR{m:Zf}{sizes:WL}{qa:List Zd}{M:Int}{mine:List Ze}(h:U6 m sizes qa M mine){a b:Ze}{k v o:Int}(ho:-1<=o/\o<=3)(hM:Au a.Mask b.Mask=M)
  (c:Wd m sizes qa (Q9 a.Zj.Steps b.Zj.Steps k v) M o (jc m sizes a b k)) (hl:(Q9 a.Zj.Steps b.Zj.Steps k v).length+3<=4*Xe M):U6 m sizes qa M (QJ m sizes a b k v o mine):=by
 refine⟨by rw[Kt];exact h.1,λj e hj h0=>?_⟩;have h5:=h.1;unfold QJ at hj;have hlt:(o+1).toNat<mine.length:=by omega
 rw[List.getElem?_set]at hj;by_cases ej:(o+1).toNat=j
 .rw[Ya ej,Ya hlt]at hj;cases hj;have eo:(j:Int)-1=o:=by omega
  rw[eo];rw[Yf hlt]at h0|-;simp only[Option.getD_some]at h0|-;have hold:=h.2 (o+1).toNat mine[(o+1).toNat] (Yf hlt);have eo2:(((o+1).toNat:Nat):Int)-1=o:=by omega
  rw[eo2]at hold;have hnew:Z0w m sizes qa M o ⟨Au a.Mask b.Mask,o,jc m sizes a b k,⟨Q9 a.Zj.Steps b.Zj.Steps k v⟩⟩:=⟨hM,rfl,c,by simp[Q9];omega,hl⟩;unfold WV
  grind
 .rw[Yb ej]at hj;exact h.2 j e hj h0
def ZMS{m:Zf}{sizes:WL}{qa:List Zd}{M:Int}{mine:List Ze}(h:U6 m sizes qa M mine)(c:mine.filter sm≠[]):Vr m sizes qa M (mine.filter sm):=by
 have hg:∀e∈mine.filter sm,∃o,(-1<=o/\o<=3)/\Z0w m sizes qa M o e:=by
  intro e he;rw[CB]at he;obtain⟨k,hk⟩:=List.mem_iff_getElem?.1 he.1;have hlt:=(Y0.1 hk).1;have h5:=h.1
  have:e.Mask≠0:=by simpa[sm]using he.2
  exact⟨(k:Int)-1,Z,h.2 k e hk this⟩
 refine⟨c,?_,?_,?_,?_,?_⟩
 .rw[List.pairwise_filter,Ycm];intro i j hi hj hij s1 s2;have g1:=h.2 i _ (Yf hi) (by simpa[sm]using s1);have g2:=h.2 j _ (Yf hj) (by simpa[sm]using s2);rw[g1.ord,g2.ord];omega
 .intro e he;obtain⟨o,_,g⟩:=hg e he;exact g.mask
 .intro e he;obtain⟨o,ho,g⟩:=hg e he;rw[g.ord];exact ho
 .intro e he;obtain⟨o,_,g⟩:=hg e he;rw[g.ord];exact g.makes
 .intro e he;obtain⟨o,_,g⟩:=hg e he;exact g.len
def Tj{m:Zf}{sizes:WL}{qa:List Zd}{M:Int}{E:List Ze}(h:Vr m sizes qa M E)(hg:XG m.Sort_)(c:U0 sizes)(hM:AX M){v:Int}(hv:Bg qa M v=true) :
  (inp m sizes M E v).Mask=M/\(inp m sizes M E v).Order=v/\Wd m sizes qa (inp m sizes M E v).Zj.Steps M v (inp m sizes M E v).Cost/\1<=(inp m sizes M E v).Zj.Steps.length/\(inp m sizes M E v).Zj.Steps.length+2<=4*Xe M:=by
 have h4:=J8 hM;have hlen:=h.len _ h.best;have hb:=(h.makes _ h.best).bound Z;have hp:=ZJT hg c M M;have hu:=M7 m.Sort_ (Z5 sizes M) 0 (Z5 sizes M);have hsrt:(W4 E).Order≠v->(Di m sizes M E v).Mask=M/\(Di m sizes M E v).Order=v/\Wd m sizes qa (Di m sizes M E v).Zj.Steps M v (Di m sizes M E v).Cost/\1<=(Di m sizes M E v).Zj.Steps.length/\(Di m sizes M E v).Zj.Steps.length+2<=4*Xe M:=by
  intro hne;refine⟨rfl,rfl,h.srt_makes hv hne,?_,?_⟩<;>simp only[Di,lB,Yu,Yy,Ff]<;>omega
 unfold inp
 cases ho:Ca E v with
 |none =>
  refine hsrt (λhe=>?_);have:=Z0s h.up h.best
  simp_all
 |some e =>
  have hmem:e∈E:=List.mem_of_find?_eq_some ho;have hov:e.Order=v:=by have:=List.find?_some ho;simpa using this
  simp only;by_cases hc:e.Cost<=(Di m sizes M E v).Cost
  .rw[Ya hc];have hm:=h.makes e hmem;rw[hov]at hm;have:=h.len e hmem;exact⟨h.mask e hmem,hov,hm,Z,Z⟩
  .rw[Yb hc];refine hsrt (λhe=>hc ?_);have hx:=Z0s h.up h.best;rw[he,ho]at hx;cases hx;unfold Di
   grind [ZO]
structure Ii (qa:List Zd) (A B M:Int):Prop where
 a16:AX A
 b16:AX B
 or:Au A B=M
 dis:Aj A B=0
 shr:shr qa A B=true
 pop:Xe A+Xe B=Xe M
def Z0x{m:Zf}{sizes:WL}{qa:List Zd}{A B M:Int}(hp:Ii qa A B M){mine:List Ze}(h:U6 m sizes qa M mine){a b:Ze}{k v o oa ob:Int}(ho:-1<=o/\o<=3)(hk:3<=k)(ha:a.Mask=A)(hb:b.Mask=B)(ma:Wd m sizes qa a.Zj.Steps A oa a.Cost)(mb:Wd m sizes qa b.Zj.Steps B ob b.Cost)(hj:Kk qa ⟨k,0,v⟩ (A,oa) (B,ob)=some o)(hl:a.Zj.Steps.length+2<=4*Xe A/\b.Zj.Steps.length+2<=4*Xe B):U6 m sizes qa M (QJ m sizes a b k v o mine):=by
 have hpop:=hp.pop;refine ZMR h ho (by rw[ha,hb];exact hp.or) ?_ (by simp only[Q9,Yu,Yy,Ff];omega);have:=ZJM (x:=⟨k,0,v⟩) ma mb hk rfl hp.dis hp.shr hj;rw[hp.or]at this;unfold jc;rw[ha,hb,hp.or];exact this
def ZAL{m:Zf}{sizes:WL}{qa:List Zd}{A B M:Int}(hp:Ii qa A B M){b:Ze}{ob:Int}(hb:b.Mask=B)(mb:Wd m sizes qa b.Zj.Steps B ob b.Cost)(lb:b.Zj.Steps.length+2<=4*Xe B):∀{E c:List Ze},(∀e∈E,e.Mask=A/\(-1<=e.Order/\e.Order<=3)/\Wd m sizes qa e.Zj.Steps A e.Order e.Cost/\e.Zj.Steps.length+2<=4*Xe A)->U6 m sizes qa M c->U6 m sizes qa M (E.foldl (Ih m sizes b) c)
 |[],_,_,h=>h
 |e::E,c,he,h=>by
  obtain⟨e1,e2,e3,e4⟩:=he e Om;rw[Y6];exact ZAL hp hb mb lb (λx hx=>he x (by simp[hx])) (Z0x hp h e2 Z e1 hb e3 mb M4 ⟨e4,lb⟩)
def ZAM{m:Zf}{sizes:WL}{qa:List Zd}{A B M:Int}(hp:Ii qa A B M)(hg:XG m.Sort_)(cc:U0 sizes){E F:List Ze}(hE:Vr m sizes qa A E)(hF:Vr m sizes qa B F):∀{sh:WL} {c:List Ze},(∀v∈sh,(-1<=v/\v<=3)/\Bg qa A v=true/\Bg qa B v=true)->U6 m sizes qa M c->U6 m sizes qa M (sh.foldl (Ot m sizes A B E F) c)
 |[],_,_,h=>h
 |v::sh,c,hv,h=>by
  obtain⟨v1,v2,v3⟩:=hv v Om;obtain⟨a1,a2,a3,a4,a5⟩:=Tj hE hg cc hp.a16 v2;obtain⟨b1,b2,b3,b4,b5⟩:=Tj hF hg cc hp.b16 v3;rw[Y6];exact ZAM hp hg cc hE hF (λx hx=>hv x (by simp[hx])) (Z0x hp h v1 Z a1 b1 a3 b3 (ZJP v2 v3 rfl rfl) ⟨a5,b5⟩)
def ZMT{m:Zf}{sizes:WL}{qa:List Zd}{A B M:Int}(hp:Ii qa A B M)(hg:XG m.Sort_)(c:U0 sizes){E F:List Ze}(hE:Vr m sizes qa A E)(hF:Vr m sizes qa B F){sh:WL}{mine:List Ze}(hv:∀v∈sh,(-1<=v/\v<=3)/\Bg qa A v=true/\Bg qa B v=true)(h:U6 m sizes qa M mine):U6 m sizes qa M (Ti m sizes A B sh E F mine):=by
 have lE:=hE.len _ hE.best;have lF:=hF.len _ hF.best;have mE:=hE.makes _ hE.best;have mF:=hF.makes _ hF.best;unfold Ti;refine ZAM hp hg c hE hF hv (ZAL hp (hF.mask _ hF.best) mF Z (λe he=>⟨hE.mask e he,hE.ord e he,hE.makes e he,by have:=hE.len e he;omega⟩) ?_);exact Z0x hp h Z Z (hE.mask _ hE.best) (hF.mask _ hF.best) mE mF M3 ⟨Z,Z⟩
def Z0y{qa:List Zd}{M A:Int}(h:A∈ZQ qa M):1<=A/\A<M/\Aj A M=A/\Wt qa A=true/\Wt qa (M-A)=true:=by
 unfold ZQ Jv at h;rw[Yp]at h;obtain⟨k,hk,rfl⟩:=h;rw[CB,List.mem_range'_1]at hk;obtain⟨⟨h1,h2⟩,h3⟩:=hk;simp only[Ki,Yd,decide_eq_true_eq]at h3
 grind
def ZMU{qa:List Zd}{M:Int}{k:Nat}(h1:1<=k)(h2:(k:Int)<M)(h3:Ki qa M k=true):(k:Int)∈ZQ qa M:=by
 unfold ZQ Jv
 grind
def ZAN{qa:List Zd}{M:Int}(h:AX M):(ZQ qa M).length<=16:=by
 unfold ZQ Jv
 grind
set_option maxRecDepth 100000 in
def ZMV:∀a b c d e f g h:Bool,XT (e,f,g,h) (a,b,c,d)=(e,f,g,h)->Xe (Bl (e,f,g,h))+Xe (Bl (Ul (a,b,c,d) (e,f,g,h)))=Xe (Bl (a,b,c,d))/\orB (e,f,g,h) (Ul (a,b,c,d) (e,f,g,h))=(a,b,c,d)/\XT (e,f,g,h) (Ul (a,b,c,d) (e,f,g,h))=(false,false,false,false):=by decide
def ZAO{n:Int}{qa:List Zd}(hv:Z3 n qa=true){M:Int}(h:MQ qa M):Ok qa.length (AP M)=true:=by
 have h4:=WZ hv;have h16:=(h.m16 hv).1;obtain⟨a,rfl⟩:=m16 h16;have key:∀a:Fin 16,(a.1<2->Ok 1 (AP (a.1:Int))=true)/\(a.1<4->Ok 2 (AP (a.1:Int))=true)/\(a.1<8->Ok 3 (AP (a.1:Int))=true)/\Ok 4 (AP (a.1:Int))=true:=by decide
 grind
def AbE(g:Ed){n:Nat}(hn:1<=n/\n<=4)(p:B4):Tg g n p=true:=by
 have:=f1 g.a g.b g.c g.d g.e g.f p.1 p.2.1 p.2.2.1 p.2.2.2;have hl:n=1\/n=2\/n=3\/n=4:=by omega
 rcases hl with rfl|rfl|rfl|rfl
 .exact this.1
 .exact this.2.1
 .exact this.2.2.1
 .exact this.2.2.2
def AbF(g:Ed){n:Nat}(hn:1<=n/\n<=4)(p x:B4):Th g n p x=true:=by
 have:=f2 g.a g.b g.c g.d g.e g.f p.1 p.2.1 p.2.2.1 p.2.2.2 x.1 x.2.1 x.2.2.1 x.2.2.2;have hl:n=1\/n=2\/n=3\/n=4:=by omega
 rcases hl with rfl|rfl|rfl|rfl
 .exact this.1
 .exact this.2.1
 .exact this.2.2.1
 .exact this.2.2.2
def ZMW{n:Int}{qa:List Zd}(hv:Z3 n qa=true){M A:Int}(hM:MQ qa M)(hc:Wt qa M=true)(h:A∈ZQ qa M):Ii qa A (M-A) M:=by
 obtain⟨h1,h2,h3,_,_⟩:=Z0y h;have h16:=(hM.m16 hv).1;have a16:AX A:=by omega
 have b16:AX (M-A):=by omega
 have eM:=Z0o h16;have eA:=Z0o a16;have hsub:XT (AP A) (AP M)=AP A:=by
  grind [Z0p,Zqb]
 have eB:=ZAC hsub;rw[eM,eA]at eB;have hp:=ZMV (AP M).1 (AP M).2.1 (AP M).2.2.1 (AP M).2.2.2 (AP A).1 (AP A).2.1 (AP A).2.2.1 (AP A).2.2.2 hsub;have hp1:Xe (Bl (AP A))+Xe (Bl (Ul (AP M) (AP A)))=Xe (Bl (AP M)):=hp.1;have hp2:orB (AP A) (Ul (AP M) (AP A))=AP M:=hp.2.1;have hp3:XT (AP A) (Ul (AP M) (AP A))=(false,false,false,false):=hp.2.2;refine⟨a16,b16,?_,?_,?_,?_⟩
 .grind [ZAB]
 .rw[eB];have:=Zqb (AP A) (Ul (AP M) (AP A));rw[hp3,eA]at this;exact this
 .rw[eB];have:=ZMN (WZ hv).2 (AP A) (Ul (AP M) (AP A)) hp3;rw[eA]at this;rw[this];have h5:=AbF (Ks qa) (WZ hv) (AP M) (AP A);have hcb:=Z0r hv (AP M);rw[eM,hc]at hcb;have hin:=ZAO hv hM;have n0:AP A≠(false,false,false,false):=λhe=>by
   rw[he]at eA
   have:Bl (false,false,false,false)=0:=rfl
   omega
  have nM:AP A≠AP M:=λhe=>by rw[he,eM]at eA;omega
  unfold Th at h5
  simp_all
 .simp_all
def ZMX{n:Int}{qa:List Zd}(hv:Z3 n qa=true){M:Int}(hM:MQ qa M)(h0:M≠0)(hc:Wt qa M=true)(h1:KL (AP M)=false):ZQ qa M≠[]:=by
 have h16:=(hM.m16 hv).1;have eM:=Z0o h16;have h5:=AbE (Ks qa) (WZ hv) (AP M);have hcb:=Z0r hv (AP M);rw[eM,hc]at hcb;have hin:=ZAO hv hM;have nz:AP M≠(false,false,false,false):=λhe=>by
  rw[he]at eM
  have:Bl (false,false,false,false)=0:=rfl
  omega
 have one:∀(x:B4) (k:Nat),Bl x=(k:Int)->1<=k->KL x=true->XT x x=x->VR (Ks qa) qa.length x=true->XT (AP M) x≠(false,false,false,false)->(XT (AP M) x=x)->VR (Ks qa) qa.length (Ul (AP M) x)=true->ZQ qa M≠[]:=by
  intro x k hk hk1 hx hxx hcx hne hsub hcs;have pO:XT x (AP M)=x:=by
   have:XT x (AP M)=XT (AP M) x:=by
    obtain⟨a,b,c,d⟩:=x;show(a && (AP M).1,b && (AP M).2.1,c && (AP M).2.2.1,d && (AP M).2.2.2)=((AP M).1 && a,(AP M).2.1 && b,(AP M).2.2.1 && c,(AP M).2.2.2 && d)
    grind
   rw[this,hsub]
  have e1:=ZAC pO;rw[eM,hk]at e1;have hxm:x≠AP M:=λhe=>by rw[<-he,hx]at h1;cases h1
  have hle:(k:Int)<M:=by
   have q1:=Ol (Ul (AP M) x)
   grind [Z0p]
  have:(k:Int)∈ZQ qa M:=by
   refine ZMU hk1 hle ?_;unfold Ki
   grind [Z0r,Zqb]
  grind
 have c1:∀(g:Ed) (n:Nat),1<=n/\n<=4->VR g n (true,false,false,false)=true/\VR g n (false,true,false,false)=true/\VR g n (false,false,true,false)=true/\VR g n (false,false,false,true)=true:=by
  have key:∀a b c d e f:Bool,∀n:Fin 5,1<=n.1->VR ⟨a,b,c,d,e,f⟩ n.1 (true,false,false,false)=true/\VR ⟨a,b,c,d,e,f⟩ n.1 (false,true,false,false)=true/\VR ⟨a,b,c,d,e,f⟩ n.1 (false,false,true,false)=true/\VR ⟨a,b,c,d,e,f⟩ n.1 (false,false,false,true)=true:=by decide
  intro g n hn;exact key g.a g.b g.c g.d g.e g.f ⟨n,Z⟩ hn.1
 obtain⟨k0,k1,k2,k3⟩:=c1 (Ks qa) qa.length (WZ hv);have sel:∀a b c d:Bool,(¬XT (a,b,c,d) (true,false,false,false)=(false,false,false,false)->XT (a,b,c,d) (true,false,false,false)=(true,false,false,false))/\(¬XT (a,b,c,d) (false,true,false,false)=(false,false,false,false)->XT (a,b,c,d) (false,true,false,false)=(false,true,false,false))/\(¬XT (a,b,c,d) (false,false,true,false)=(false,false,false,false)->XT (a,b,c,d) (false,false,true,false)=(false,false,true,false))/\(¬XT (a,b,c,d) (false,false,false,true)=(false,false,false,false)->XT (a,b,c,d) (false,false,false,true)=(false,false,false,true)):=by
  intro a b c d;cases a<;>cases b<;>cases c<;>cases d<;>simp[XT]
 have hs:=sel (AP M).1 (AP M).2.1 (AP M).2.2.1 (AP M).2.2.2;unfold Tg at h5;rw[hin,<-hcb,h1]at h5;have nz':(AP M == (false,false,false,false))=false:=by simpa using nz
 rw[nz']at h5;simp only[Bool.not_true,Fh,rF,Yd,bne_iff_ne,ne_eq]at h5;rcases h5 with((h5|h5)|h5)|h5
 .exact one _ 1 rfl Z rfl rfl k0 h5.1 (hs.1 h5.1) h5.2
 .exact one _ 2 rfl Z rfl rfl k1 h5.1 (hs.2.1 h5.1) h5.2
 .exact one _ 4 rfl Z rfl rfl k2 h5.1 (hs.2.2.1 h5.1) h5.2
 .exact one _ 8 rfl Z rfl rfl k3 h5.1 (hs.2.2.2 h5.1) h5.2
def pos(e:Ze):Bool:=decide (0<e.Mask)
def ZMY(mine:List Ze)(h5:mine.length=5)(sizes:WL)(fr1:Bool)(l:List Ze):∀i:Nat,i<=5->∀(fr:Bool) (out:List Ze),out.length<=i->∃fr',L4 mine fr out sizes fr1 l i=some (.own 2,[.arr 3 1 true (sizes.map ic),.arr 117 4 fr1 (l.map Ze.c),.arr 117 4 fr' ((out++(mine.drop i).filter pos).map Ze.c)]):=by
 refine down _ ?_ ?_
 .simp_all [WJ.1.1.2.2,OP]
 .intro i hi ih fr out ho;have h4:=ZK (i:=i) Z;have hlt:i<mine.length:=by omega
  have hw:w ((i:Int)+1)=((i+1:Nat):Int):=by rw[show w ((i:Int)+1)=(i:Int)+1 from h4];simp
  rw[Yh hlt,List.filter_cons];by_cases e:0<mine[i].Mask
  .obtain⟨fr',h⟩:=ih false (out++[mine[i]]) (by simp;omega);refine⟨fr',WJ.1.1.2.2 _ _ _ _ _ _ _ _ ?_⟩;rw[Ao];refine⟨Z,mine[i],by rw[Yj];exact Yf hlt,?_⟩;rw[Ya e,hw];refine⟨Z,?_⟩;simpa[pos,e]using h
  .obtain⟨fr',h⟩:=ih fr out Z;refine⟨fr',WJ.1.1.2.2 _ _ _ _ _ _ _ _ ?_⟩;rw[Ao];refine⟨Z,mine[i],by rw[Yj];exact Yf hlt,?_⟩;rw[Yb e,hw];simpa[pos,e]using h
def ZMZ{m:Zf}{sizes:WL}{qa:List Zd}{M:Int}{mine:List Ze}(h:U6 m sizes qa M mine)(hM:0<M):mine.filter pos=mine.filter sm:=by
 refine List.filter_congr λe he=>?_
 obtain⟨k,hk⟩:=List.mem_iff_getElem?.1 he;by_cases h0:e.Mask=0
 .simp[pos,sm,h0]
 .have:=(h.2 k e hk h0).mask;simp[pos,sm,h0];omega
def KN(sizes:WL)(M:Int):Prop:=0<=M/\sizes[M.toNat]?=some (Z5 sizes M)
def Z0z{m:Zf}{sizes:WL}{a b:Ze}{k v o:Int}{mine:List Ze}{e:Ze}(he:mine[(o+1).toNat]?=some e):mine.set (o+1).toNat (WV e (Au a.Mask b.Mask) o (jc m sizes a b k) (Q9 a.Zj.Steps b.Zj.Steps k v))=QJ m sizes a b k v o mine:=by
 simp[QJ,he]
def ZNa(m:Zf)(hm:Be m)(hg:XG m.Sort_)(sizes:WL)(c:U0 sizes)(qa:List Zd)(fr:Bool)(l:List Ze)(hl:l.length<=1000){A B M:Int}(hp:Ii qa A B M)(hE:Vr m sizes qa A (ofM l A))(hF:Vr m sizes qa B (ofM l B))(zA:KN sizes A)(zB:KN sizes B)(zM:KN sizes M)(x:ZU)(k:Nat)(sh:WL)(cc:x.shared[k]?=some sh)(cd:sh.length<=1000)(hv:∀v∈sh,(-1<=v/\v<=3)/\Bg qa A v=true/\Bg qa B v=true)(r:XS):∀i,i<=sh.length->∀mine:List Ze,mine.length=5->RW sizes fr l m x ((sh.drop i).foldl (Ot m sizes A B (ofM l A) (ofM l B)) mine) (w ((k:Int)+1))=some r->F0 sizes fr l m x mine k A B i=some r:=by
 have pA:=J8 hp.a16;have pB:=J8 hp.b16;refine down _ ?_ ?_
 .intro mine h5 h;refine WJ.1.2.1 _ _ _ _ _ _ _ _ _ _ _ ⟨Z,sh,by rw[Yj];exact cc,?_⟩;rw[Ap];simpa using h
 .intro i hi ih mine h5 h;have h4:=ZK (i:=i) Z;have hw:w ((i:Int)+1)=((i+1:Nat):Int):=by rw[show w ((i:Int)+1)=(i:Int)+1 from h4];simp
  rw[Yh hi,Y6]at h;have ih:=ih _ (by rw[show(Ot m sizes A B (ofM l A) (ofM l B) mine sh[i]).length=mine.length from Kt];exact h5) h;obtain⟨v1,v2,v3⟩:=hv sh[i] (Ye hi);obtain⟨a1,a2,a3,a4,a5⟩:=Tj hE hg c hp.a16 v2;obtain⟨b1,b2,b3,b4,b5⟩:=Tj hF hg c hp.b16 v3;have hlt:(sh[i]+1).toNat<mine.length:=by omega
  have he:mine[(sh[i]+1).toNat]?=some mine[(sh[i]+1).toNat]:=Yf hlt;have ea:0<=(inp m sizes A (ofM l A) sh[i]).Mask/\sizes[(inp m sizes A (ofM l A) sh[i]).Mask.toNat]?=some (Z5 sizes (inp m sizes A (ofM l A) sh[i]).Mask):=by rw[a1];exact zA
  have eb:0<=(inp m sizes B (ofM l B) sh[i]).Mask/\sizes[(inp m sizes B (ofM l B) sh[i]).Mask.toNat]?=some (Z5 sizes (inp m sizes B (ofM l B) sh[i]).Mask):=by rw[b1];exact zB
  have eab:0<=Au (inp m sizes A (ofM l A) sh[i]).Mask (inp m sizes B (ofM l B) sh[i]).Mask/\sizes[(Au (inp m sizes A (ofM l A) sh[i]).Mask (inp m sizes B (ofM l B) sh[i]).Mask).toNat]?=some (Z5 sizes (Au (inp m sizes A (ofM l A) sh[i]).Mask (inp m sizes B (ofM l B) sh[i]).Mask)):=by rw[a1,b1,hp.or];exact zM
  have la:(inp m sizes A (ofM l A) sh[i]).Zj.Steps.length<=1000:=by omega
  have lb:(inp m sizes B (ofM l B) sh[i]).Zj.Steps.length<=1000:=by omega
  have o0:=Z0u m hm sizes mine _ _ 4 sh[i] sh[i] v1 he ea eb eab la lb;have o1:=ZMO m hm sizes mine _ _ 4 sh[i] sh[i] v1 he ea eb eab la lb;have o2:=ZMP m hm sizes mine _ _ 4 sh[i] sh[i] v1 he ea eb eab la lb;have o3:=ZMQ m hm sizes mine _ _ 4 sh[i] sh[i] v1 he ea eb eab la lb;rw[Z0z he]at o0 o1 o2 o3;refine WJ.1.2.1 _ _ _ _ _ _ _ _ _ _ _ ⟨Z,sh,by rw[Yj];exact cc,?_⟩;rw[Ao];refine⟨Z,sh[i],by rw[Yj];exact Yf hi,?_⟩;rw[hw];have bA:=hE.len _ hE.best;have bB:=hF.len _ hF.best;rcases Z0t m hm sizes fr l hl zA.1 zA.2 hE.ne Z sh[i]with ha|ha
  .refine .inl ⟨_,ha,?_⟩;rcases Z0t m hm sizes fr l hl zB.1 zB.2 hF.ne Z sh[i]with hb|hb
   .exact .inl ⟨_,hb,_,_,o0,ih⟩
   .exact .inr ⟨_,_,_,_,hb,_,_,_,o1,ih⟩
  .refine .inr ⟨_,_,_,_,ha,?_⟩;rcases Z0t m hm sizes fr l hl zB.1 zB.2 hF.ne Z sh[i]with hb|hb
   .exact .inl ⟨_,hb,_,_,_,o2,ih⟩
   .exact .inr ⟨_,_,_,_,hb,_,_,_,_,o3,ih⟩
def Z00(m:Zf)(hm:Be m)(sizes:WL)(qa:List Zd)(fr:Bool)(l:List Ze)(hl:l.length<=1000){A B M:Int}(hp:Ii qa A B M)(hE:Vr m sizes qa A (ofM l A))(b:Ze)(hb:b.Mask=B)(lb:b.Zj.Steps.length<=1000)(zA:KN sizes A)(zB:KN sizes B)(zM:KN sizes M)(x:ZU)(k:Int)(r:XS):∀n:Nat,n<=5->∀mine:List Ze,mine.length=5->F0 sizes fr l m x (KM (Ih m sizes b) (ofM l A) n (4-n) mine) k A B 0=some r->RX sizes fr l m x mine b k A B (4-n)=some r
 |0,_,mine,h5,h=>by
  apply WJ.1.1.2.1;rw[Ap]
  exact h
 |n+1,hn,mine,h5,h=>by
  have pA:=J8 hp.a16;have hw:w ((4:Int)-((n+1:Nat):Int)+1)=4-(n:Int):=by rw[ZO Z Z];omega
  rw[KM,show(4:Int)-((n+1:Nat):Int)+1=4-(n:Int) by omega]at h;have hf:=Z8C l A (4-((n+1:Nat):Int));apply WJ.1.1.2.1;rw[Ao,hw];refine⟨_,Zpu l A _ hl,?_⟩
  cases ho:Ca (ofM l A) (4-((n+1:Nat):Int))with
  |none =>
   rw[ho]at hf h;simp only at hf h;rw[hf,Ap]
   exact Z00 m hm sizes qa fr l hl hp hE b hb lb zA zB zM x k r n Z mine h5 h
  |some e =>
   rw[ho]at hf h;simp only at hf h;have hmem:e∈ofM l A:=List.mem_of_find?_eq_some ho;have hov:e.Order=4-((n+1:Nat):Int):=by have:=List.find?_some ho;simpa using this
   have le:=hE.len e hmem;have me:=hE.mask e hmem;have hlt:((4-((n+1:Nat):Int))+1).toNat<mine.length:=by omega
   have he:=Yf hlt;have o0:=Z0u m hm sizes mine e b 5 0 (4-((n+1:Nat):Int)) Z he (by rw[me];exact zA) (by rw[hb];exact zB) (by rw[me,hb,hp.or];exact zM) Z lb;rw[Z0z he]at o0;rw[Ya hf.1];refine⟨e,hf.2,_,_,o0,?_⟩;rw[show Ih m sizes b mine e=QJ m sizes e b 5 0 (4-((n+1:Nat):Int)) mine by rw[Ih,hov]]at h;exact Z00 m hm sizes qa fr l hl hp hE b hb lb zA zB zM x k r n Z _ (by rw[Kt];exact h5) h
def Ij(m:Zf)(sizes:WL)(M:Int)(l c:List Ze)(p:Int×WL):List Ze:=Ti m sizes p.1 (M-p.1) p.2 (ofM l p.1) (ofM l (M-p.1)) c
structure Tk (m:Zf) (sizes:WL) (qa:List Zd) (l:List Ze) (M A:Int) (sh:WL):Prop where
 pair:Ii qa A (M-A) M
 left:Vr m sizes qa A (ofM l A)
 right:Vr m sizes qa (M-A) (ofM l (M-A))
 zA:KN sizes A
 zB:KN sizes (M-A)
 len:sh.length<=1000
 vars:∀v∈sh,(-1<=v/\v<=3)/\Bg qa A v=true/\Bg qa (M-A) v=true
def ZNb(m:Zf)(hm:Be m)(hg:XG m.Sort_)(sizes:WL)(cc:U0 sizes)(qa:List Zd)(fr:Bool)(l:List Ze)(hl:l.length<=1000)(x:ZU)(zM:KN sizes x.mask)(cd:AX x.mask)(c:x.ZQ.length=x.shared.length)(hx:x.ZQ.length<=100)(ok:∀p∈x.ZQ.zip x.shared,Tk m sizes qa l x.mask p.1 p.2)(r:XS):∀i,i<=x.ZQ.length->∀mine:List Ze,mine.length=5->L4 (((x.ZQ.zip x.shared).drop i).foldl (Ij m sizes x.mask l) mine) true [] sizes fr l 0=some r->RW sizes fr l m x mine i=some r:=by
 have hz:(x.ZQ.zip x.shared).length=x.ZQ.length:=by simp[c]
 refine down _ ?_ ?_
 .simp_all [WJ.1.1.1,OP]
 .intro i hi ih mine h5 h;have h4:=ZK (i:=i) Z;have hw:w ((i:Int)+1)=((i+1:Nat):Int):=by rw[show w ((i:Int)+1)=(i:Int)+1 from h4];simp
  have hiz:i<(x.ZQ.zip x.shared).length:=by omega
  have his:i<x.shared.length:=by omega
  rw[Yh hiz,Y6,List.getElem_zip]at h;have o:=ok _ (Ye hiz);rw[List.getElem_zip]at o;have ih:=ih _ (by rw[show(Ij m sizes x.mask l mine (x.ZQ[i],x.shared[i])).length=mine.length from ZAJ];exact h5) h;have hB:w (x.mask-x.ZQ[i])=x.mask-x.ZQ[i]:=by
   have:=o.pair.b16
   grind [ZO]
  obtain⟨k1,k2⟩:=Zpw o.left.ne;obtain⟨j1,j2⟩:=Zpw o.right.ne;have eM:=o.left.mask _ o.left.best;have fM:=o.right.mask _ o.right.best;have pA:=J8 o.pair.a16;have pB:=J8 o.pair.b16;have la:=o.left.len _ o.left.best;have lb:=o.right.len _ o.right.best;have hlt:((-1:Int)+1).toNat<mine.length:=by simp;omega
  have he:=Yf hlt;have o0:=Z0u m hm sizes mine _ _ 3 0 (-1) Z he (by rw[eM];exact o.zA) (by rw[fM];exact o.zB) (by rw[eM,fM,o.pair.or];exact zM) Z Z;rw[Z0z he]at o0;apply WJ.1.1.1;rw[Ao];refine⟨Z,x.ZQ[i],by rw[Yj];exact Yf hi,?_⟩;rw[hB];refine⟨_,SH l _ hl,k1,_,k2,_,SH l _ hl,j1,_,j2,_,_,o0,?_⟩;refine Z00 m hm sizes qa fr l hl o.pair o.left _ fM Z o.zA o.zB zM x i r 5 (Yk _) _ (by rw[Kt];exact h5) ?_;rw[Z0v _ 5 _ _ _ o.left.up (λe he=>by have:=o.left.ord e he;omega)];refine ZNa m hm hg sizes cc qa fr l hl o.pair o.left o.right o.zA o.zB zM x i _ (Yf his) o.len o.vars r 0 (Yc _) _ (by rw[Zqd,Kt];exact h5) ?_;rw[hw,Yq];exact ih
def Z01{m:Zf}{sizes:WL}{qa:List Zd}{l:List Ze}{M:Int}(hg:XG m.Sort_)(cc:U0 sizes):∀{ps:List (Int×WL)} {c:List Ze},(∀p∈ps,Tk m sizes qa l M p.1 p.2)->U6 m sizes qa M c->U6 m sizes qa M (ps.foldl (Ij m sizes M l) c)
 |[],_,_,h=>h
 |p::ps,c,hp,h=>by
  have o:=hp p Om;rw[Y6];exact Z01 hg cc (λy hy=>hp y (by simp[hy])) (ZMT o.pair hg cc o.left o.right o.vars h)
def Tl(m:Zf)(sizes:WL)(M:Int)(l:List Ze)(ps:List (Int×WL)):List Ze:=ps.foldl (Ij m sizes M l) (List.replicate 5 zE)
def ZNc(m:Zf)(hm:Be m)(hg:XG m.Sort_)(sizes:WL)(cc:U0 sizes)(qa:List Zd)(fr:Bool)(l:List Ze)(hl:l.length<=1000)(x:ZU)(zM:KN sizes x.mask)(cl:AX x.mask)(h0:0<x.mask)(cd:x.ZQ.length=x.shared.length)(hx:x.ZQ.length<=100)(ok:∀p∈x.ZQ.zip x.shared,Tk m sizes qa l x.mask p.1 p.2) :
  ∃fr',zU sizes fr l m x=some (.own 2,[.arr 3 1 true (sizes.map ic),.arr 117 4 fr (l.map Ze.c),.arr 117 4 fr' (((Tl m sizes x.mask l (x.ZQ.zip x.shared)).filter sm).map Ze.c)]):=by
 have hs:U6 m sizes qa x.mask (Tl m sizes x.mask l (x.ZQ.zip x.shared)):=Z01 hg cc ok (ZAK m sizes qa x.mask);obtain⟨fr',h⟩:=ZMY _ hs.1 sizes fr l 0 Z true [] (Yk _);rw[Yq,DW,ZMZ hs h0]at h;exact⟨fr',WJ.1.2.2.1 _ _ _ _ _ _ (ZNb m hm hg sizes cc qa fr l hl x zM cl cd hx ok _ 0 (Yc _) _ Om (by rw[Yq];exact h))⟩
def five{mine:List Ze}(h:mine.length=5):∃a0 a1 a2 a3 a4,mine=[a0,a1,a2,a3,a4]:=by
 match mine,h with
 |[a0,a1,a2,a3,a4],_=>exact⟨a0,a1,a2,a3,a4,rfl⟩
