/-
  Parts of the proofs for this seat: V1 V2 V3 V4 V5 V6 OP AD MK SP LS WA.
-/
import Derived.Test.YtgbipcfdgfjplaaGreatP8
import Derived.Test.YtgbipcfdgfjplaaGreatP12
import Derived.Test.YtgbipcfdgfjplaaGreatP13
import Derived.Test.YtgbipcfdgfjplaaGreatP14
import Derived.Test.YtgbipcfdgfjplaaGreatP15
import Derived.Test.YtgbipcfdgfjplaaGreatP16
import Derived.Test.YtgbipcfdgfjplaaGreatP17
import Derived.Test.YtgbipcfdgfjplaaGreatP18
import Derived.Test.YtgbipcfdgfjplaaGreatP19
set_option linter.unusedSectionVars false
set_option linter.unusedSimpArgs false
set_option linter.unusedVariables false
set_option maxRecDepth 100000
set_option maxHeartbeats 4000000
namespace Go.Proofs.YtgbipcfdgfjplaaGreat
open Go.AM
@[simp] theorem WN(a b c:Int):ZC a b c=some (Bo (inR a b c),[]):=by
 refine Z7r _ _ _ _ ?_;by_cases h:b<=a<;>simp[inR,h]
@[simp] theorem XD(a b c:Int):ZB a b c=some (Bo (inR a b c),[]):=by
 refine Z6L _ _ _ _ ?_;by_cases h:b<=a<;>simp[inR,h]
theorem Z9r(xs:WA)(v:Int)(hx:Le xs):∀i,i<=xs.length->
  ZeM xs v xs.length i=some (I (ZM (λx=>decide (v=x)) (xs.drop i) i),[]):=by
 refine down _ ?_ ?_
 .refine Zx2 _ _ _ _ _ ?_;simp[ZM]
 .intro i hi ih;refine Zx2 _ _ _ _ _ ?_;have h4:=ZL (i:=i) (by omega);rw[Kz _ hi];simp at ih;by_cases e:v=xs[i]<;>simp[hi,h4,e,ih]
@[simp] theorem Z9s(xs:WA)(v:Int)(hx:Le xs):WX xs v=some (I (ZM (λx=>decide (v=x)) xs 0),[]):=by
 refine Z7t _ _ _ ?_;have:=Z9r xs v hx 0 (Yd _);simpa using this
@[simp] theorem ZaT(xs:WA)(v:Int)(hx:Le xs):VY xs v=some (Bo (has xs v),[]):=by
 refine Z7u _ _ _ ?_;unfold has;rcases tf (xs.any (λx=>decide (v=x)))with e|e
 .simp[hx,Zef _ _ _ e,e]
 .have:=Zhk _ _ 0 e;simp[hx,this,e]
theorem Z9t(xs:List Bool)(v:Bool)(hx:Le xs):∀i,i<=xs.length->
  Zce xs v xs.length i=some (I (ZM (λx=>v == x) (xs.drop i) i),[]):=by
 refine down _ ?_ ?_
 .refine Zx3 _ _ _ _ _ ?_;simp[ZM]
 .intro i hi ih;refine Zx3 _ _ _ _ _ ?_;have h4:=ZL (i:=i) (by omega);rw[Kz _ hi];simp at ih;by_cases e:v=xs[i]<;>simp[hi,h4,e,ih]
@[simp] theorem Z9u(xs:List Bool)(v:Bool)(hx:Le xs):ZeN xs v=some (Bo (xs.any (λx=>v == x)),[]):=by
 refine Z7w _ _ _ ?_;have q:ZhM xs v=some (I (ZM (λx=>v == x) xs 0),[]):=by
  refine Z7v _ _ _ ?_;have:=Z9t xs v hx 0 (Yd _);simpa using this
 rcases tf (xs.any (λx=>v == x))with e|e
 .rw[Zef _ _ _ e]at q;rw[e];simp[q]
 .have:=Zhk _ _ 0 e;rw[e];simp[q,this]
theorem Z9v(xs:WA)(v:Int)(hx:Le xs):∀i,i<=xs.length->Zew xs v i=some (Bo (has (xs.drop i) v),[]):=by
 unfold has;refine down _ ?_ ?_
 .refine ZwR _ _ _ _ ?_;simp
 .intro i hi ih;refine ZwR _ _ _ _ ?_;have h4:=ZL (i:=i) (by omega);rw[Z3v _ hi];simp at ih;by_cases e:v=xs[i]
  .simp[hi,h4,<-e]
  .have e':¬xs[i]=v:=λhc=>e hc.symm
   simp[hi,h4,e,e',ih]
@[simp] theorem Zdg(xs:WA)(v:Int)(hx:Le xs):VX xs v=some (Bo (has xs v),[]):=by
 refine Z6O _ _ _ ?_;have:=Z9v xs v hx 0 (Yd _);simpa using this
theorem Zzt(s:V5)(P:Prop):(if(s.size:Int)=1 then(∃(b1:UInt8),s[0]?=some b1/\(if 97<=(b1.toNat:Int)then(some (Bo (decide ((b1.toNat:Int)<=122)),[])=some (Bo (WU s),([]:V1)))else(some (Bo false,[])=some (Bo (WU s),([]:V1)))))else(some (Bo false,[])=some (Bo (WU s),([]:V1)))):=by
 by_cases h:s.size=1
 .obtain⟨b,hb⟩:=get0 h;rw[Ya (by omega)];refine⟨b,hb,?_⟩;have e:WU s=(decide (97<=(b.toNat:Int)) && decide ((b.toNat:Int)<=122)):=by
   unfold WU;rw[hb];simp only[h,decide_true,Yy]
  by_cases h1:(97:Int)<=(b.toNat:Int)
  .rw[Ya h1,e,decide_eq_true h1,Yy]
  .rw[Yb h1,e,decide_eq_false h1,Ydq]
 .have h':¬(s.size:Int)=1:=by omega
  have:WU s=false:=by unfold WU;split<;>simp[h]
  simp[h',this]
@[simp] theorem Z9w(s:V5):JX s=some (Bo (WU s),[]):=Z7s _ _ (Zzt s True)
@[simp] theorem Z9x(s:V5):ZbI s=some (Bo (WU s),[]):=Z6N _ _ (Zzt s True)
def LeQ(q:Ze):Prop:=Le q.Atoms/\∀a∈q.Atoms,Le a.Vars
def blB(p:Nat->Bool)(n:Nat):List Bool:=(List.range n).map p
theorem Z9y(p:Nat->Bool)(n:Nat){v:Int}(h:inR v 0 ((n:Int)-1)=true):(blB p n).set v.toNat true=blB (Xw p [v]) n:=by
 simp[inR]at h;apply Yca
 .simp[blB]
 .intro i h1 h2;simp only[blB,Ybq,Y6,List.length_range]at h1;rw[List.getElem_set];simp only[blB,List.getElem_map,List.getElem_range];by_cases e:v.toNat=i
  .have:(i:Int)=v:=by omega
   simp[e,Xw,has,this]
  .have:¬(i:Int)=v:=by omega
   simp[e,Xw,has,this]
theorem Z9z(q:Ze)(n:Nat)(hn:n<=4)(hq:q.Zk=n)(a:Zc)(qa:List Zc)(l j:Int)(hv:Le a.Vars)(r:XR):∀k,k<=a.Vars.length->∀p,
  (if Vo n (a.Vars.take k) (a.Vars.drop k)=true then JZ q (blB (Xw p (a.Vars.drop k)) n) qa l (w (j+1))=some r else some (Bo false,[])=some r)->
  ZeP q (blB p n) a qa l j a.Vars a.Vars.length k=some r:=by
 refine down _ ?_ ?_
 .intro p h;refine Zx6 _ _ _ _ _ _ _ _ _ _ ?_;simpa[Vo,ZkL]using h
 .intro k hk ih p h;have h4:=ZL (i:=k) (by omega);have hw:w (q.Zk-1)=(n:Int)-1:=by rw[hq];exact ZD (by omega) (by omega)
  have hl:=ZaT (a.Vars.take k) a.Vars[k] (by simp;omega);refine Zx6 _ _ _ _ _ _ _ _ _ _ ?_;rw[ZsB _ hk]at h;rcases tf (inR a.Vars[k] 0 ((n:Int)-1))with e1|e1
  .simp[e1]at h;simp[hk,h4,hw,e1,<-h]
  .rcases tf (has (a.Vars.take k) a.Vars[k])with e2|e2
   .rw[ZkM p hk]at h;simp only[e1,e2,Yy,Bool.not_false]at h;have ih:=ih _ h;have e0:=e1;simp[inR]at e0;have e5:(a.Vars[k]).toNat<(blB p n).length:=by simp[blB];omega
    have e6:=Z9y p n e1;have e7:k<=a.Vars.length:=by omega
    simp at ih;simp[hk,h4,hw,e1,e2,hl,e0,e5,e6,e7,ih]
   .simp[e1,e2]at h;have e7:k<=a.Vars.length:=by omega
    simp[hk,h4,hw,e1,e2,hl,e7,<-h]
theorem Z90(q:Ze)(n:Nat)(hn:n<=4)(hq:q.Zk=n)(qa:List Zc)(hl:Le qa)(hv:∀a∈qa,Le a.Vars):∀k,k<=qa.length->∀p,
  JZ q (blB p n) qa qa.length k=some (Bo ((qa.drop k).all (XO n) && (List.range n).all (WV p (qa.drop k))),[]):=by
 refine down _ ?_ ?_
 .intro p;refine Zx5 _ _ _ _ _ _ ?_;have e:WV p []=p:=by funext u;simp[WV]
  have q1:=Z9u (blB p n) false (by simp[blB];omega);have q2:(blB p n).any (λx=>false == x)=!(List.range n).all p:=bl_any p n;rw[q2]at q1;simp[q1,e]
 .intro k hk ih p;refine Zx5 _ _ _ _ _ _ ?_;have h4:=ZL (i:=k) (by omega);rw[Zs8 _ hk];rcases tf (WU qa[k].Name)with e1|e1
  .simp[hk,e1,XO]
  rcases tf (inR qa[k].Vars.length 1 3)with e2|e2
  .simp[hk,e1,e2,XO]
  have b:=Z9z q n hn hq qa[k] qa qa.length k (hv _ (Yh hk)) (Bo (XO n qa[k] && (qa.drop (k+1)).all (XO n) && (List.range n).all (WV p (qa.drop k))),[]) 0 (Yd _) p ?_
  .simp at b;simp[hk,e1,e2,b]
  .simp only[Ycq,Yo,XO,e1,e2,Yy];rcases tf (Vo n [] qa[k].Vars)with e3|e3
   .simp[e3]
   .have ih:=ih (Xw p qa[k].Vars);simp only[e3,if_true,Yy,ZsC p hk];simp at ih;rw[show w ((k:Int)+1)=(k:Int)+1 from h4,ih]
@[simp] theorem Zzu(q:Ze)(h:LeQ q):JY q=some (Bo (Zu q.Zk q.Atoms),[]):=by
 refine Z78 ?_;unfold Zu;rcases tf (inR q.Zk 1 4)with e1|e1
 .simp[e1]
 rcases tf (inR q.Atoms.length 1 4)with e2|e2
 .simp[e1,e2]
 have e0:=e1;simp[inR]at e0;have hn:q.Zk=(q.Zk.toNat:Int):=by omega
 have b:=Z90 q q.Zk.toNat (by omega) hn q.Atoms h.1 h.2 0 (Yd _) (λ_=>false);have r1:q.Zk.toNat<=room:=room2 (by omega);have r2:q.Zk<=room:=by
  have:(q.Zk.toNat:Int)<=room:=by exact_mod_cast r1
  omega
 have r3:q.Zk<=140737488355328:=by omega
 have ez:blB (λ_=>false) q.Zk.toNat=List.replicate q.Zk.toNat false:=by
  apply Yca<;>simp[blB]
 rw[ez,<-hn]at b;simp at b;simp[e1,e2,e0,r1,r2,r3,b];omega
theorem Z91(q:Ze)(n:Nat)(c:1<=n)(hn:n<=4)(hq:q.Zk=n)(a:Zc)(j:Int)(hv:Le a.Vars)(r:XR):∀k,k<=a.Vars.length->∀p,
  (if Vo n (a.Vars.take k) (a.Vars.drop k)=true then ZbJ q (ZH (Xw p (a.Vars.drop k))) (w (j+1))=some r else some (Bo false,[])=some r)->
  Zex q a (ZH p) j k=some r:=by
 refine down _ ?_ ?_
 .intro p h;refine ZwT _ _ _ _ _ _ ?_;simpa[Vo,ZkL]using h
 .intro k hk ih p h;have h4:=ZL (i:=k) (by omega);have hw:w (q.Zk-1)=(n:Int)-1:=by rw[hq];exact ZD (by omega) (by omega)
  have hl:=Zdg (a.Vars.take k) a.Vars[k] (by simp;omega);have e7:k<=a.Vars.length:=by omega
  refine ZwT _ _ _ _ _ _ ?_;rw[ZsB _ hk]at h;rcases tf (inR a.Vars[k] 0 ((n:Int)-1))with e1|e1
  .simp[e1]at h;simp[hk,h4,hw,e1,<-h]
  .rcases tf (has (a.Vars.take k) a.Vars[k])with e2|e2
   .rw[ZkM p hk]at h;simp only[e1,e2,Yy,Bool.not_false]at h;have ih:=ih _ h;have e0:=e1;simp[inR]at e0;have e6:=ZkN p (v:=a.Vars[k]) (by simp[inR];omega);have e8:¬a.Vars[k]<0:=by omega
    simp at ih;simp[hk,h4,hw,e1,e2,hl,e0,e6,e7,e8,ih]
   .simp[e1,e2]at h;simp[hk,h4,hw,e1,e2,hl,e7,<-h]
def Zgi(n:Int)(p:Nat->Bool):Bool:=decide (ZH p=w (shlI 1 n-1))
theorem Z92(q:Ze)(n:Nat)(c:1<=n)(hn:n<=4)(hq:q.Zk=n)(hl:Le q.Atoms)(hv:∀a∈q.Atoms,Le a.Vars):∀k,k<=q.Atoms.length->∀p,
  ZbJ q (ZH p) k=some (Bo ((q.Atoms.drop k).all (XO n) && Zgi n (WV p (q.Atoms.drop k))),[]):=by
 refine down _ ?_ ?_
 .intro p;refine ZwS _ _ _ _ ?_;have e:WV p []=p:=by funext u;simp[WV]
  have h0:¬(n:Int)<0:=by omega
  simp[e,hq,h0,Zgi]
 .intro k hk ih p;refine ZwS _ _ _ _ ?_;have h4:=ZL (i:=k) (by omega);rw[Zs8 _ hk];rcases tf (WU q.Atoms[k].Name)with e1|e1
  .simp[hk,e1,XO]
  rcases tf (inR q.Atoms[k].Vars.length 1 3)with e2|e2
  .simp[hk,e1,e2,XO]
  have b:=Z91 q n c hn hq q.Atoms[k] k (hv _ (Yh hk)) (Bo (XO n q.Atoms[k] && (q.Atoms.drop (k+1)).all (XO n) && Zgi n (WV p (q.Atoms.drop k))),[]) 0 (Yd _) p ?_
  .simp at b;simp[hk,e1,e2,b]
  .simp only[Ycq,Yo,XO,e1,e2,Yy];rcases tf (Vo n [] q.Atoms[k].Vars)with e3|e3
   .simp[e3]
   .have ih:=ih (Xw p q.Atoms[k].Vars);simp only[e3,if_true,Yy,ZsC p hk];simp at ih;rw[show w ((k:Int)+1)=(k:Int)+1 from h4,ih]
@[simp] theorem ZaU(q:Ze)(h:LeQ q):Uq q=some (Bo (Zu q.Zk q.Atoms),[]):=by
 refine Z6P _ _ ?_;unfold Zu;rcases tf (inR q.Zk 1 4)with e1|e1
 .simp[e1]
 rcases tf (inR q.Atoms.length 1 4)with e2|e2
 .simp[e1,e2]
 have e0:=e1;simp[inR]at e0;obtain⟨k,hk⟩:∃k:Nat,q.Zk=k:=⟨q.Zk.toNat,by omega⟩;have b:=Z92 q k (by omega) (by omega) hk h.1 h.2 0 (Yd _) (λ_=>false);have ez:ZH (λ_=>false)=0:=rfl;rw[ez]at b;simp only[Yo,Int.ofNat_zero]at b;have e3:(q.Atoms.all (XO k) && Zgi k (WV (λ_=>false) q.Atoms))=(q.Atoms.all (XO k) && (List.range k).all (WV (λ_=>false) q.Atoms)):=by
  rcases tf (q.Atoms.all (XO k))with e3|e3
  .simp[e3]
  .have hk':k=1\/k=2\/k=3\/k=4:=by omega
   have hz:=all_in e3;have hz':∀u:Nat,k<=u->WV (λ_=>false) q.Atoms u=false:=λu hu=>by simp only[WV,Ydi];exact hz u (by omega)
   rw[e3,Yy,Yy,Yby,Zgi,decide_eq_true_eq,ZH];rcases hk' with rfl|rfl|rfl|rfl
   .simp[shlI,ZD,Zhl,hz' 1 (by omega),hz' 2 (by omega),hz' 3 (by omega),Ycp]
   .simp[shlI,ZD,Zhl,hz' 2 (by omega),hz' 3 (by omega),Ycp]
   .simp[shlI,ZD,Zhl,hz' 3 (by omega),Ycp,and_assoc]
   .simp[shlI,ZD,Zhl,Ycp,and_assoc]
 rw[e3]at b;rw[hk]at e1;simp only[XD,Ybo,Ybr,AV.t.injEq,T.bool.injEq,and_true,exists_eq_left',e1,e2,if_true,b,hk,Yf];simp
@[simp] theorem ZpD(q:Ze)(h:LeQ q):JH q=some (I (We q.Zk q.Atoms),[]):=by
 refine Z6R _ _ ?_;have q1:=ZaU q h;unfold We;rcases tf (Zu q.Zk q.Atoms)with e|e
 .simp[q1,e]
 .have:=(Zhm e).2.2.1;have h0:¬((q.Atoms.length:Int)<0):=by omega
  simp[q1,e,this,h0]
theorem Z93(q:Ze)(m:Int)(hl:Le q.Atoms)(hv:∀a∈q.Atoms,Le a.Vars)(v:Nat)(c:v<8)(out:WA)(ho:out.length<=8)(r:XR):∀i,i<=q.Atoms.length->
  Zaa q (out++if ZT m (q.Atoms.drop i) i v=true then[(v:Int)]else[]) m (w ((v:Int)+1))=some r->
  Zcg q out m v q.Atoms q.Atoms.length i=some r:=by
 refine down _ ?_ ?_
 .intro h;refine Zx8 _ _ _ _ _ _ _ _ ?_;simpa[ZT]using h
 .intro i hi ih h;refine Zx8 _ _ _ _ _ _ _ _ ?_;have h4:=ZL (i:=i) (by omega);have c1:=ZaT q.Atoms[i].Vars v (hv _ (Yh hi));have h0:¬(i:Int)<0:=by omega
  rw[ZsD _ hi]at h;by_cases e1:andI (shrI m i) 1=1
  .have e2:Zx m i=true:=by simp[Zx,e1]
   rcases tf (has q.Atoms[i].Vars v)with e3|e3
   .simp[e2,e3]at h;have ih:=ih (by simpa using h);simp at ih;simp[hi,h4,h0,e1,c1,e3,ih]
   .simp[e2,e3]at h;have e4:out.length+1<=68719476736:=by omega
    simp[hi,h4,h0,e1,c1,e3,e4,h]
  .have e2:Zx m i=false:=by simp[Zx,e1]
   simp[e2]at h;have ih:=ih (by simpa using h);simp at ih;simp[hi,h4,h0,e1,ih]
theorem Z94(q:Ze)(m:Int)(hl:Le q.Atoms)(hv:∀a∈q.Atoms,Le a.Vars)(n:Nat)(hq:q.Zk=n)(hn:n<=4):∀k,k<=n->
  Zaa q (Z9 m q.Atoms k) m k=some (.own 0,[.arr ZU 1 true ((Z9 m q.Atoms n).map ic)]):=by
 refine down _ ?_ ?_
 .refine Zx7 _ _ _ _ _ ?_;simp[hq]
 .intro k hk ih;refine Zx7 _ _ _ _ _ ?_;have h4:=ZL (i:=k) (by omega)
  have b:=Z93 q m hl hv k (by omega) (Z9 m q.Atoms k) (by have:=J8 m q.Atoms k;omega) _ 0 (Yd _) (by
   rw[Yo,<-Z3z,show w ((k:Int)+1)=(k:Int)+1 from h4];simpa using ih)
  simp at b;simp[hq,hk,b]
@[simp] theorem ZpE(q:Ze)(m:Int)(h:LeQ q)(hv:Zu q.Zk q.Atoms=true):Zcf q m=some (.own 0,[.arr ZU 1 true ((Z9 m q.Atoms q.Zk.toNat).map ic)]):=by
 refine Z7x _ _ _ ?_;have hn:=UC hv;have b:=Z94 q m h.1 h.2 q.Zk.toNat (by omega) (by omega) 0 (Yd _);simpa[Z9]using b
theorem l_both(b xs:WA)(hb:Le b)(hx:xs.length<=1000000):∀i,i<=xs.length->
  Zch ((xs.take i).filter (has b)) b xs xs.length i=some (.own 0,[.arr ZU 1 true ((xs.filter (has b)).map ic)]):=by
 refine down _ ?_ ?_
 .refine Zx9 _ _ _ _ _ _ ?_;simp
 .intro i hi ih;refine Zx9 _ _ _ _ _ _ ?_;have h4:=ZL (i:=i) (by omega);have c1:=ZaT b xs[i] hb;have e4:((xs.take i).filter (has b)).length+1<=68719476736:=by
   have:=Ybz (has b) (xs.take i);simp at this;omega
  rw[ZsE _ hi]at ih;rcases tf (has b xs[i])with e|e
  .simp[e]at ih;simp[hi,h4,c1,e,ih]
  .simp[e]at ih;simp[hi,h4,c1,e,e4,ih]
@[simp] theorem x_both(xs b:WA)(hb:Le b)(hx:xs.length<=1000000):ZhT xs b=some (.own 0,[.arr ZU 1 true ((xs.filter (has b)).map ic)]):=by
 refine Z7y _ _ _ ?_;have:=l_both b xs hb hx 0 (Yd _);simpa using this
theorem Z95(q:Ze)(m:Int)(hv:∀a∈q.Atoms,Le a.Vars)(c:Zhn q.Atoms)(i:Nat)(hi:i<q.Atoms.length)(hm:Zx m i=true)(r:XR):∀k,k<=q.Atoms[i].Vars.length->∀p,
  JI q m (ZH (Xw p (q.Atoms[i].Vars.drop k))) (w ((i:Int)+1))=some r->ZbP q m (ZH p) i k=some r:=by
 have e1:andI (shrI m i) 1=1:=by simpa[Zx]using hm
 have h0:¬(i:Int)<0:=by omega
 have ha:=Yh hi;refine down _ ?_ ?_
 .intro p h;refine Zpq _ _ _ _ _ _ ?_;rw[Yp,ZkL]at h;simp[hi,h]
 .intro k hk ih p h;refine Zpq _ _ _ _ _ _ ?_;have h4:=ZL (i:=k) (by have:=hv _ ha;omega);have e6:=ZkN p (v:=q.Atoms[i].Vars[k]) (c _ ha _ (Yh hk));have e7:=c _ ha _ (Yh hk);simp[inR]at e7;have e8:¬q.Atoms[i].Vars[k]<0:=by omega
  rw[ZkM p hk]at h;have ih:=ih _ h;simp at ih;simp[hi,hk,h0,e1,h4,e6,e7,e8,ih]
theorem Z96(q:Ze)(m:Int)(hl:Le q.Atoms)(hv:∀a∈q.Atoms,Le a.Vars)(c:Zhn q.Atoms):∀i,i<=q.Atoms.length->∀p,
  JI q m (ZH p) i=some (I (ZH (Qm m p q.Atoms i)),[]):=by
 refine down _ ?_ ?_
 .intro p;refine Zxb _ _ _ _ _ ?_;have e:Qm m p q.Atoms q.Atoms.length=p:=by funext u;simp[Qm,ZT]
  simp[e]
 .intro i hi ih p;refine Zxb _ _ _ _ _ ?_;have h4:=ZL (i:=i) (by omega);have h0:¬(i:Int)<0:=by omega
  rw[Z3y m p hi];rcases tf (Zx m i)with e|e
  .have e1:¬andI (shrI m i) 1=1:=by simpa[Zx]using e
   have ih:=ih p;simp at ih;have b:ZbP q m (ZH p) i 0=some (I (ZH (Qm m p q.Atoms (i+1))),[]):=by
    refine Zpq _ _ _ _ _ _ ?_;simp[hi,h0,e1,h4,ih]
   simp[hi,e,b]
  .have ih:=ih (Xw p q.Atoms[i].Vars);have b:=Z95 q m hv c i hi e _ 0 (Yd _) p (by rw[Yo,show w ((i:Int)+1)=(i:Int)+1 from h4];simpa using ih);simp at b;simp[hi,e,b]
@[simp] theorem ZaV(q:Ze)(m:Int)(h:LeQ q)(c:Zhn q.Atoms):Vs q m=some (I (ZH (pV m q.Atoms)),[]):=by
 refine Z6S _ _ _ ?_;have b:=Z96 q m h.1 h.2 c 0 (Yd _) (λ_=>false);have ez:ZH (λ_=>false)=0:=rfl;have e:Qm m (λ_=>false) q.Atoms 0=pV m q.Atoms:=by funext u;simp[Qm,pV]
 rw[ez,e]at b;simpa using b
theorem Z97(q:Ze)(hq:LeQ q)(h:Zu q.Zk q.Atoms=true)(x:Zj)(info:List Za)(st:WA)(hs:Vq info st)(cc:info.length<=100)(cd:st.length<=100) :
  match WW q.Atoms x info st with
  |some y=>Zci q x info st=some (.tup [.agg (y.c.map .t),Bo true],[])
  |none=>∃y:Za,Zci q x info st=some (.tup [.agg (y.c.map .t),Bo false],[]):=by
 have hl:=Xx h;have wl:w ((q.Atoms.length:Int)-1)=(q.Atoms.length:Int)-1:=ZD (by omega) (by omega);unfold WW;by_cases k1:x.Kind=1
 .rw[Ya k1];by_cases c1:inR x.Zc 0 (q.Atoms.length-1)=true/\x.Order=0
  .rw[Ya c1];have c2:=c1.1;simp[inR]at c2;have hlt:x.Zc.toNat<q.Atoms.length:=by omega
   have hv:=J7 h _ (Yh hlt);have h0:¬x.Zc<0:=by omega
   simp only;refine Jb _ _ _ _ _ ?_;have e:q.Atoms[x.Zc.toNat].Vars.headD 0=q.Atoms[x.Zc.toNat].Vars[0]'(by omega):=by
    rw[Yd4,hd0 (by omega)]
   rw[Yd4]at e;simp[k1,wl,c1,h0,hlt,c2,e,show 0<q.Atoms[x.Zc.toNat].Vars.length by omega]
  .rw[Yb c1];refine⟨⟨0,-1,-1,-1⟩,Jb _ _ _ _ _ ?_⟩;rcases tf (inR x.Zc 0 (q.Atoms.length-1))with e|e
   .simp[k1,wl,e]
   .have e2:¬x.Order=0:=λhc=>c1 ⟨e,hc⟩
    simp[k1,wl,e,e2]
 rw[Yb k1];by_cases k0:x.Zc=0
 rotate_left
 .rw[Ya k0];exact⟨⟨0,-1,-1,-1⟩,Jb _ _ _ _ _ (by simp[k1,k0])⟩
 rw[Yb (by simpa using k0)];have w1:w ((st.length:Int)-1)=(st.length:Int)-1:=ZD (by omega) (by omega);have w2:w ((st.length:Int)-2)=(st.length:Int)-2:=ZD (by omega) (by omega);by_cases k2:x.Kind=2
 .rw[Ya k2];by_cases n1:st.length<1
  .have:Vp st info 1=none:=by unfold Vp;rw[Yb (by omega)]
   rw[this];have n1':(st.length:Int)<1:=by omega
   exact⟨⟨0,-1,-1,-1⟩,Jb _ _ _ _ _ (by simp[k1,k2,k0,n1'])⟩
  .have n1':¬(st.length:Int)<1:=by omega
   obtain⟨s,y,t1,t2,t3,t4⟩:=J9 hs (by omega:1<=1) (by omega:1<=st.length);have z1:(0:Int)<=(st.length:Int)-1:=by omega
   have z5:(1:Int)<=(st.length:Int):=by omega
   have z2:((st.length:Int)-1).toNat=st.length-1:=by omega
   have q1:=ZpE q y.Mask hq h;have q2:=ZaT (Z9 y.Mask q.Atoms q.Zk.toNat) x.Order (by have:=J8 y.Mask q.Atoms q.Zk.toNat;have:=UC h;omega);rw[Zb6 h]at q2;rw[t1];simp only;by_cases c1:vin q.Atoms y.Mask x.Order=true/\y.Order≠x.Order
   .rw[Ya c1];refine Jb _ _ _ _ _ ?_;simp[k1,k2,k0,n1',w1,z1,z2,z5,t2,t3,t4,q1,q2,c1]
   .rw[Yb c1];refine⟨⟨0,-1,-1,-1⟩,Jb _ _ _ _ _ ?_⟩;rcases tf (vin q.Atoms y.Mask x.Order)with e|e
    .simp[k1,k2,k0,n1',w1,z1,z2,z5,t2,t3,t4,q1,q2,e]
    .have e2:y.Order=x.Order:=Decidable.byContradiction λhc=>c1 ⟨e,hc⟩
     simp[k1,k2,k0,n1',w1,z1,z2,z5,t2,t3,t4,q1,q2,e,e2]
 rw[Yb k2];by_cases n2:st.length<2
 .have:Vp st info 2=none:=by unfold Vp;rw[Yb (by omega)]
  rw[this];have n2':(st.length:Int)<2:=by omega
  exact⟨⟨0,-1,-1,-1⟩,Jb _ _ _ _ _ (by simp[k1,k2,k0,n2'])⟩
 have n2':¬(st.length:Int)<2:=by omega
 obtain⟨s,y,t1,t2,t3,t4⟩:=J9 hs (by omega:1<=2) (by omega:2<=st.length);obtain⟨t,z,u1,u2,u3,u4⟩:=J9 hs (by omega:1<=1) (by omega:1<=st.length);have z1:(0:Int)<=(st.length:Int)-1:=by omega
 have z2:((st.length:Int)-1).toNat=st.length-1:=by omega
 have z3:(0:Int)<=(st.length:Int)-2:=by omega
 have z4:((st.length:Int)-2).toNat=st.length-2:=by omega
 have hn:=UC h;have q1:=ZpE q y.Mask hq h;have q2:=ZpE q z.Mask hq h;have l1:=J8 y.Mask q.Atoms q.Zk.toNat;have l2:=J8 z.Mask q.Atoms q.Zk.toNat;have q3:=x_both (Z9 y.Mask q.Atoms q.Zk.toNat) (Z9 z.Mask q.Atoms q.Zk.toNat) (by omega) (by omega)
 have q4:=ZaT ((Z9 y.Mask q.Atoms q.Zk.toNat).filter (has (Z9 z.Mask q.Atoms q.Zk.toNat))) x.Order (by
  have:=Ybz (has (Z9 z.Mask q.Atoms q.Zk.toNat)) (Z9 y.Mask q.Atoms q.Zk.toNat);omega)
 rw[Z30 h]at q4;have q5:=ZsF h y.Mask z.Mask;generalize hS:(Z9 y.Mask q.Atoms q.Zk.toNat).filter (has (Z9 z.Mask q.Atoms q.Zk.toNat))=S at q3 q4 q5;rw[t1,u1];simp only
 have base:∀(r:XR),(if andI y.Mask z.Mask=0 then
    if((S.length:Int)=0)then some (.tup [.agg [I (orI y.Mask z.Mask),I (-1),I s,I t],Bo false],[])=some r
    else if x.Kind=3 then some (.tup [.agg [I (orI y.Mask z.Mask),I (-1),I s,I t],Bo (decide (x.Order=0))],[])=some r
    else if x.Kind=5 then some (.tup [.agg [I (orI y.Mask z.Mask),I y.Order,I s,I t],Bo (decide (x.Order=0))],[])=some r
    else if x.Kind=4 then
     if(vin q.Atoms y.Mask x.Order && vin q.Atoms z.Mask x.Order)=true then
      if y.Order=x.Order then some (.tup [.agg [I (orI y.Mask z.Mask),I x.Order,I s,I t],Bo (decide (z.Order=x.Order))],[])=some r
      else some (.tup [.agg [I (orI y.Mask z.Mask),I x.Order,I s,I t],Bo false],[])=some r
     else some (.tup [.agg [I (orI y.Mask z.Mask),I x.Order,I s,I t],Bo false],[])=some r
    else some (.tup [.agg [I (orI y.Mask z.Mask),I (-1),I s,I t],Bo false],[])=some r
   else some (.tup [.agg [I (orI y.Mask z.Mask),I (-1),I s,I t],Bo false],[])=some r)->Zci q x info st=some r:=by
  intro r hr;refine Jb _ _ _ _ _ ?_;simp only[k1,k0,k2,if_false,if_true,n2',w1,w2,z1,z2,z3,z4,t2,t3,t4,u2,u3,u4,q1,q2,true_and,Ybo,exists_eq_left'];refine⟨_,rfl,_,rfl,S,?_,?_⟩
  .simpa using q3
  .simp only[q4,Ybo,Ybr,AV.t.injEq,T.bool.injEq,and_true,exists_eq_left'];simpa using hr
 by_cases c1:andI y.Mask z.Mask=0/\shr q.Atoms y.Mask z.Mask=true
 rotate_left
 .rw[Yb c1];refine⟨⟨orI y.Mask z.Mask,-1,s,t⟩,base _ ?_⟩;by_cases c2:andI y.Mask z.Mask=0
  .have c3:S.length=0:=q5.2 (by rcases tf (shr q.Atoms y.Mask z.Mask)with e|e;exact e;exact absurd ⟨c2,e⟩ c1);have c4:(S.length:Int)=0:=by omega
   rw[Ya c2,Ya c4];simp
  .rw[Yb c2];simp
 rw[Ya c1];have c4:¬(S.length:Int)=0:=λhc=>by
  have:=q5.1 (by omega);rw[c1.2]at this;cases this
 have c5:¬S=[]:=λhc=>c4 (by simp[hc])
 unfold VV;by_cases j1:x.Kind=3/\x.Order=0
 .rw[Ya j1];exact base _ (by simp[c1.1,c4,c5,j1])
 rw[Yb j1];by_cases j2:x.Kind=5/\x.Order=0
 .rw[Ya j2];exact base _ (by simp[c1.1,c4,c5,j2])
 rw[Yb j2];by_cases j3:x.Kind=4/\vin q.Atoms y.Mask x.Order=true/\vin q.Atoms z.Mask x.Order=true/\y.Order=x.Order/\z.Order=x.Order
 .rw[Ya j3];exact base _ (by simp[c1.1,c4,c5,j3])
 rw[Yb j3];simp only[Option.map_none];by_cases k3:x.Kind=3
 .have e:¬x.Order=0:=λhc=>j1 ⟨k3,hc⟩
  exact⟨⟨orI y.Mask z.Mask,-1,s,t⟩,base _ (by simp[c1.1,c4,c5,k3,e])⟩
 by_cases k5:x.Kind=5
 .have e:¬x.Order=0:=λhc=>j2 ⟨k5,hc⟩
  exact⟨⟨orI y.Mask z.Mask,y.Order,s,t⟩,base _ (by simp[c1.1,c4,c5,k5,e])⟩
 by_cases k4:x.Kind=4
 .refine⟨⟨orI y.Mask z.Mask,x.Order,s,t⟩,base _ ?_⟩;rcases tf (vin q.Atoms y.Mask x.Order)with e1|e1<;>rcases tf (vin q.Atoms z.Mask x.Order)with e2|e2<;>by_cases e3:y.Order=x.Order<;>simp[c1.1,c4,c5,k4,e1,e2,e3];exact λe4=>j3 ⟨k4,e1,e2,e3,e4⟩
 .exact⟨⟨orI y.Mask z.Mask,-1,s,t⟩,base _ (by simp[c1.1,c4,c5,k3,k4,k5])⟩
@[simp] theorem Zjj(b v:Int):JN b v=some (Bo (inR v 0 3 && decide (andI (shrI b v) 1=1)),[]):=by
 refine Z7a _ _ _ ?_;rcases tf (inR v 0 3)with e|e
 .simp[e]
 .have e0:=e;simp[inR]at e0
  have:¬v<0:=by omega
  simp[e,this]
def ZY(x:Zj):Option Za->XR
 |some y=>(.tup [.agg (y.c.map .t),I (JA x)],[])
 |none=>(.tup [.agg [I 0,I 0,I 0,I 0],I (-1)],[])
theorem Z98(q:Ze)(hq:LeQ q)(h:Zu q.Zk q.Atoms=true)(x:Zj)(info:List Za)(st:WA)(hs:Vq info st)(cc:info.length<=100)(cd:st.length<=100) :
  JO q x info st=some (ZY x (WW q.Atoms x info st)):=by
 have hl:=Xx h;have wl:w ((q.Atoms.length:Int)-1)=(q.Atoms.length:Int)-1:=ZD (by omega) (by omega);unfold WW;by_cases k1:x.Kind=1
 .rw[Ya k1];by_cases c1:inR x.Zc 0 (q.Atoms.length-1)=true/\x.Order=0
  .rw[Ya c1];have c2:=c1.1;simp[inR]at c2;have hlt:x.Zc.toNat<q.Atoms.length:=by omega
   have hv:=J7 h _ (Yh hlt);have h0:¬x.Zc<0:=by omega
   refine Qv _ _ _ _ _ ?_;have e:q.Atoms[x.Zc.toNat].Vars.headD 0=q.Atoms[x.Zc.toNat].Vars[0]'(by omega):=by
    rw[Yd4,hd0 (by omega)]
   rw[Yd4]at e;simp[k1,wl,c1,h0,hlt,c2,e,ZY,JA,show 0<q.Atoms[x.Zc.toNat].Vars.length by omega]
  .rw[Yb c1];refine Qv _ _ _ _ _ ?_;rcases tf (inR x.Zc 0 (q.Atoms.length-1))with e|e
   .simp[k1,wl,e,ZY]
   .have e2:¬x.Order=0:=λhc=>c1 ⟨e,hc⟩
    simp[k1,wl,e,e2,ZY]
 rw[Yb k1];have w1:w ((st.length:Int)-1)=(st.length:Int)-1:=ZD (by omega) (by omega);have w2:w ((st.length:Int)-2)=(st.length:Int)-2:=ZD (by omega) (by omega);by_cases k0:x.Zc=0
 rotate_left
 .rw[Ya k0];refine Qv _ _ _ _ _ ?_;have j:∀b,JP q x ⟨0,0,0,0⟩ info st st.length x.Kind b=some (ZY x none):=by
   intro b;refine Zge ?_;cases b<;>simp[k0,ZY]
  by_cases k2:x.Kind=2
  .simp[k1,k2,k0,ZY]
  .by_cases k3:x.Kind=3<;>by_cases k4:x.Kind=4<;>simp[k1,k2,k0,k3,k4,j]<;>first|(simp only[k3]at j;simp[j,ZY])|(simp only[k4]at j;simp[j,ZY])|simp[ZY]
 rw[Yb (by simpa using k0)];by_cases k2:x.Kind=2
 .rw[Ya k2];refine Qv _ _ _ _ _ ?_;by_cases n1:st.length<1
  .have:Vp st info 1=none:=by unfold Vp;rw[Yb (by omega)]
   rw[this];have n1':(st.length:Int)<1:=by omega
   simp[k1,k2,k0,n1',ZY]
  .have n1':¬(st.length:Int)<1:=by omega
   obtain⟨s,y,t1,t2,t3,t4⟩:=J9 hs (by omega:1<=1) (by omega:1<=st.length);have z1:(0:Int)<=(st.length:Int)-1:=by omega
   have z5:(1:Int)<=(st.length:Int):=by omega
   have z2:((st.length:Int)-1).toNat=st.length-1:=by omega
   have q1:=ZaV q y.Mask hq (K1 h);have q2:(inR x.Order 0 3 && decide (andI (shrI (ZH (pV y.Mask q.Atoms)) x.Order) 1=1))=vin q.Atoms y.Mask x.Order:=by
    unfold vin;rcases tf (inR x.Order 0 3)with e|e
    .simp[e]
    .rw[e,Yy,Yy,Yby,decide_eq_true_eq];exact Zhj _ e
   rw[t1];simp only;by_cases e2:y.Order=x.Order
   .simp[k1,k2,k0,n1',w1,z1,z2,z5,t2,t3,t4,e2,ZY]
   .rcases tf (vin q.Atoms y.Mask x.Order)with e|e
    .simp only[k1,k2,k0,n1',w1,z1,z2,t2,t3,t4,q1,Zjj,q2,e,e2,if_false,if_true,true_and,Ybo,exists_eq_left',Ybr,AV.t.injEq,T.int.injEq,T.bool.injEq,and_true];simp[ZY]
    .simp only[k1,k2,k0,n1',w1,z1,z2,t2,t3,t4,q1,Zjj,q2,e,e2,if_false,if_true,true_and,Ybo,exists_eq_left',Ybr,AV.t.injEq,T.int.injEq,T.bool.injEq,and_true];simp[ZY,JA,k1,k2,e2]
 rw[Yb k2]
 -- a join
 have q0:∀(b:Za) (c:Za) (y:Za) (f:Bool),x.Kind=4->∀m1 m2,K5 q x ⟨0,0,0,0⟩ b c y (andI (ZH (pV m1 q.Atoms)) (ZH (pV m2 q.Atoms))) f =
   if vin q.Atoms m1 x.Order=true/\vin q.Atoms m2 x.Order=true/\b.Order=x.Order/\c.Order=x.Order then some (.tup [.agg [I y.Mask,I x.Order,I y.Left,I y.Right],I 2],[])else some (ZY x none):=by
  intro b c y f k4 m1 m2;have e:(inR x.Order 0 3 && decide (andI (shrI (andI (ZH (pV m1 q.Atoms)) (ZH (pV m2 q.Atoms))) x.Order) 1=1))=(vin q.Atoms m1 x.Order && vin q.Atoms m2 x.Order):=by
   unfold vin;rcases tf (inR x.Order 0 3)with e|e
   .simp[e]
   .rw[e,Yy,Yy,Yy,Yby,decide_eq_true_eq,ZsA];simpa using Zhj (λu=>pV m1 q.Atoms u && pV m2 q.Atoms u) e
  split
  .rename_i hc;refine Zps _ _ _ _ _ _ _ _ _ ?_;simp only[Zjj,e,hc];simp[k4]
  .rename_i hc;refine Zps _ _ _ _ _ _ _ _ _ ?_;simp only[Zjj,e];rcases tf (vin q.Atoms m1 x.Order)with e1|e1<;>rcases tf (vin q.Atoms m2 x.Order)with e2|e2<;>by_cases e3:b.Order=x.Order<;>by_cases e4:c.Order=x.Order<;>simp[k4,e1,e2,e3,e4,ZY];exact hc ⟨e1,e2,e3,e4⟩
 have q3:∀(b:Za) (c:Za) (y:Za) (v:Int) (f:Bool),x.Kind≠4->K5 q x ⟨0,0,0,0⟩ b c y v f=some (.tup [.agg (y.c.map .t),I 2],[]):=by
  intro b c y v f k4;exact Zps _ _ _ _ _ _ _ _ _ (by simp[k4])
 have q5:∀(b:Za) (c:Za) (y:Za) (v:Int),x.Kind≠4->ZbT q x ⟨0,0,0,0⟩ b c y v=some (.tup [.agg (y.c.map .t),I 2],[]):=by
  intro b c y v k4;exact Z7b _ _ _ _ _ _ _ _ (by simp[k4])
 by_cases kk:x.Kind=3\/x.Kind=4\/x.Kind=5
 rotate_left
 .have k3:¬x.Kind=3:=λhc=>kk (.inl hc)
  have k4:¬x.Kind=4:=λhc=>kk (.inr (.inl hc))
  have k5:¬x.Kind=5:=λhc=>kk (.inr (.inr hc))
  have hj:∀y z,VV q.Atoms x y z=none:=by intro y z;simp[VV,k3,k4,k5]
  refine Yc (b:=some (ZY x none)) (Qv _ _ _ _ _ (by simp[k1,k2,k3,k4,k5,ZY])) ?_;simp only[hj,Option.map_none,ite_self];split<;>rfl
 have k5':x.Kind≠3->x.Kind≠4->x.Kind=5:=λa b=>by rcases kk with h|h|h;exact absurd h a;exact absurd h b;exact h
 have red:∀r,JP q x ⟨0,0,0,0⟩ info st st.length x.Kind true=some r->(x.Kind=5->JO q x info st=some r)->JO q x info st=some r:=by
  intro r hr h5;by_cases k5:x.Kind=5
  .exact h5 k5
  .refine Qv _ _ _ _ _ ?_;by_cases k3:x.Kind=3
   .rw[Yb k1,Yb k2,Ya k3];exact hr
   .by_cases k4:x.Kind=4
    .rw[Yb k1,Yb k2,Yb k3,Ya k4];exact hr
    .exact absurd (k5' k3 k4) k5
 by_cases n2:st.length<2
 .have:Vp st info 2=none:=by unfold Vp;rw[Yb (by omega)]
  rw[this];have n2':(st.length:Int)<2:=by omega
  refine red _ ?_ ?_
  .exact Zge (by simp[k0,n2',ZY])
  .intro k5;exact Qv _ _ _ _ _ (by simp[k5,k0,n2',ZY])
 have n2':¬(st.length:Int)<2:=by omega
 obtain⟨s,y,t1,t2,t3,t4⟩:=J9 hs (by omega:1<=2) (by omega:2<=st.length);obtain⟨t,z,u1,u2,u3,u4⟩:=J9 hs (by omega:1<=1) (by omega:1<=st.length);have z1:(0:Int)<=(st.length:Int)-1:=by omega
 have z2:((st.length:Int)-1).toNat=st.length-1:=by omega
 have z3:(0:Int)<=(st.length:Int)-2:=by omega
 have z4:((st.length:Int)-2).toNat=st.length-2:=by omega
 have b1:=ZaV q y.Mask hq (K1 h);have b2:=ZaV q z.Mask hq (K1 h);have b3:=ZkQ q.Atoms y.Mask z.Mask;rw[t1,u1];simp only;by_cases c1:andI y.Mask z.Mask=0
 rotate_left
 .rw[Yb (λhc=>c1 hc.1)];refine red _ ?_ ?_
  .refine Zge ?_;simp only[k0,n2',w1,w2,z1,z2,z3,z4,t2,t3,t4,u2,u3,u4,b1,b2,c1,if_true,if_false,true_and,Ybo,exists_eq_left',Ybr,AV.t.injEq,T.int.injEq,and_true];simp[ZY]
  .intro k5;refine Qv _ _ _ _ _ ?_;simp only[k5,k0,n2',w1,w2,z1,z2,z3,z4,t2,t3,t4,u2,u3,u4,b1,b2,c1,if_true,if_false,true_and,Ybo,exists_eq_left',Ybr,AV.t.injEq,T.int.injEq,and_true];simp[ZY]
 rcases tf (shr q.Atoms y.Mask z.Mask)with c2|c2
 .rw[Yb (λhc=>by rw[hc.2]at c2;cases c2)];have c3:=b3.2 c2;refine red _ ?_ ?_
  .refine Zge ?_;simp only[k0,n2',w1,w2,z1,z2,z3,z4,t2,t3,t4,u2,u3,u4,b1,b2,c1,c3,if_true,if_false,true_and,Ybo,exists_eq_left',Ybr,AV.t.injEq,T.int.injEq,and_true];simp[ZY]
  .intro k5;refine Qv _ _ _ _ _ ?_;simp only[k5,k0,n2',w1,w2,z1,z2,z3,z4,t2,t3,t4,u2,u3,u4,b1,b2,c1,c3,if_true,if_false,true_and,Ybo,exists_eq_left',Ybr,AV.t.injEq,T.int.injEq,and_true];simp[ZY]
 rw[Ya ⟨c1,c2⟩];have c3:¬andI (ZH (pV y.Mask q.Atoms)) (ZH (pV z.Mask q.Atoms))=0:=λhc=>by rw[b3.1 hc]at c2;cases c2
 have p2:JA x=2:=by unfold JA;rw[Yb k1,Yb k2]
 refine red _ ?_ ?_
 .refine Zge ?_;simp only[k0,n2',w1,w2,z1,z2,z3,z4,t2,t3,t4,u2,u3,u4,b1,b2,c1,c3,if_true,if_false,true_and,Ybo,exists_eq_left',Ybr,AV.t.injEq,T.int.injEq,and_true];by_cases k4:x.Kind=4
  .have k3:¬x.Kind=3:=by omega
   have k5:¬x.Kind=5:=by omega
   rw[Ya k4,q0 _ _ _ _ k4];simp only[VV,k3,k4,k5,false_and,true_and,if_false];split
   .rename_i hc;simp[ZY,p2]
   .rfl
  .by_cases e:x.Order=0
   .by_cases k5:x.Kind=5
    .rw[Yb k4,Ya e,Ya k5,q5 _ _ _ _ k4];simp[VV,k5,e,ZY,p2]
    .have k3:x.Kind=3:=by omega
     rw[Yb k4,Ya e,Yb k5,q3 _ _ _ _ _ k4];simp[VV,k3,e,ZY,p2]
   .rw[Yb k4,Yb e];simp[VV,k4,e,ZY]
 .intro k5;refine Qv _ _ _ _ _ ?_;have k4:x.Kind≠4:=by omega
  simp only[k5,k0,n2',w1,w2,z1,z2,z3,z4,t2,t3,t4,u2,u3,u4,b1,b2,c1,c3,if_true,if_false,true_and,Ybo,exists_eq_left',Ybr,AV.t.injEq,T.int.injEq,and_true];by_cases e:x.Order=0
  .simp[e,q5 _ _ _ _ k4,VV,k5,ZY,p2]
  .simp[e,VV,k5,ZY]
theorem Z99(q:Ze)(hq:LeQ q)(h:Zu q.Zk q.Atoms=true)(p:Zo)(hl:p.Steps.length<=14):∀i,i<=p.Steps.length->∀info st,Vq info st->info.length=i->st.length<=i->
  Ze7 q p info st i=some (match XB q.Atoms (p.Steps.drop i) i info st with
   |some (info',st')=>if st'.length=1 then(.tup [.own 0,Bo true],[.arr JE 4 true (info'.map Za.c)])else(.tup [.own 0,Bo false],[.arr JE 4 true []])
   |none=>(.tup [.own 0,Bo false],[.arr JE 4 true []])):=by
 refine down _ ?_ ?_
 .intro info st _ _ _;rw[Yp,XB];refine Zxk _ _ _ _ _ _ ?_;by_cases c:st.length=1
  .simp[c]
  .have c':¬(st.length:Int)=1:=by omega
   simp[c,c']
 .intro i hi ih info st hs hil hst;have h5:=ZL (i:=i) (by omega);have s1:=Z98 q hq h p.Steps[i] info st hs (by omega) (by omega);rw[ZsG q.Atoms hi];refine Zxk _ _ _ _ _ _ ?_
  cases he:WW q.Atoms p.Steps[i] info st with
  |none =>
   rw[he,ZY]at s1;have e0:JO q p.Steps[i] info st=some (.tup [.agg ((⟨0,0,0,0⟩:Za).c.map .t),I (-1)],[]):=s1;rw[Ya (by omega)];refine⟨by omega,_,Yi hi,_,_,e0,?_⟩
   simp
  |some y =>
   rw[he,ZY]at s1;obtain⟨f1,f2,f3⟩:=ZkR hs he;rw[f1]at s1;have hn:=Zeh hs y (st.length-WI y);rw[hil]at hn;have ih:=ih (info++[y]) (st.take (st.length-WI y)++[(i:Int)]) hn (by simp[hil]) (ZsH hst _);have w2:w ((st.length:Int)-(WI y:Int))=(st.length:Int)-(WI y:Int):=ZD (by omega) (by omega);have z2:((st.length:Int)-(WI y:Int)).toNat=st.length-WI y:=by omega
   rw[Ya (by omega)];refine⟨by omega,_,Yi hi,_,_,s1,?_⟩;rw[Yb (by omega),w2,z2];refine⟨by omega,by omega,by omega,by omega,by omega,?_⟩;rw[show w ((i:Int)+1)=(i:Int)+1 from h5];simpa using ih
@[simp] theorem Zjk(q:Ze)(p:Zo)(hq:LeQ q):K6 q p=some (match Xr q.Zk q.Atoms p.Steps with
  |some info=>(.tup [.own 0,Bo true],[.arr JE 4 true (info.map Za.c)])
  |none=>(.tup [.own 0,Bo false],[.arr JE 4 true []])):=by
 refine Z7c _ _ _ ?_;have q1:=ZaU q hq;unfold Xr;rcases tf (Zu q.Zk q.Atoms)with e|e
 .simp[q1,e]
 rcases tf (inR p.Steps.length 1 14)with e2|e2
 .simp[q1,e,e2]
 .have e3:=e2;simp[inR]at e3;have b:=Z99 q hq e p (by omega) 0 (Yd _) [] [] (λs hs=>by cases hs) rfl (Yg _);simp only[Yo]at b;simp only[q1,e,e2,XD,Ybo,Ybr,AV.t.injEq,T.bool.injEq,and_true,exists_eq_left',if_true,and_self];refine Yc b ?_
  cases XB q.Atoms p.Steps 0 [] []with
  |none=>rfl
  |some r=>obtain⟨a,b⟩:=r;simp only;split<;>rfl
theorem Z9A(q:Ze)(hq:LeQ q)(h:Zu q.Zk q.Atoms=true)(steps:List Zj)(hl:steps.length<=14):∀i,i<=steps.length->∀info st,Vq info st->info.length=i->st.length<=i->
  Zab q info st steps steps.length i=some (match XB q.Atoms (steps.drop i) i info st with
   |some (info',st')=>if st'.length=1 then(.tup [.own 0,Bo true],[.arr JE 4 true (info'.map Za.c)])else(.tup [.t .nil,Bo false],[])
   |none=>(.tup [.t .nil,Bo false],[])):=by
 refine down _ ?_ ?_
 .intro info st _ _ _;rw[Yp,XB];refine ZxA _ _ _ _ _ _ _ ?_;by_cases c:st.length=1
  .simp[c]
  .have c':¬(st.length:Int)=1:=by omega
   simp[c,c']
 .intro i hi ih info st hs hil hst;have h5:=ZL (i:=i) (by omega);have s1:=Z97 q hq h steps[i] info st hs (by omega) (by omega);rw[ZsG q.Atoms hi];refine ZxA _ _ _ _ _ _ _ ?_
  cases he:WW q.Atoms steps[i] info st with
  |none =>
   rw[he]at s1;obtain⟨y,s1⟩:=s1;rw[Ya (by omega)];refine⟨by omega,_,Yi hi,_,_,s1,?_⟩
   simp
  |some y =>
   rw[he]at s1;obtain⟨f1,f2,f3⟩:=ZkR hs he;have hn:=Zeh hs y (st.length-WI y);rw[hil]at hn;have ih:=ih (info++[y]) (st.take (st.length-WI y)++[(i:Int)]) hn (by simp[hil]) (ZsH hst _);rw[Ya (by omega)];refine⟨by omega,_,Yi hi,_,_,s1,?_⟩;rw[Ya rfl];refine⟨by omega,?_⟩;simp only;unfold WI at ih f2|-;rw[show w ((i:Int)+1)=(i:Int)+1 from h5];by_cases r:0<=y.Right
   .simp only[Ya r]at ih f2|-;have w2:w ((st.length:Int)-2)=(st.length:Int)-2:=ZD (by omega) (by omega);have z2:((st.length:Int)-2).toNat=st.length-2:=by omega
    rw[w2,z2];refine⟨by omega,by omega,by omega,by simpa using ih⟩
   .simp only[Yb r]at ih f2|-;by_cases l:0<=y.Left
    .simp only[Ya l]at ih f2|-;have w2:w ((st.length:Int)-1)=(st.length:Int)-1:=ZD (by omega) (by omega);have z2:((st.length:Int)-1).toNat=st.length-1:=by omega
     rw[w2,z2];refine⟨by omega,by omega,by omega,by simpa using ih⟩
    .simp only[Yb l]at ih f2|-;exact⟨by omega,by simpa using ih⟩
@[simp] theorem ZpF(q:Ze)(p:Zo)(hq:LeQ q):QM q p=some (match Xr q.Zk q.Atoms p.Steps with
  |some info=>(.tup [.own 0,Bo true],[.arr JE 4 true (info.map Za.c)])
  |none=>(.tup [.t .nil,Bo false],[])):=by
 refine Z7z _ _ _ ?_;have q1:=Zzu q hq;unfold Xr;rcases tf (Zu q.Zk q.Atoms)with e|e
 .simp[q1,e]
 rcases tf (inR p.Steps.length 1 14)with e2|e2
 .simp[q1,e,e2]
 .have e3:=e2;simp[inR]at e3;have b:=Z9A q hq e p.Steps (by omega) 0 (Yd _) [] [] (λs hs=>by cases hs) rfl (Yg _);simp only[Yo]at b;simp only[q1,e,e2,WN,Ybo,Ybr,AV.t.injEq,T.bool.injEq,and_true,exists_eq_left',if_true,and_self];refine Yc b ?_
  cases XB q.Atoms p.Steps 0 [] []with
  |none=>rfl
  |some r=>obtain⟨a,b⟩:=r;simp only;split<;>rfl
theorem Z9B(xs:WA)(v:Int)(hx:Le xs):∀i,i<=xs.length->Zf9 xs v i=some (I (ZM (λx=>decide (v=x)) (xs.drop i) i),[]):=by
 refine down _ ?_ ?_
 .refine ZyA _ _ _ _ ?_;simp[ZM]
 .intro i hi ih;refine ZyA _ _ _ _ ?_;have h4:=ZL (i:=i) (by omega);rw[Kz _ hi];simp at ih;by_cases e:v=xs[i]
  .simp[hi,h4,<-e]
  .have e':¬xs[i]=v:=λhc=>e hc.symm
   simp[hi,h4,e,e',ih]
@[simp] theorem Z9C(xs:WA)(v:Int)(hx:Le xs):VH xs v=some (I (ZM (λx=>decide (v=x)) xs 0),[]):=by
 refine Z8C _ _ _ ?_;have:=Z9B xs v hx 0 (Yd _);simpa using this
def Qw:Int->List Zp->Bool
 |_,[]=>true
 |p,s::r=>inR s.From 1 8192 && inR s.Add (-99) 99 && decide (p<s.From) && Qw s.From r
def Vb(l:List Zp):Nat->Int
 |0=>0
 |i+1=>match l[i]? with|some s=>s.From|none=>0
def VJ(n:Int):Bool:=inR n (-99) 99
def Xi(o:Zr):Bool:=VJ o.Fixed && VJ o.Xb && VJ o.Xc && VJ o.Xd && VJ o.Xe && decide (o.Steps.length<=4) && Qw 0 o.Steps
theorem Zzv(p:Int){l:List Zp}{i:Nat}(h:i<l.length):Qw p (l.drop i)=(inR l[i].From 1 8192 && inR l[i].Add (-99) 99 && decide (p<l[i].From) && Qw l[i].From (l.drop (i+1))):=by
 rw[Yj h,Qw]
@[simp] theorem Z9D(n:Int):Qu n=some (Bo (VJ n),[]):=by
 refine Z8P _ _ ?_;simp[VJ]
theorem Z9E(o:Zr)(hl:Le o.Steps):∀i,i<=o.Steps.length->ZaK o i=some (Bo (Qw (Vb o.Steps i) (o.Steps.drop i)),[]):=by
 refine down _ ?_ ?_
 .refine ZyU _ _ _ ?_;simp[Qw]
 .intro i hi ih;refine ZyU _ _ _ ?_;have h4:=ZL (i:=i) (by omega);rw[Zzv _ hi];have pn:Vb o.Steps (i+1)=o.Steps[i].From:=by simp[Vb,Yi hi]
  rw[pn]at ih;simp only[Ybf,Ybg]at ih;rw[Ya (by omega)];refine⟨by omega,o.Steps[i],by rw[Yf];exact Yi hi,_,XD _ _ _,?_⟩;rcases tf (inR o.Steps[i].From 1 8192)with e1|e1
  .rw[e1];simp
  rw[e1,Ya rfl];refine⟨_,Z9D _,?_⟩;unfold VJ;rcases tf (inR o.Steps[i].Add (-99) 99)with e2|e2
  .rw[e2];simp
  rw[e2,Ya rfl,show w ((i:Int)+1)=(i:Int)+1 from h4]
  cases i with
  |zero =>
   rw[Yb (by omega),ih]
   have:Vb o.Steps 0<o.Steps[0].From:=by simp[inR]at e1;simp[Vb];omega
   simp[this]
  |succ j =>
   have hj:j<o.Steps.length:=by omega
   have w2:w (((j+1:Nat):Int)-1)=j:=by rw[show((j+1:Nat):Int)-1=j by omega];exact ZD (by omega) (by omega)
   have pj:Vb o.Steps (j+1)=o.Steps[j].From:=by simp[Vb,Yi hj]
   rw[Ya (by omega),w2,pj];refine⟨by omega,o.Steps[j],by rw[Yf];exact Yi hj,?_⟩;by_cases e3:o.Steps[j+1].From<=o.Steps[j].From
   .rw[Ya e3,decide_eq_false (by omega)];simp
   .rw[Yb e3,decide_eq_true (by omega),ih];simp
@[simp] theorem Zgj(o:Zr)(hl:Le o.Steps):ZaJ o=some (Bo (Xi o),[]):=by
 refine Z8Q _ _ ?_;have b:=Z9E o hl 0 (Yd _);simp only[Vb,Yo,Int.ofNat_zero]at b;have b:ZaK o 0=_:=b;unfold Xi;rcases tf (VJ o.Fixed)with e1|e1
 .simp[e1]
 rcases tf (VJ o.Xb)with e2|e2
 .simp[e1,e2]
 rcases tf (VJ o.Xc)with e3|e3
 .simp[e1,e2,e3]
 rcases tf (VJ o.Xd)with e4|e4
 .simp[e1,e2,e3,e4]
 rcases tf (VJ o.Xe)with e5|e5
 .simp[e1,e2,e3,e4,e5]
 by_cases e6:o.Steps.length<=4
 .have e7:¬(4:Int)<o.Steps.length:=by omega
  simp[e1,e2,e3,e4,e5,e6,e7,b]
 .have e7:(4:Int)<o.Steps.length:=by omega
  simp[e1,e2,e3,e4,e5,e6,e7]
theorem Z9F(o:Zr)(hl:Le o.Steps):∀i,i<=o.Steps.length->KD o o.Steps o.Steps.length i=some (Bo (Qw (Vb o.Steps i) (o.Steps.drop i) && decide (o.Steps.length<=4)),[]):=by
 refine down _ ?_ ?_
 .refine Zyl _ _ _ _ _ ?_;rw[Yb (by omega)];by_cases e:o.Steps.length<=4
  .simp[Qw,e];omega
  .simp[Qw,e];omega
 .intro i hi ih;refine Zyl _ _ _ _ _ ?_;have h4:=ZL (i:=i) (by omega);rw[Zzv _ hi];have pn:Vb o.Steps (i+1)=o.Steps[i].From:=by simp[Vb,Yi hi]
  rw[pn]at ih;simp only[Ybf,Ybg]at ih;rw[Ya (by omega)];refine⟨by omega,o.Steps[i],by rw[Yf];exact Yi hi,_,WN _ _ _,?_⟩;rcases tf (inR o.Steps[i].Add (-99) 99)with e2|e2
  .rw[e2];simp
  rw[e2,Ya rfl];refine⟨_,WN _ _ _,?_⟩;rcases tf (inR o.Steps[i].From 1 8192)with e1|e1
  .rw[e1];simp
  rw[e1,Ya rfl,show w ((i:Int)+1)=(i:Int)+1 from h4]
  cases i with
  |zero =>
   rw[Yb (by omega),ih]
   have:Vb o.Steps 0<o.Steps[0].From:=by simp[inR]at e1;simp[Vb];omega
   simp[this]
  |succ j =>
   have hj:j<o.Steps.length:=by omega
   have w2:w (((j+1:Nat):Int)-1)=j:=by rw[show((j+1:Nat):Int)-1=j by omega];exact ZD (by omega) (by omega)
   have pj:Vb o.Steps (j+1)=o.Steps[j].From:=by simp[Vb,Yi hj]
   rw[Ya (by omega),w2,pj];refine⟨by omega,o.Steps[j],by rw[Yf];exact Yi hj,?_⟩;by_cases e3:o.Steps[j+1].From<=o.Steps[j].From
   .rw[Ya e3,decide_eq_false (by omega)];simp
   .rw[Yb e3,decide_eq_true (by omega),ih];simp
@[simp] theorem Vc(o:Zr)(hl:Le o.Steps):XV o=some (Bo (Xi o),[]):=by
 refine Z8b _ _ ?_;have hc:Ziv o=some (.bsl 1 5,[.box (o.c.map .t),.box [.ptr 0 0,.ptr 0 1,.ptr 0 2,.ptr 0 3,.ptr 0 4]]):=Z8a _ _ rfl;refine⟨hc,?_⟩;have b:=Z9F o hl 0 (Yd _);simp only[Vb,Yo]at b;have b:KD o o.Steps o.Steps.length 0=_:=b;have w1:w (0+1)=1:=by decide
 have w2:w (1+1)=2:=by decide
 have w3:w (2+1)=3:=by decide
 have w4:w (3+1)=4:=by decide
 have w5:w (4+1)=5:=by decide
 unfold Xi VJ;refine Zdd ?_;rw[Ya (by omega),Ya rfl];refine⟨_,WN _ _ _,?_⟩;rcases tf (inR o.Fixed (-99) 99)with e1|e1
 .rw[e1];simp
 rw[e1,Ya rfl,w1];refine Zdd ?_;rw[Ya (by omega),Yb (by omega),Ya rfl];refine⟨_,WN _ _ _,?_⟩;rcases tf (inR o.Xb (-99) 99)with e2|e2
 .rw[e2];simp
 rw[e2,Ya rfl,w2];refine Zdd ?_;rw[Ya (by omega),Yb (by omega),Yb (by omega),Ya rfl];refine⟨_,WN _ _ _,?_⟩;rcases tf (inR o.Xc (-99) 99)with e3|e3
 .rw[e3];simp
 rw[e3,Ya rfl,w3];refine Zdd ?_;rw[Ya (by omega),Yb (by omega),Yb (by omega),Yb (by omega),Ya rfl];refine⟨_,WN _ _ _,?_⟩;rcases tf (inR o.Xd (-99) 99)with e4|e4
 .rw[e4];simp
 rw[e4,Ya rfl,w4];refine Zdd ?_;rw[Ya (by omega),Yb (by omega),Yb (by omega),Yb (by omega),Yb (by omega),Ya rfl];refine⟨_,WN _ _ _,?_⟩;rcases tf (inR o.Xe (-99) 99)with e5|e5
 .rw[e5];simp
 rw[e5,Ya rfl,w5];refine Zdd ?_;rw[Yb (by omega),b];simp[Bool.and_comm]
def Zdh(o:Zr)(l r n:Int):Int:=w (w (w (w (o.Fixed+w (o.Xb*l))+w (o.Xc*r))+w (o.Xd*n))+w (w (o.Xe*l)*r))
def ZaW(l r n:Int)(s:Zp):Int:=if s.From<=w (l+r)then w (n+s.Add)else n
def Zdi(o:Zr)(l r n:Int):Int:=o.Steps.foldl (ZaW l r) (Zdh o l r n)
def X7(o:Zr)(l r n:Int):Int:=if(Xi o && inR l 0 4096 && inR r 0 4096 && inR n 0 4096)=true then Zdi o l r n else 0
theorem Z9G(l r:Int)(st:List Zp)(hl:Le st):∀i,i<=st.length->∀n,Zc1 l r n st st.length i=some (I ((st.drop i).foldl (ZaW l r) n),[]):=by
 refine down _ ?_ ?_
 .intro n;refine Zyp _ _ _ _ _ _ _ ?_;simp
 .intro i hi ih n;refine Zyp _ _ _ _ _ _ _ ?_;have h4:=ZL (i:=i) (by omega);rw[Yj hi,Ydw];simp only[Ybf,Ybg]at ih;by_cases e:st[i].From<=w (l+r)
  .simp[hi,h4,e,ih,ZaW]
  .simp[hi,h4,e,ih,ZaW]
@[simp] theorem Z9H(o:Zr)(hl:Le o.Steps)(l r n:Int):KE o l r n=some (I (Zdi o l r n),[]):=by
 refine Z8e _ _ _ _ _ ?_;have b:=Z9G l r o.Steps hl 0 (Yd _) (Zdh o l r n);simpa[Zdi,Zdh]using b
@[simp] theorem ZaX(o:Zr)(hl:Le o.Steps)(l r n:Int):X6 o l r n=some (I (X7 o l r n),[]):=by
 refine Z8o _ _ _ _ _ ?_;unfold X7;rcases tf (Xi o)with e1|e1<;>rcases tf (inR l 0 4096)with e2|e2<;>rcases tf (inR r 0 4096)with e3|e3<;>rcases tf (inR n 0 4096)with e4|e4<;>simp[hl,e1,e2,e3,e4]
theorem Z9I(o:Zr)(l r:Int)(hl:Le o.Steps):∀i,i<=o.Steps.length->∀n,ZaL o l r n i=some (I ((o.Steps.drop i).foldl (ZaW l r) n),[]):=by
 refine down _ ?_ ?_
 .intro n;refine ZyV _ _ _ _ _ _ ?_;simp
 .intro i hi ih n;refine ZyV _ _ _ _ _ _ ?_;have h4:=ZL (i:=i) (by omega);rw[Yj hi,Ydw];simp only[Ybf,Ybg]at ih;by_cases e:o.Steps[i].From<=w (l+r)
  .simp[hi,h4,e,ih,ZaW]
  .simp[hi,h4,e,ih,ZaW]
@[simp] theorem Zdj(o:Zr)(hl:Le o.Steps)(l r n:Int):Uw o l r n=some (I (X7 o l r n),[]):=by
 refine Z8T _ _ _ _ _ ?_;have b:=Z9I o l r hl 0 (Yd _) (Zdh o l r n);simp only[Yo,Zdh]at b;have b:ZaL o l r _ 0=_:=b;unfold X7;rcases tf (Xi o)with e1|e1<;>rcases tf (inR l 0 4096)with e2|e2<;>rcases tf (inR r 0 4096)with e3|e3<;>rcases tf (inR n 0 4096)with e4|e4<;>simp[hl,e1,e2,e3,e4,b,Zdi,Zdh]
@[simp] theorem Qx(c:Int):UJ c=some (I (Z5 c),[]):=by
 refine Z8d _ _ ?_;cases h:inR c 0 7
 .simp[h,Zs6 h]
 .rcases cls8 h with rfl|rfl|rfl|rfl|rfl|rfl|rfl|rfl<;>simp[inR,Z5,ZD,shlI]
@[simp] theorem Qy(c:Int):US c=some (I (Z5 c),[]):=by
 refine Z8S _ _ ?_;have e:∀n i r,(if i<c then ZcM c (if 1<w (n*4)then w (n*4)else 1) (w (i+1))=some r else some (I n,[])=some r)->ZcM c n i=some r:=λn i r h=>Z8R _ _ _ _ h
 cases h:inR c 0 7
 .simp[h,Zs6 h]
 .refine⟨_,XD _ _ _,?_⟩;rw[h,Ya rfl];rcases cls8 h with rfl|rfl|rfl|rfl|rfl|rfl|rfl|rfl
  all_goals repeat (refine e _ _ _ ?_;first|(rw[Yb (by decide)];rfl)|rw[Ya (by decide)])
def inT(t:WA):Prop:=∃a b c:Int,t=[a,b,c]/\(0<=a/\a<=7)/\(0<=b/\b<=7)/\(0<=c/\c<=7)
def tcl(o:Zr):WA->Int
 |[a,b,c]=>Zdi o (Z5 a) (Z5 b) (Z5 c)
 |_=>0
theorem ZpG{c:Int}(h0:0<=c)(h7:c<=7):inR (Z5 c) 0 4096=true:=by
 have:c=0\/c=1\/c=2\/c=3\/c=4\/c=5\/c=6\/c=7:=by omega
 rcases this with rfl|rfl|rfl|rfl|rfl|rfl|rfl|rfl<;>decide
theorem ZaY(o:Zr)(hl:Le o.Steps){t:WA}(h:inT t):UK o t=some (I (tcl o t),[]):=by
 obtain⟨a,b,c,rfl,_⟩:=h;refine Z8f _ _ _ ?_;simp[hl,tcl]
theorem Zjl(o:Zr)(hl:Le o.Steps)(hv:Xi o=true){t:WA}(h:inT t):ZcN o t=some (I (tcl o t),[]):=by
 obtain⟨a,b,c,rfl,h1,h2,h3⟩:=h;refine Z8U _ _ _ ?_;have c1:=ZpG h1.1 h1.2;have c2:=ZpG h2.1 h2.2;have c3:=ZpG h3.1 h3.2;simp[hl,tcl,X7,hv,c1,c2,c3]
theorem Zzw{t:WA}(h:inT t){k:Nat}{e:Int}(hk:t[k]?=some e)(h7:e+1<=7):inT (t.set k (e+1)):=by
 obtain⟨a,b,c,rfl,h1,h2,h3⟩:=h
 match k,hk with
 |0,hk=>simp at hk;subst hk;exact⟨a+1,b,c,rfl,by omega,h2,h3⟩
 |1,hk=>simp at hk;subst hk;exact⟨a,b+1,c,rfl,h1,by omega,h3⟩
 |2,hk=>simp at hk;subst hk;exact⟨a,b,c+1,rfl,h1,h2,by omega⟩
 |k+3,hk=>simp at hk
theorem Zzx{t:WA}(h:inT t){k:Nat}(hk:k<3):∃e,t[k]?=some e/\0<=e/\e<=7:=by
 obtain⟨a,b,c,rfl,h1,h2,h3⟩:=h
 match k,hk with
 |0,_=>exact⟨a,rfl,h1⟩
 |1,_=>exact⟨b,rfl,h2⟩
 |2,_=>exact⟨c,rfl,h3⟩
theorem ZpH{t:WA}(h:inT t):t.length=3:=by obtain⟨a,b,c,rfl,_⟩:=h;rfl
def Zgk(o:Zr)(t:WA)(k:Nat):Prop:=∃e,t[k]?=some e/\e+1<=7/\tcl o (t.set k (e+1))<tcl o t
def XJ(o:Zr)(t:WA)(k:Nat):Prop:=∃j,k<=j/\j<3/\Zgk o t j
def Kf(o:Zr):Prop:=∃t,inT t/\XJ o t 0
def ZpI(o:Zr):Prop:=∃t,inT t/\tcl o t<1
abbrev VK(X:Rs)(p:Prop):Prop:=∃(xs ys:WA) (b:Bool),X=some (.tup [.own 0,.own 1,Bo b],[.arr ZU 1 true (xs.map ic),.arr ZU 1 true (ys.map ic)])/\(b=true↔p)
theorem VK.congr{X:Rs}{p q:Prop}(h:VK X p)(e:p↔q):VK X q:=by
 obtain⟨xs,ys,b,h1,h2⟩:=h;exact⟨xs,ys,b,h1,h2.trans e⟩
theorem l_fd0(o:Zr)(hl:Le o.Steps)(hv:Xi o=true){t:WA}(ht:inT t)(a b e:Int)(p:Prop)(hc:VK (ZcS o a b (w (e+1))) p):∀k:Nat,k<=3->
  VK (QX o t a b e k) (XJ o t k\/p):=by
 have h3:=ZpH ht;refine down _ ?_ ?_
 .obtain⟨xs,ys,f,h1,h2⟩:=hc;refine⟨xs,ys,f,ZyZ _ _ _ _ _ _ _ (by rw[Yb (by omega)];exact h1),?_⟩;rw[h2];exact⟨.inr,λh=>h.elim (λ⟨j,a,b,_⟩=>by omega) id⟩
 .intro k hk ih;have h4:=ZL (i:=k) (by omega);obtain⟨x,hx,x0,x7⟩:=Zzx ht hk;have wx:w (x+1)=x+1:=ZD (by omega) (by omega);simp only[Ybf,Ybg]at ih;have step:XJ o t k↔(Zgk o t k\/XJ o t (k+1)):=by
   constructor
   .rintro⟨j,j1,j2,j3⟩;by_cases hj:j=k
    .subst hj;exact .inl j3
    .exact .inr ⟨j,by omega,j2,j3⟩
   .rintro(h|⟨j,j1,j2,j3⟩)
    .exact⟨k,Yg _,hk,h⟩
    .exact⟨j,by omega,j2,j3⟩
  have pre:∀r,(if x+1<=7 then(if tcl o (t.set k (x+1))<tcl o t then some (.tup [.own 0,.own 1,Bo true],[.arr ZU 1 true (t.map ic),.arr ZU 1 true ((t.set k (x+1)).map ic)])=some r
    else QX o t a b e ((k:Int)+1)=some r)else QX o t a b e ((k:Int)+1)=some r)->QX o t a b e k=some r:=by
   intro r hr;refine ZyZ _ _ _ _ _ _ _ ?_;rw[Ya (by omega)];refine⟨by omega,by omega,x,by rw[Yf];exact hx,?_⟩;rw[wx,Yf,show w ((k:Int)+1)=(k:Int)+1 from h4];by_cases h7:x+1<=7
   .rw[Ya h7]at hr|-;exact⟨_,Zjl o hl hv (Zzw ht hx h7),_,Zjl o hl hv ht,hr⟩
   .rw[Yb h7]at hr|-;exact hr
  have dk:Zgk o t k↔(x+1<=7/\tcl o (t.set k (x+1))<tcl o t):=by
   constructor
   .rintro⟨y,y1,y2,y3⟩;rw[hx]at y1;cases y1;exact⟨y2,y3⟩
   .rintro⟨y2,y3⟩;exact⟨x,hx,y2,y3⟩
  by_cases h7:x+1<=7/\tcl o (t.set k (x+1))<tcl o t
  .refine⟨_,_,true,pre _ (by rw[Ya h7.1,Ya h7.2]),?_⟩;rw[step,dk];exact⟨λ_=>.inl (.inl h7),λ_=>rfl⟩
  .obtain⟨xs,ys,f,i1,i2⟩:=ih;refine⟨xs,ys,f,pre _ ?_,?_⟩
   .split
    .split
     .rename_i a1 a2;exact absurd ⟨a1,a2⟩ h7
     .exact i1
    .exact i1
   .rw[i2,step,dk];constructor
    .exact λh=>h.imp .inr id
    .exact λh=>h.imp (λh=>h.resolve_left h7) id
theorem Zdk{P:Nat->Prop}{i:Nat}{p:Prop}(hi:i<8):((∃z,i<=z/\z<=7/\P z)\/p)↔(P i\/(∃z,i+1<=z/\z<=7/\P z)\/p):=by
 constructor
 .rintro(⟨z,z1,z2,z3⟩|h)
  .by_cases hz:z=i
   .subst hz;exact .inl z3
   .exact .inr (.inl ⟨z,by omega,z2,z3⟩)
  .exact .inr (.inr h)
 .rintro(h|⟨z,z1,z2,z3⟩|h)
  .exact .inl ⟨i,Yg _,by omega,h⟩
  .exact .inl ⟨z,by omega,z2,z3⟩
  .exact .inr h
theorem Zdl{P:Nat->Prop}{p:Prop}:((∃z,8<=z/\z<=7/\P z)\/p)↔p:=⟨λh=>h.elim (λ⟨z,a,b,_⟩=>by omega) id,.inr⟩
theorem l_fd1(o:Zr)(hl:Le o.Steps)(hv:Xi o=true)(a b:Nat)(ha:a<=7)(hb:b<=7)(p:Prop)(hc:VK (ZcR o a ((b:Int)+1)) p):∀e:Nat,e<=8->
  VK (ZcS o a b e) ((∃z:Nat,e<=z/\z<=7/\XJ o [(a:Int),(b:Int),(z:Int)] 0)\/p):=by
 have wb:w ((b:Int)+1)=(b:Int)+1:=ZD (by omega) (by omega);refine down _ ?_ ?_
 .refine VK.congr ?_ Zdl.symm;obtain⟨xs,ys,f,h1,h2⟩:=hc;exact⟨xs,ys,f,ZyY _ _ _ _ _ (by rw[Yb (by omega),wb];exact h1),h2⟩
 .intro e he ih;have we:w ((e:Int)+1)=(e:Int)+1:=ZD (by omega) (by omega);have hT:inT [(a:Int),(b:Int),(e:Int)]:=⟨a,b,e,rfl,by omega,by omega,by omega⟩;simp only[Ybf,Ybg]at ih;obtain⟨xs,ys,f,h1,h2⟩:=l_fd0 o hl hv hT a b e _ (by rw[we];exact ih) 0 (by omega);exact⟨xs,ys,f,ZyY _ _ _ _ _ (by rw[Ya (by omega)];exact h1),h2.trans (Zdk (P:=λz:Nat=>XJ o [(a:Int),(b:Int),(z:Int)] 0) he).symm⟩
theorem l_fd2(o:Zr)(hl:Le o.Steps)(hv:Xi o=true)(a:Nat)(ha:a<=7)(p:Prop)(hc:VK (ZcQ o ((a:Int)+1)) p):∀b:Nat,b<=8->
  VK (ZcR o a b) ((∃y:Nat,b<=y/\y<=7/\∃z:Nat,0<=z/\z<=7/\XJ o [(a:Int),(y:Int),(z:Int)] 0)\/p):=by
 have wa:w ((a:Int)+1)=(a:Int)+1:=ZD (by omega) (by omega);refine down _ ?_ ?_
 .refine VK.congr ?_ Zdl.symm;obtain⟨xs,ys,f,h1,h2⟩:=hc;exact⟨xs,ys,f,ZyX _ _ _ _ (by rw[Yb (by omega),wa];exact h1),h2⟩
 .intro b hb ih;simp only[Ybf,Ybg]at ih;obtain⟨xs,ys,f,h1,h2⟩:=l_fd1 o hl hv a b ha (by omega) _ ih 0 (by omega);exact⟨xs,ys,f,ZyX _ _ _ _ (by rw[Ya (by omega)];exact h1),h2.trans (Zdk (P:=λy:Nat=>∃z:Nat,0<=z/\z<=7/\XJ o [(a:Int),(y:Int),(z:Int)] 0) hb).symm⟩
theorem l_fd3(o:Zr)(hl:Le o.Steps)(hv:Xi o=true):∀a:Nat,a<=8->
  VK (ZcQ o a) ((∃x:Nat,a<=x/\x<=7/\∃y:Nat,0<=y/\y<=7/\∃z:Nat,0<=z/\z<=7/\XJ o [(x:Int),(y:Int),(z:Int)] 0)\/False):=by
 refine down _ ?_ ?_
 .refine VK.congr ?_ Zdl.symm;exact⟨[],[],false,ZyW _ _ _ (by rw[Yb (by omega)]),by simp⟩
 .intro a ha ih;simp only[Ybf,Ybg]at ih;obtain⟨xs,ys,f,h1,h2⟩:=l_fd2 o hl hv a (by omega) _ ih 0 (by omega);exact⟨xs,ys,f,ZyW _ _ _ (by rw[Ya (by omega)];exact h1),h2.trans (Zdk (P:=λx:Nat=>∃y:Nat,0<=y/\y<=7/\∃z:Nat,0<=z/\z<=7/\XJ o [(x:Int),(y:Int),(z:Int)] 0) ha).symm⟩
theorem Zzy(o:Zr)(P:WA->Prop):(∃t,inT t/\P t)↔∃x:Nat,0<=x/\x<=7/\∃y:Nat,0<=y/\y<=7/\∃z:Nat,0<=z/\z<=7/\P [(x:Int),(y:Int),(z:Int)]:=by
 constructor
 .rintro⟨t,⟨a,b,c,rfl,h1,h2,h3⟩,h⟩;refine⟨a.toNat,by omega,by omega,b.toNat,by omega,by omega,c.toNat,by omega,by omega,?_⟩;rw[Ydl h1.1,Ydl h2.1,Ydl h3.1];exact h
 .rintro⟨x,_,x2,y,_,y2,z,_,z2,h⟩;exact⟨_,⟨x,y,z,rfl,by omega,by omega,by omega⟩,h⟩
theorem Z9J(o:Zr)(hl:Le o.Steps)(hv:Xi o=true):VK (ZiJ o) (Kf o):=by
 obtain⟨xs,ys,f,h1,h2⟩:=l_fd3 o hl hv 0 (by omega);refine⟨xs,ys,f,Z8V _ _ ⟨_,Zgj o hl,?_⟩,?_⟩
 .rw[hv,Ya rfl];exact h1
 .rw[h2,Kf,Zzy o (λt=>XJ o t 0)];simp
abbrev Ub(X:Rs)(p:Prop):Prop:=∃(xs:WA),X=some (.own 0,[.arr ZU 1 true (xs.map ic)])/\(xs≠[]↔p)
theorem Ub.congr{X:Rs}{p q:Prop}(h:Ub X p)(e:p↔q):Ub X q:=by
 obtain⟨xs,h1,h2⟩:=h;exact⟨xs,h1,h2.trans e⟩
theorem l_ch0(o:Zr)(hl:Le o.Steps)(hv:Xi o=true)(a b:Nat)(ha:a<=7)(hb:b<=7)(p:Prop)(hc:Ub (ZcU o a ((b:Int)+1)) p):∀e:Nat,e<=8->
  Ub (ZfL o a b e) ((∃z:Nat,e<=z/\z<=7/\tcl o [(a:Int),(b:Int),(z:Int)]<1)\/p):=by
 have wb:w ((b:Int)+1)=(b:Int)+1:=ZD (by omega) (by omega);refine down _ ?_ ?_
 .refine Ub.congr ?_ Zdl.symm;obtain⟨xs,h1,h2⟩:=hc;exact⟨xs,ZpA _ _ _ _ _ (by rw[Yb (by omega),wb];exact h1),h2⟩
 .intro e he ih;have we:w ((e:Int)+1)=(e:Int)+1:=ZD (by omega) (by omega);have hT:inT [(a:Int),(b:Int),(e:Int)]:=⟨a,b,e,rfl,by omega,by omega,by omega⟩;simp only[Ybf,Ybg]at ih;refine Ub.congr ?_ (Zdk he).symm;by_cases h:tcl o [(a:Int),(b:Int),(e:Int)]<1
  .refine⟨[a,b,e],ZpA _ _ _ _ _ ?_,by simp[h]⟩;rw[Ya (by omega)];exact⟨_,Zjl o hl hv hT,by rw[Ya h]⟩
  .obtain⟨xs,h1,h2⟩:=ih;refine⟨xs,ZpA _ _ _ _ _ ?_,by rw[h2];simp[h]⟩;rw[Ya (by omega)];exact⟨_,Zjl o hl hv hT,by rw[Yb h,we];exact h1⟩
theorem l_ch1(o:Zr)(hl:Le o.Steps)(hv:Xi o=true)(a:Nat)(ha:a<=7)(p:Prop)(hc:Ub (ZcT o ((a:Int)+1)) p):∀b:Nat,b<=8->
  Ub (ZcU o a b) ((∃y:Nat,b<=y/\y<=7/\∃z:Nat,0<=z/\z<=7/\tcl o [(a:Int),(y:Int),(z:Int)]<1)\/p):=by
 have wa:w ((a:Int)+1)=(a:Int)+1:=ZD (by omega) (by omega);refine down _ ?_ ?_
 .refine Ub.congr ?_ Zdl.symm;obtain⟨xs,h1,h2⟩:=hc;exact⟨xs,Zzb _ _ _ _ (by rw[Yb (by omega),wa];exact h1),h2⟩
 .intro b hb ih;simp only[Ybf,Ybg]at ih;obtain⟨xs,h1,h2⟩:=l_ch0 o hl hv a b ha (by omega) _ ih 0 (by omega);exact⟨xs,Zzb _ _ _ _ (by rw[Ya (by omega)];exact h1),h2.trans (Zdk (P:=λy:Nat=>∃z:Nat,0<=z/\z<=7/\tcl o [(a:Int),(y:Int),(z:Int)]<1) hb).symm⟩
theorem l_ch2(o:Zr)(hl:Le o.Steps)(hv:Xi o=true):∀a:Nat,a<=8->
  Ub (ZcT o a) ((∃x:Nat,a<=x/\x<=7/\∃y:Nat,0<=y/\y<=7/\∃z:Nat,0<=z/\z<=7/\tcl o [(x:Int),(y:Int),(z:Int)]<1)\/False):=by
 refine down _ ?_ ?_
 .refine Ub.congr ?_ Zdl.symm;exact⟨[],Zza _ _ _ (by rw[Yb (by omega)]),by simp⟩
 .intro a ha ih;simp only[Ybf,Ybg]at ih;obtain⟨xs,h1,h2⟩:=l_ch1 o hl hv a (by omega) _ ih 0 (by omega);exact⟨xs,Zza _ _ _ (by rw[Ya (by omega)];exact h1),h2.trans (Zdk (P:=λx:Nat=>∃y:Nat,0<=y/\y<=7/\∃z:Nat,0<=z/\z<=7/\tcl o [(x:Int),(y:Int),(z:Int)]<1) ha).symm⟩
theorem Z9K(o:Zr)(hl:Le o.Steps)(hv:Xi o=true):Ub (ZiM o) (ZpI o):=by
 obtain⟨xs,h1,h2⟩:=l_ch2 o hl hv 0 (by omega);refine⟨xs,Z8W _ _ h1,?_⟩;rw[h2,ZpI,Zzy o (λt=>tcl o t<1)];simp
def Qz(a b:Int)(c:Nat):XS:=(List.range' c (8-c)).map λz:Nat=>[a,b,(z:Int)]
def Jf(a:Int)(b:Nat):XS:=(List.range' b (8-b)).flatMap λy:Nat=>Qz a y 0
def Zdm(a:Nat):XS:=(List.range' a (8-a)).flatMap λx:Nat=>Jf x 0
theorem ZpJ{i:Nat}(h:i<8):List.range' i (8-i)=i::List.range' (i+1) (8-(i+1)):=by
 rw[show 8-i=(8-(i+1))+1 by omega,Ycl]
theorem Z9L(a b:Int)(c:Nat):(Qz a b c).length=8-c:=by simp[Qz]
theorem Z9M(a:Int):(Jf a 0).length=64:=rfl
theorem l_tr0(a b:Nat)(hb:b<=7)(r:XR):∀c:Nat,c<=8->∀out:XS,out.length<=1000000->Za0 (out++Qz a b c) a ((b:Int)+1)=some r->Zc0 out a b c=some r:=by
 have wb:w ((b:Int)+1)=(b:Int)+1:=ZD (by omega) (by omega);have key:∀c:Nat,c<=8->∀out:XS,out.length<=1000000+c->Za0 (out++Qz a b c) a ((b:Int)+1)=some r->Zc0 out a b c=some r:=by
  refine down _ ?_ ?_
  .intro out ho h;refine Zyo _ _ _ _ _ ?_;rw[Yb (by omega),wb];simpa[Qz]using h
  .intro c hc ih out ho h;have wc:w ((c:Int)+1)=(c:Int)+1:=ZD (by omega) (by omega);refine Zyo _ _ _ _ _ ?_;rw[Ya (by omega),wc];refine⟨by omega,?_⟩
   have ih:=ih (out++[[(a:Int),(b:Int),(c:Int)]]) (by simp;omega) (by
    rw[Qz,ZpJ hc]at h
    simpa[Qz]using h)
   simpa using ih
 exact λc hc out ho h=>key c hc out (by omega) h
theorem l_tr1(a:Nat)(ha:a<=7)(r:XR):∀b:Nat,b<=8->∀out:XS,out.length<=100000+8*b->Zcz (out++Jf a b) ((a:Int)+1)=some r->Za0 out a b=some r:=by
 have wa:w ((a:Int)+1)=(a:Int)+1:=ZD (by omega) (by omega);refine down _ ?_ ?_
 .intro out ho h;refine Zyn _ _ _ _ ?_;rw[Yb (by omega),wa];simpa[Jf]using h
 .intro b hb ih out ho h;refine Zyn _ _ _ _ ?_;rw[Ya (by omega)];refine l_tr0 a b (by omega) r 0 (by omega) out (by omega) ?_
  have ih:=ih (out++Qz a b 0) (by rw[Ym,Z9L];omega) (by
   rw[Jf,ZpJ hb]at h
   simpa[Jf]using h)
  simpa using ih
theorem l_tr2:∀a:Nat,a<=8->∀out:XS,out.length<=64*a->Zcz out a=some (.own 0,[.arr ZsN 1 true ((out++Zdm a).map isc)]):=by
 refine down _ ?_ ?_
 .intro out ho;refine Zym _ _ _ ?_;rw[Yb (by omega)];simp[Zdm]
 .intro a ha ih out ho;refine Zym _ _ _ ?_;rw[Ya (by omega)];refine l_tr1 a (by omega) _ 0 (by omega) out (by omega) ?_;have ih:=ih (out++Jf a 0) (by rw[Ym,Z9M];omega);rw[Zdm,ZpJ ha];simpa[Zdm]using ih
def Wm:XS:=Zdm 0
theorem Zdn:VG=some (.own 0,[.arr ZsN 1 true (Wm.map isc)]):=Z8c _ (l_tr2 0 (by omega) [] (by simp))
theorem Uz(t:WA):t∈Wm↔inT t:=by
 simp only[Wm,Zdm,Jf,Qz,Ybv,Y2,List.mem_range'_1,inT];constructor
 .rintro⟨x,hx,y,hy,z,hz,rfl⟩;exact⟨x,y,z,rfl,by omega,by omega,by omega⟩
 .rintro⟨a,b,c,rfl,h1,h2,h3⟩;refine⟨a.toNat,by omega,b.toNat,by omega,c.toNat,by omega,?_⟩;rw[Ydl h1.1,Ydl h2.1,Ydl h3.1]
set_option maxRecDepth 100000 in
theorem Zdo:Wm.length=512:=rfl
@[simp] theorem Zdp(xs:WA)(h:xs.length<=68719476736):VZ xs=some (.own 0,[.arr ZU 1 true (xs.map ic)]):=Z7A _ _ ⟨h,rfl⟩
abbrev Zjm(X:Rs)(p:Prop):Prop:=(p/\∃xs ys:WA,X=some (.tup [L 1 (xs.map ic),.own 0,Bo true],[.arr ZU 1 true (ys.map ic)]))\/(¬p/\X=some (.tup [.t .nil,.t .nil,Bo false],[]))
theorem l_id0(o:Zr)(hl:Le o.Steps)(ts:XS){t:WA}(ht:inT t)(n i:Int)(p:Prop)(hc:Zjm (KF o ts n (w (i+1))) p):∀k:Nat,k<=3->
  Zjm (Us o ts t n i 3 k) (XJ o t k\/p):=by
 have h3:=ZpH ht;refine down _ ?_ ?_
 .have e:(XJ o t 3\/p)↔p:=⟨λh=>h.elim (λ⟨j,a,b,_⟩=>by omega) id,.inr⟩;rcases hc with⟨h,xs,ys,h1⟩|⟨h,h1⟩
  .exact .inl ⟨e.2 h,xs,ys,Zp4 _ _ _ _ _ _ _ _ (by rw[Yb (by omega)];exact h1)⟩
  .exact .inr ⟨λhc=>h (e.1 hc),Zp4 _ _ _ _ _ _ _ _ (by rw[Yb (by omega)];exact h1)⟩
 .intro k hk ih;have h4:=ZL (i:=k) (by omega);obtain⟨x,hx,x0,x7⟩:=Zzx ht hk;have wx:w (x+1)=x+1:=ZD (by omega) (by omega);simp only[Ybf,Ybg]at ih;have step:XJ o t k↔(Zgk o t k\/XJ o t (k+1)):=by
   constructor
   .rintro⟨j,j1,j2,j3⟩;by_cases hj:j=k
    .subst hj;exact .inl j3
    .exact .inr ⟨j,by omega,j2,j3⟩
   .rintro(h|⟨j,j1,j2,j3⟩)
    .exact⟨k,Yg _,hk,h⟩
    .exact⟨j,by omega,j2,j3⟩
  have dk:Zgk o t k↔(x+1<=7/\tcl o (t.set k (x+1))<tcl o t):=by
   constructor
   .rintro⟨y,y1,y2,y3⟩;rw[hx]at y1;cases y1;exact⟨y2,y3⟩
   .rintro⟨y2,y3⟩;exact⟨x,hx,y2,y3⟩
  have pre:∀r,(if x+1<=7 then(if tcl o (t.set k (x+1))<tcl o t then some (.tup [L 1 (t.map ic),.own 0,Bo true],[.arr ZU 1 true ((t.set k (x+1)).map ic)])=some r
    else Us o ts t n i 3 ((k:Int)+1)=some r)else Us o ts t n i 3 ((k:Int)+1)=some r)->Us o ts t n i 3 k=some r:=by
   intro r hr;refine Zp4 _ _ _ _ _ _ _ _ ?_;rw[Ya (by omega)];refine⟨by omega,x,by rw[Yf];exact hx,?_⟩;rw[show w ((k:Int)+1)=(k:Int)+1 from h4];by_cases h7:x=7
   .rw[Ya h7];rw[Yb (by omega)]at hr;exact hr
   .rw[Yb h7];have h8:x+1<=7:=by omega
    rw[Ya h8]at hr;refine⟨t,Zdp t (by omega),x,by rw[Yf];exact hx,?_⟩;rw[wx,Yf];exact⟨_,ZaY o hl (Zzw ht hx h8),_,ZaY o hl ht,hr⟩
  by_cases h7:x+1<=7/\tcl o (t.set k (x+1))<tcl o t
  .exact .inl ⟨.inl (step.2 (.inl (dk.2 h7))),_,_,pre _ (by rw[Ya h7.1,Ya h7.2])⟩
  .have go:∀r,Us o ts t n i 3 ((k:Int)+1)=some r->Us o ts t n i 3 k=some r:=by
    intro r hr;refine pre r ?_;split
    .split
     .rename_i a1 a2;exact absurd ⟨a1,a2⟩ h7
     .exact hr
    .exact hr
   have e:(XJ o t k\/p)↔(XJ o t (k+1)\/p):=by
    rw[step,dk];exact⟨λh=>h.imp (λh=>h.resolve_left h7) id,λh=>h.imp .inr id⟩
   rcases ih with⟨h,xs,ys,h1⟩|⟨h,h1⟩
   .exact .inl ⟨e.2 h,xs,ys,go _ h1⟩
   .exact .inr ⟨λhc=>h (e.1 hc),go _ h1⟩
theorem l_id1(o:Zr)(hl:Le o.Steps)(ts:XS)(c:∀t∈ts,inT t)(hn:ts.length<=1000):∀i,i<=ts.length->Zjm (KF o ts ts.length i) (∃t∈ts.drop i,XJ o t 0):=by
 refine down _ ?_ ?_
 .refine .inr ⟨by simp,Zyq _ _ _ _ _ (by rw[Yb (by omega)])⟩
 .intro i hi ih;have h4:=ZL (i:=i) (by omega);have ht:=c _ (Yh hi);simp only[Ybf,Ybg]at ih;have b:=l_id0 o hl ts ht ts.length i _ (by rw[show w ((i:Int)+1)=(i:Int)+1 from h4];exact ih) 0 (by omega);have go:∀r,Us o ts ts[i] ts.length i 3 0=some r->KF o ts ts.length i=some r:=by
   intro r hr;refine Zyq _ _ _ _ _ ?_;rw[Ya (by omega)];refine⟨by omega,ts[i],by rw[Yf];exact Yi hi,?_⟩;rw[ZpH ht];exact hr
  have e:(∃t∈ts.drop i,XJ o t 0)↔(XJ o ts[i] 0\/∃t∈ts.drop (i+1),XJ o t 0):=by
   rw[Yj hi];simp only[Yl,exists_eq_or_imp]
  rcases b with⟨h,xs,ys,h1⟩|⟨h,h1⟩
  .exact .inl ⟨e.2 h,xs,ys,go _ h1⟩
  .exact .inr ⟨λhc=>h (e.1 hc),go _ h1⟩
theorem Zgl(o:Zr)(hl:Le o.Steps)(hv:Xi o=true):Zjm (X5 o) (Kf o):=by
 have b:=l_id1 o hl Wm (λt h=>(Uz t).1 h) (by rw[Zdo];omega) 0 (Yd _);have go:∀r,KF o Wm Wm.length 0=some r->X5 o=some r:=by
  intro r hr;refine Z8g _ _ ⟨_,Vc o hl,?_⟩;rw[hv,Ya rfl];exact⟨Wm,Zdn,hr⟩
 have e:(∃t∈Wm.drop 0,XJ o t 0)↔Kf o:=by
  simp only[Yo,Uz,Kf]
 rcases b with⟨h,xs,ys,h1⟩|⟨h,h1⟩
 .exact .inl ⟨e.1 h,xs,ys,go _ h1⟩
 .exact .inr ⟨λhc=>h (e.2 hc),go _ h1⟩
def Wn(o:Zr):Prop:=Xi o=true/\¬Kf o/\¬ZpI o
def mOp(m:Zm)(k:Int):Zr:=if k=1 then m.Scan else if k=2 then m.Sort_ else if k=3 then m.Hash else if k=4 then m.Merge else m.Nested
abbrev LeM(m:Zm):Prop:=Le m.Scan.Steps/\Le m.Sort_.Steps/\Le m.Hash.Steps/\Le m.Merge.Steps/\Le m.Nested.Steps
theorem LeM.op{m:Zm}(h:LeM m)(k:Int):Le (mOp m k).Steps:=by
 unfold mOp;obtain⟨h1,h2,h3,h4,h5⟩:=h
 repeat' split
 all_goals assumption
@[simp] theorem Zjn(m:Zm)(k:Int):Qt m k=some (.agg ((mOp m k).c.map .t),[]):=by
 refine Z8O _ _ _ ?_;unfold mOp;by_cases h1:k=1
 .simp[h1]
 by_cases h2:k=2
 .simp[h2]
 by_cases h3:k=3
 .simp[h3]
 by_cases h4:k=4
 .simp[h4]
 .simp[h1,h2,h3,h4]
def X8(m:Zm):Prop:=Wn m.Scan/\Wn m.Sort_/\Wn m.Hash/\Wn m.Merge/\Wn m.Nested
theorem Z9N(m:Zm)(hm:LeM m):∀k:Nat,k<=6->1<=k->
  ∃(xs ys:WA) (n:Int),ZcV m k=some (.tup [I n,.own 0,.own 1],[.arr ZU 1 true (xs.map ic),.arr ZU 1 true (ys.map ic)])/\(n=0↔∀j:Nat,k<=j->j<=5->Wn (mOp m j)):=by
 refine down _ ?_ ?_
 .intro _;exact⟨[],[],0,Zzc _ _ _ (by rw[Yb (by omega)]),⟨λ_ j h1 h2=>by omega,λ_=>rfl⟩⟩
 .intro k hk ih h1;have wk':w ((k:Int)+1)=(k:Int)+1:=ZD (by omega) (by omega);have hl:=hm.op k;have step:(∀j:Nat,k<=j->j<=5->Wn (mOp m j))↔(Wn (mOp m k)/\∀j:Nat,k+1<=j->j<=5->Wn (mOp m j)):=by
   constructor
   .exact λh=>⟨h k (Yg _) (by omega),λj a b=>h j (by omega) b⟩
   .rintro⟨a,b⟩ j c d;by_cases hj:j=k
    .subst hj;exact a
    .exact b j (by omega) d
  have kne:(k:Int)≠0:=by omega
  have pre:∀r,(∃v,ZaJ (mOp m k)=some (Bo v,[])/\_)->ZcV m k=some r:=λr h=>Zzc _ _ _ (by rw[Ya (by omega)];exact⟨mOp m k,Zjn m k,h⟩)
  rcases tf (Xi (mOp m k))with hv|hv
  .refine⟨[],[],k,pre _ ⟨false,by rw[Zgj _ hl,hv],by rw[Yb (by simp)]⟩,?_⟩;rw[step];exact⟨λh=>absurd h kne,λh=>by have:=h.1.1;rw[hv]at this;cases this⟩
  .obtain⟨xs,ys,f,d1,d2⟩:=Z9J (mOp m k) hl hv
   cases f with
   |true =>
    refine⟨xs,ys,k,pre _ ⟨true,by rw[Zgj _ hl,hv],?_⟩,?_⟩
    .rw[Ya rfl];exact⟨xs,ys,true,d1,by rw[Ya rfl]⟩
    .rw[step]
     exact⟨λh=>absurd h kne,λh=>absurd (d2.1 rfl) h.1.2.1⟩
   |false =>
    obtain⟨cs,c1,c2⟩:=Z9K (mOp m k) hl hv;by_cases hc:cs=[]
    .obtain⟨xs',ys',n,i1,i2⟩:=ih (by omega);simp only[Ybf,Ybg]at i1;refine⟨xs',ys',n,pre _ ⟨true,by rw[Zgj _ hl,hv],?_⟩,?_⟩
     .rw[Ya rfl];refine⟨xs,ys,false,d1,?_⟩;rw[Yb (by simp)];refine⟨cs,c1,?_⟩;rw[hc,Yb (by simp),wk'];exact i1
     .rw[step,i2];refine⟨λh=>⟨⟨hv,λhd=>(by have:=d2.2 hd;cases this),λhch=>(c2.2 hch) hc⟩,h⟩,λh=>h.2⟩
    .refine⟨cs,[],k,pre _ ⟨true,by rw[Zgj _ hl,hv],?_⟩,?_⟩
     .rw[Ya rfl];refine⟨xs,ys,false,d1,?_⟩;rw[Yb (by simp)];refine⟨cs,c1,?_⟩
      have:0<cs.length:=Yc1.2 hc
      rw[Ya (by omega)]
     .rw[step];exact⟨λh=>absurd h kne,λh=>absurd (c2.1 hc) h.1.2.2⟩
theorem Z9O(m:Zm):(∀j:Nat,1<=j->j<=5->Wn (mOp m j))↔X8 m:=by
 constructor
 .intro h;exact⟨h 1 (by omega) (by omega),h 2 (by omega) (by omega),h 3 (by omega) (by omega),h 4 (by omega) (by omega),h 5 (by omega) (by omega)⟩
 .rintro⟨h1,h2,h3,h4,h5⟩ j a b
  have:j=1\/j=2\/j=3\/j=4\/j=5:=by omega
  rcases this with rfl|rfl|rfl|rfl|rfl
  .exact h1
  .exact h2
  .exact h3
  .exact h4
  .exact h5
open Classical in
theorem Zjo(m:Zm)(hm:LeM m):QY m=some (Bo (decide (X8 m)),[]):=by
 obtain⟨xs,ys,n,h1,h2⟩:=Z9N m hm 1 (by omega) (by omega);refine Z8Y _ _ ⟨xs,ys,n,Z8X _ _ h1,?_⟩;rw[Z9O]at h2;by_cases h:X8 m
 .rw[decide_eq_true h,decide_eq_true (h2.2 h)]
 .rw[decide_eq_false h,decide_eq_false (λhc=>h (h2.1 hc))]
abbrev ZW(X:Rs)(p:Prop):Prop:=(p/\X=some (.tup [I 0,.t .nil,.t .nil],[]))\/(¬p/\∃n:Int,n≠0/\((∃xs ys:WA,X=some (.tup [I n,L 1 (xs.map ic),.own 0],[.arr ZU 1 true (ys.map ic)]))\/X=some (.tup [I n,.t .nil,.t .nil],[])\/∃xs:WA,X=some (.tup [I n,L 1 (xs.map ic),.t .nil],[])))
theorem ZW.of{X Y:Rs}{p:Prop}(h:ZW X p)(e:∀r,X=some r->Y=some r):ZW Y p:=by
 rcases h with⟨h,h1⟩|⟨h,n,hn,⟨xs,ys,h1⟩|h1|⟨xs,h1⟩⟩
 .exact .inl ⟨h,e _ h1⟩
 .exact .inr ⟨h,n,hn,.inl ⟨xs,ys,e _ h1⟩⟩
 .exact .inr ⟨h,n,hn,.inr (.inl (e _ h1))⟩
 .exact .inr ⟨h,n,hn,.inr (.inr ⟨xs,e _ h1⟩)⟩
theorem ZW.congr{X:Rs}{p q:Prop}(h:ZW X p)(e:p↔q):ZW X q:=by
 rw[<-e];exact h
theorem Zgm{ts:XS}{j:Nat}(hj:j<ts.length){P:WA->Prop}{p:Prop}:((∀t∈ts.drop j,P t)/\p)↔(P ts[j]/\(∀t∈ts.drop (j+1),P t)/\p):=by
 rw[Yj hj];simp only[Yl,forall_eq_or_imp,and_assoc]
theorem l_rf0(m:Zm)(hl:Le m.Scan.Steps)(ts:XS)(c:∀t∈ts,inT t)(hn:ts.length<=1000)(kind:Int)(hk:kind≠0)(x1 x2:Int)(p:Prop)(hc:ZW (Xh m x1 (w (x2+1))) p):∀j,j<=ts.length->
  ZW (KJ m ts kind x1 x2 ts.length j) ((∀t∈ts.drop j,¬tcl m.Scan t<1)/\p):=by
 refine down _ ?_ ?_
 .refine(hc.of λr hr=>Zyr _ _ _ _ _ _ _ _ (by rw[Yb (by omega)];exact hr)).congr (by simp)
 .intro j hj ih;have h4:=ZL (i:=j) (by omega);have ht:=c _ (Yh hj);simp only[Ybf,Ybg]at ih;have pre:∀r,(if tcl m.Scan ts[j]<1 then some (.tup [I kind,L 1 (ts[j].map ic),.t .nil],[])=some r else KJ m ts kind x1 x2 ts.length ((j:Int)+1)=some r)->KJ m ts kind x1 x2 ts.length j=some r:=by
   intro r hr;refine Zyr _ _ _ _ _ _ _ _ ?_;rw[Ya (by omega)];refine⟨by omega,ts[j],by rw[Yf];exact Yi hj,_,ZaY _ hl ht,?_⟩;rw[show w ((j:Int)+1)=(j:Int)+1 from h4];exact hr
  refine ZW.congr ?_ (Zgm (P:=λt=>¬tcl m.Scan t<1) hj).symm;by_cases h:tcl m.Scan ts[j]<1
  .exact .inr ⟨λhc=>hc.1 h,kind,hk,.inr (.inr ⟨_,pre _ (by rw[Ya h])⟩)⟩
  .exact(ih.of λr hr=>pre r (by rw[Yb h];exact hr)).congr ⟨λhh=>⟨h,hh⟩,λhh=>hh.2⟩
theorem l_rf1(m:Zm)(hm:LeM m)(p:Prop)(hc:ZW (Xh m 5 1) p):ZW (Xh m 5 0) (Wn m.Scan/\p):=by
 have hl:Le m.Scan.Steps:=by obtain⟨h1,h2,h3,h4,h5⟩:=hm;assumption
 have w1:w (1+0)=1:=by decide
 have w2:w (0+1)=1:=by decide
 have pre:∀r,(∃v,XV m.Scan=some (Bo v,[])/\_)->Xh m 5 0=some r:=λr h=>Zde (by rw[Ya (by omega),Ya rfl];exact h)
 rcases tf (Xi m.Scan)with hv|hv
 .refine .inr ⟨λh=>(by have:=h.1.1;rw[hv]at this;cases this),1,by decide,.inr (.inl (pre _ ⟨false,by rw[Vc _ hl,hv],?_⟩))⟩;rw[Yb (by simp),w1]
 rcases Zgl m.Scan hl hv with⟨hd,xs,ys,d1⟩|⟨hd,d1⟩
 .refine .inr ⟨λh=>h.1.2.1 hd,1,by decide,.inl ⟨xs,ys,pre _ ⟨true,by rw[Vc _ hl,hv],?_⟩⟩⟩;rw[Ya rfl,w1];exact .inr ⟨ys,xs,d1,rfl⟩
 .have b:=l_rf0 m hl Wm (λt h=>(Uz t).1 h) (by rw[Zdo];omega) 1 (by decide) 5 0 p (by rw[w2];exact hc) 0 (Yd _);refine(b.of λr hr=>pre r ⟨true,by rw[Vc _ hl,hv],?_⟩).congr ?_
  .rw[Ya rfl,w1];exact .inl ⟨d1,Wm,Zdn,hr⟩
  .simp only[Yo,Uz];constructor
   .rintro⟨h,hp⟩;exact⟨⟨hv,hd,λ⟨t,ht,hc⟩=>h t ht hc⟩,hp⟩
   .rintro⟨h,hp⟩;exact⟨λt ht hc=>h.2.2 ⟨t,ht,hc⟩,hp⟩
theorem l_rf0a(m:Zm)(hl:Le m.Sort_.Steps)(ts:XS)(c:∀t∈ts,inT t)(hn:ts.length<=1000)(kind:Int)(hk:kind≠0)(x1 x2:Int)(p:Prop)(hc:ZW (Xh m x1 (w (x2+1))) p):∀j,j<=ts.length->
  ZW (KK m ts kind x1 x2 ts.length j) ((∀t∈ts.drop j,¬tcl m.Sort_ t<1)/\p):=by
 refine down _ ?_ ?_
 .refine(hc.of λr hr=>Zys _ _ _ _ _ _ _ _ (by rw[Yb (by omega)];exact hr)).congr (by simp)
 .intro j hj ih;have h4:=ZL (i:=j) (by omega);have ht:=c _ (Yh hj);simp only[Ybf,Ybg]at ih;have pre:∀r,(if tcl m.Sort_ ts[j]<1 then some (.tup [I kind,L 1 (ts[j].map ic),.t .nil],[])=some r else KK m ts kind x1 x2 ts.length ((j:Int)+1)=some r)->KK m ts kind x1 x2 ts.length j=some r:=by
   intro r hr;refine Zys _ _ _ _ _ _ _ _ ?_;rw[Ya (by omega)];refine⟨by omega,ts[j],by rw[Yf];exact Yi hj,_,ZaY _ hl ht,?_⟩;rw[show w ((j:Int)+1)=(j:Int)+1 from h4];exact hr
  refine ZW.congr ?_ (Zgm (P:=λt=>¬tcl m.Sort_ t<1) hj).symm;by_cases h:tcl m.Sort_ ts[j]<1
  .exact .inr ⟨λhc=>hc.1 h,kind,hk,.inr (.inr ⟨_,pre _ (by rw[Ya h])⟩)⟩
  .exact(ih.of λr hr=>pre r (by rw[Yb h];exact hr)).congr ⟨λhh=>⟨h,hh⟩,λhh=>hh.2⟩
theorem l_rf1a(m:Zm)(hm:LeM m)(p:Prop)(hc:ZW (Xh m 5 2) p):ZW (Xh m 5 1) (Wn m.Sort_/\p):=by
 have hl:Le m.Sort_.Steps:=by obtain⟨h1,h2,h3,h4,h5⟩:=hm;assumption
 have w1:w (1+1)=2:=by decide
 have w2:w (1+1)=2:=by decide
 have pre:∀r,(∃v,XV m.Sort_=some (Bo v,[])/\_)->Xh m 5 1=some r:=λr h=>Zde (by rw[Ya (by omega),Yb (by omega),Ya rfl];exact h)
 rcases tf (Xi m.Sort_)with hv|hv
 .refine .inr ⟨λh=>(by have:=h.1.1;rw[hv]at this;cases this),2,by decide,.inr (.inl (pre _ ⟨false,by rw[Vc _ hl,hv],?_⟩))⟩;rw[Yb (by simp),w1]
 rcases Zgl m.Sort_ hl hv with⟨hd,xs,ys,d1⟩|⟨hd,d1⟩
 .refine .inr ⟨λh=>h.1.2.1 hd,2,by decide,.inl ⟨xs,ys,pre _ ⟨true,by rw[Vc _ hl,hv],?_⟩⟩⟩;rw[Ya rfl,w1];exact .inr ⟨ys,xs,d1,rfl⟩
 .have b:=l_rf0a m hl Wm (λt h=>(Uz t).1 h) (by rw[Zdo];omega) 2 (by decide) 5 1 p (by rw[w2];exact hc) 0 (Yd _);refine(b.of λr hr=>pre r ⟨true,by rw[Vc _ hl,hv],?_⟩).congr ?_
  .rw[Ya rfl,w1];exact .inl ⟨d1,Wm,Zdn,hr⟩
  .simp only[Yo,Uz];constructor
   .rintro⟨h,hp⟩;exact⟨⟨hv,hd,λ⟨t,ht,hc⟩=>h t ht hc⟩,hp⟩
   .rintro⟨h,hp⟩;exact⟨λt ht hc=>h.2.2 ⟨t,ht,hc⟩,hp⟩
theorem l_rf0b(m:Zm)(hl:Le m.Hash.Steps)(ts:XS)(c:∀t∈ts,inT t)(hn:ts.length<=1000)(kind:Int)(hk:kind≠0)(x1 x2:Int)(p:Prop)(hc:ZW (Xh m x1 (w (x2+1))) p):∀j,j<=ts.length->
  ZW (KL m ts kind x1 x2 ts.length j) ((∀t∈ts.drop j,¬tcl m.Hash t<1)/\p):=by
 refine down _ ?_ ?_
 .refine(hc.of λr hr=>Zyt _ _ _ _ _ _ _ _ (by rw[Yb (by omega)];exact hr)).congr (by simp)
 .intro j hj ih;have h4:=ZL (i:=j) (by omega);have ht:=c _ (Yh hj);simp only[Ybf,Ybg]at ih;have pre:∀r,(if tcl m.Hash ts[j]<1 then some (.tup [I kind,L 1 (ts[j].map ic),.t .nil],[])=some r else KL m ts kind x1 x2 ts.length ((j:Int)+1)=some r)->KL m ts kind x1 x2 ts.length j=some r:=by
   intro r hr;refine Zyt _ _ _ _ _ _ _ _ ?_;rw[Ya (by omega)];refine⟨by omega,ts[j],by rw[Yf];exact Yi hj,_,ZaY _ hl ht,?_⟩;rw[show w ((j:Int)+1)=(j:Int)+1 from h4];exact hr
  refine ZW.congr ?_ (Zgm (P:=λt=>¬tcl m.Hash t<1) hj).symm;by_cases h:tcl m.Hash ts[j]<1
  .exact .inr ⟨λhc=>hc.1 h,kind,hk,.inr (.inr ⟨_,pre _ (by rw[Ya h])⟩)⟩
  .exact(ih.of λr hr=>pre r (by rw[Yb h];exact hr)).congr ⟨λhh=>⟨h,hh⟩,λhh=>hh.2⟩
theorem l_rf1b(m:Zm)(hm:LeM m)(p:Prop)(hc:ZW (Xh m 5 3) p):ZW (Xh m 5 2) (Wn m.Hash/\p):=by
 have hl:Le m.Hash.Steps:=by obtain⟨h1,h2,h3,h4,h5⟩:=hm;assumption
 have w1:w (1+2)=3:=by decide
 have w2:w (2+1)=3:=by decide
 have pre:∀r,(∃v,XV m.Hash=some (Bo v,[])/\_)->Xh m 5 2=some r:=λr h=>Zde (by rw[Ya (by omega),Yb (by omega),Yb (by omega),Ya rfl];exact h)
 rcases tf (Xi m.Hash)with hv|hv
 .refine .inr ⟨λh=>(by have:=h.1.1;rw[hv]at this;cases this),3,by decide,.inr (.inl (pre _ ⟨false,by rw[Vc _ hl,hv],?_⟩))⟩;rw[Yb (by simp),w1]
 rcases Zgl m.Hash hl hv with⟨hd,xs,ys,d1⟩|⟨hd,d1⟩
 .refine .inr ⟨λh=>h.1.2.1 hd,3,by decide,.inl ⟨xs,ys,pre _ ⟨true,by rw[Vc _ hl,hv],?_⟩⟩⟩;rw[Ya rfl,w1];exact .inr ⟨ys,xs,d1,rfl⟩
 .have b:=l_rf0b m hl Wm (λt h=>(Uz t).1 h) (by rw[Zdo];omega) 3 (by decide) 5 2 p (by rw[w2];exact hc) 0 (Yd _);refine(b.of λr hr=>pre r ⟨true,by rw[Vc _ hl,hv],?_⟩).congr ?_
  .rw[Ya rfl,w1];exact .inl ⟨d1,Wm,Zdn,hr⟩
  .simp only[Yo,Uz];constructor
   .rintro⟨h,hp⟩;exact⟨⟨hv,hd,λ⟨t,ht,hc⟩=>h t ht hc⟩,hp⟩
   .rintro⟨h,hp⟩;exact⟨λt ht hc=>h.2.2 ⟨t,ht,hc⟩,hp⟩
theorem l_rf0c(m:Zm)(hl:Le m.Merge.Steps)(ts:XS)(c:∀t∈ts,inT t)(hn:ts.length<=1000)(kind:Int)(hk:kind≠0)(x1 x2:Int)(p:Prop)(hc:ZW (Xh m x1 (w (x2+1))) p):∀j,j<=ts.length->
  ZW (KM m ts kind x1 x2 ts.length j) ((∀t∈ts.drop j,¬tcl m.Merge t<1)/\p):=by
 refine down _ ?_ ?_
 .refine(hc.of λr hr=>Zyu _ _ _ _ _ _ _ _ (by rw[Yb (by omega)];exact hr)).congr (by simp)
 .intro j hj ih;have h4:=ZL (i:=j) (by omega);have ht:=c _ (Yh hj);simp only[Ybf,Ybg]at ih;have pre:∀r,(if tcl m.Merge ts[j]<1 then some (.tup [I kind,L 1 (ts[j].map ic),.t .nil],[])=some r else KM m ts kind x1 x2 ts.length ((j:Int)+1)=some r)->KM m ts kind x1 x2 ts.length j=some r:=by
   intro r hr;refine Zyu _ _ _ _ _ _ _ _ ?_;rw[Ya (by omega)];refine⟨by omega,ts[j],by rw[Yf];exact Yi hj,_,ZaY _ hl ht,?_⟩;rw[show w ((j:Int)+1)=(j:Int)+1 from h4];exact hr
  refine ZW.congr ?_ (Zgm (P:=λt=>¬tcl m.Merge t<1) hj).symm;by_cases h:tcl m.Merge ts[j]<1
  .exact .inr ⟨λhc=>hc.1 h,kind,hk,.inr (.inr ⟨_,pre _ (by rw[Ya h])⟩)⟩
  .exact(ih.of λr hr=>pre r (by rw[Yb h];exact hr)).congr ⟨λhh=>⟨h,hh⟩,λhh=>hh.2⟩
theorem l_rf1c(m:Zm)(hm:LeM m)(p:Prop)(hc:ZW (Xh m 5 4) p):ZW (Xh m 5 3) (Wn m.Merge/\p):=by
 have hl:Le m.Merge.Steps:=by obtain⟨h1,h2,h3,h4,h5⟩:=hm;assumption
 have w1:w (1+3)=4:=by decide
 have w2:w (3+1)=4:=by decide
 have pre:∀r,(∃v,XV m.Merge=some (Bo v,[])/\_)->Xh m 5 3=some r:=λr h=>Zde (by rw[Ya (by omega),Yb (by omega),Yb (by omega),Yb (by omega),Ya rfl];exact h)
 rcases tf (Xi m.Merge)with hv|hv
 .refine .inr ⟨λh=>(by have:=h.1.1;rw[hv]at this;cases this),4,by decide,.inr (.inl (pre _ ⟨false,by rw[Vc _ hl,hv],?_⟩))⟩;rw[Yb (by simp),w1]
 rcases Zgl m.Merge hl hv with⟨hd,xs,ys,d1⟩|⟨hd,d1⟩
 .refine .inr ⟨λh=>h.1.2.1 hd,4,by decide,.inl ⟨xs,ys,pre _ ⟨true,by rw[Vc _ hl,hv],?_⟩⟩⟩;rw[Ya rfl,w1];exact .inr ⟨ys,xs,d1,rfl⟩
 .have b:=l_rf0c m hl Wm (λt h=>(Uz t).1 h) (by rw[Zdo];omega) 4 (by decide) 5 3 p (by rw[w2];exact hc) 0 (Yd _);refine(b.of λr hr=>pre r ⟨true,by rw[Vc _ hl,hv],?_⟩).congr ?_
  .rw[Ya rfl,w1];exact .inl ⟨d1,Wm,Zdn,hr⟩
  .simp only[Yo,Uz];constructor
   .rintro⟨h,hp⟩;exact⟨⟨hv,hd,λ⟨t,ht,hc⟩=>h t ht hc⟩,hp⟩
   .rintro⟨h,hp⟩;exact⟨λt ht hc=>h.2.2 ⟨t,ht,hc⟩,hp⟩
theorem l_rf0d(m:Zm)(hl:Le m.Nested.Steps)(ts:XS)(c:∀t∈ts,inT t)(hn:ts.length<=1000)(kind:Int)(hk:kind≠0)(x1 x2:Int)(p:Prop)(hc:ZW (Xh m x1 (w (x2+1))) p):∀j,j<=ts.length->
  ZW (KN m ts kind x1 x2 ts.length j) ((∀t∈ts.drop j,¬tcl m.Nested t<1)/\p):=by
 refine down _ ?_ ?_
 .refine(hc.of λr hr=>Zyv _ _ _ _ _ _ _ _ (by rw[Yb (by omega)];exact hr)).congr (by simp)
 .intro j hj ih;have h4:=ZL (i:=j) (by omega);have ht:=c _ (Yh hj);simp only[Ybf,Ybg]at ih;have pre:∀r,(if tcl m.Nested ts[j]<1 then some (.tup [I kind,L 1 (ts[j].map ic),.t .nil],[])=some r else KN m ts kind x1 x2 ts.length ((j:Int)+1)=some r)->KN m ts kind x1 x2 ts.length j=some r:=by
   intro r hr;refine Zyv _ _ _ _ _ _ _ _ ?_;rw[Ya (by omega)];refine⟨by omega,ts[j],by rw[Yf];exact Yi hj,_,ZaY _ hl ht,?_⟩;rw[show w ((j:Int)+1)=(j:Int)+1 from h4];exact hr
  refine ZW.congr ?_ (Zgm (P:=λt=>¬tcl m.Nested t<1) hj).symm;by_cases h:tcl m.Nested ts[j]<1
  .exact .inr ⟨λhc=>hc.1 h,kind,hk,.inr (.inr ⟨_,pre _ (by rw[Ya h])⟩)⟩
  .exact(ih.of λr hr=>pre r (by rw[Yb h];exact hr)).congr ⟨λhh=>⟨h,hh⟩,λhh=>hh.2⟩
theorem l_rf1d(m:Zm)(hm:LeM m)(p:Prop)(hc:ZW (Xh m 5 5) p):ZW (Xh m 5 4) (Wn m.Nested/\p):=by
 have hl:Le m.Nested.Steps:=by obtain⟨h1,h2,h3,h4,h5⟩:=hm;assumption
 have w1:w (1+4)=5:=by decide
 have w2:w (4+1)=5:=by decide
 have pre:∀r,(∃v,XV m.Nested=some (Bo v,[])/\_)->Xh m 5 4=some r:=λr h=>Zde (by rw[Ya (by omega),Yb (by omega),Yb (by omega),Yb (by omega),Yb (by omega),Ya rfl];exact h)
 rcases tf (Xi m.Nested)with hv|hv
 .refine .inr ⟨λh=>(by have:=h.1.1;rw[hv]at this;cases this),5,by decide,.inr (.inl (pre _ ⟨false,by rw[Vc _ hl,hv],?_⟩))⟩;rw[Yb (by simp),w1]
 rcases Zgl m.Nested hl hv with⟨hd,xs,ys,d1⟩|⟨hd,d1⟩
 .refine .inr ⟨λh=>h.1.2.1 hd,5,by decide,.inl ⟨xs,ys,pre _ ⟨true,by rw[Vc _ hl,hv],?_⟩⟩⟩;rw[Ya rfl,w1];exact .inr ⟨ys,xs,d1,rfl⟩
 .have b:=l_rf0d m hl Wm (λt h=>(Uz t).1 h) (by rw[Zdo];omega) 5 (by decide) 5 4 p (by rw[w2];exact hc) 0 (Yd _);refine(b.of λr hr=>pre r ⟨true,by rw[Vc _ hl,hv],?_⟩).congr ?_
  .rw[Ya rfl,w1];exact .inl ⟨d1,Wm,Zdn,hr⟩
  .simp only[Yo,Uz];constructor
   .rintro⟨h,hp⟩;exact⟨⟨hv,hd,λ⟨t,ht,hc⟩=>h t ht hc⟩,hp⟩
   .rintro⟨h,hp⟩;exact⟨λt ht hc=>h.2.2 ⟨t,ht,hc⟩,hp⟩
open Classical in
theorem ZpK(m:Zm)(hm:LeM m):QR m=some (Bo (decide (X8 m)),[]):=by
 have h5:ZW (Xh m 5 5) True:=.inl ⟨trivial,Zde (by rw[Yb (by omega)])⟩;have h0:=l_rf1 m hm _ (l_rf1a m hm _ (l_rf1b m hm _ (l_rf1c m hm _ (l_rf1d m hm _ h5))));have hop:VE m=some (.bsl 1 5,[.box (m.c.map .t),.box [.ptr 0 0,.ptr 0 6,.ptr 0 12,.ptr 0 18,.ptr 0 24]]):=Zyk _ _ rfl;have hR:ZW (Zc3 m) (X8 m):=(h0.of λr hr=>Z8h _ _ ⟨hop,hr⟩).congr (by simp[X8]);refine Z8i _ _ ?_;rcases hR with⟨h,h1⟩|⟨h,n,hn,⟨xs,ys,h1⟩|h1|⟨xs,h1⟩⟩
 .rw[decide_eq_true h];exact .inr (.inl ⟨0,h1,rfl⟩)
 .rw[decide_eq_false h];exact .inl ⟨ys,n,xs,h1,by rw[decide_eq_false hn]⟩
 .rw[decide_eq_false h];exact .inr (.inl ⟨n,h1,by rw[decide_eq_false hn]⟩)
 .rw[decide_eq_false h];exact .inr (.inr ⟨n,xs,h1,by rw[decide_eq_false hn]⟩)
def XK(x:Int):Nat:=(if andI (shrI x 0) 1=1 then 1 else 0)+(if andI (shrI x 1) 1=1 then 1 else 0)+(if andI (shrI x 2) 1=1 then 1 else 0)+(if andI (shrI x 3) 1=1 then 1 else 0)
abbrev M16(x:Int):Prop:=0<=x/\x<16
theorem m16{x:Int}(h:M16 x):∃a:Fin 16,x=(a.1:Int):=⟨⟨x.toNat,by omega⟩,by simp;omega⟩
set_option maxRecDepth 100000 in
theorem f_or:∀a b:Fin 16,M16 (orI a.1 b.1)/\andI a.1 (orI a.1 b.1)=a.1/\(orI a.1 b.1=a.1\/XK a.1+1<=XK (orI a.1 b.1)):=by decide
set_option maxRecDepth 100000 in
theorem f_and:∀a b:Fin 16,M16 (andI a.1 b.1)/\andI (andI a.1 b.1) b.1=andI a.1 b.1/\(andI (a.1:Int) b.1=a.1->XK a.1<=XK b.1/\(XK b.1<=XK a.1->a.1=b.1)):=by decide
set_option maxRecDepth 1000000 in
theorem f_sub:∀a b c:Fin 16,andI (a.1:Int) c.1=a.1->andI (b.1:Int) c.1=b.1->andI (orI a.1 b.1) c.1=orI a.1 b.1:=by decide
set_option maxRecDepth 100000 in
theorem f_bit:∀(a:Fin 16) (i:Fin 4),(andI (shrI a.1 i.1) 1=0↔¬andI (shrI a.1 i.1) 1=1):=by decide
set_option maxRecDepth 100000 in
theorem f_low:∀a:Fin 16,M16 (andI a.1 (w (0-a.1)))/\andI (andI a.1 (w (0-a.1))) a.1=andI a.1 (w (0-(a.1:Int))):=by decide
set_option maxRecDepth 100000 in
theorem f_pop:∀(a:Fin 16),(a.1<2->XK a.1<=1)/\(a.1<4->XK a.1<=2)/\(a.1<8->XK a.1<=3)/\XK a.1<=4:=by decide
theorem f_bits:∀a b c d:Bool,M16 (ZQ a b c d):=by decide
def Vw(qa:List Zc)(m:Int):Nat->Bool:=λi=>decide (i<qa.length) && (!Zx m i && shr qa (shlI 1 i) m)
def Zdq(qa:List Zc)(m:Int):Int:=ZH (Vw qa m)
theorem Z9P(qa:List Zc)(m:Int):M16 (Zdq qa m):=f_bits _ _ _ _
theorem ZpL{m:Int}(hm:M16 m){i:Nat}(hi:i<4):andI (shrI m i) 1=0↔Zx m i=false:=by
 obtain⟨a,rfl⟩:=m16 hm;have:=f_bit a ⟨i,hi⟩;simp only at this;rw[this,Zx,decide_eq_false_iff_not]
theorem Z9Q{qa:List Zc}{m:Int}{i:Nat}(hi:i<4)(h:Vw qa m i=true):Xw (λu=>decide (u<i) && Vw qa m u) [(i:Int)]=λu=>decide (u<i+1) && Vw qa m u:=by
 funext u;simp only[Xw,has];by_cases e:u=i
 .subst e;rw[decide_eq_true (by omega:u<u+1),h];simp
 .by_cases e2:u<i
  .rw[decide_eq_true e2,decide_eq_true (by omega)]
   have:¬((u:Int)=(i:Int)):=by omega
   simp[this]
  .rw[decide_eq_false e2,decide_eq_false (by omega)]
   have:¬((u:Int)=(i:Int)):=by omega
   simp[this]
theorem Zzz{qa:List Zc}{m:Int}{i:Nat}(h:Vw qa m i=false):(λu=>decide (u<i) && Vw qa m u)=λu=>decide (u<i+1) && Vw qa m u:=by
 funext u;by_cases e:u=i
 .subst e;rw[h];simp
 .by_cases e2:u<i
  .rw[decide_eq_true e2,decide_eq_true (by omega)]
  .rw[decide_eq_false e2,decide_eq_false (by omega)]
theorem Z9R(qa:List Zc)(m:Int):(λu=>decide (u<qa.length) && Vw qa m u)=Vw qa m:=by
 funext u;unfold Vw;by_cases e:u<qa.length
 .rw[decide_eq_true e];simp
 .rw[decide_eq_false e];simp
theorem l_near(q:Ze)(hq:LeQ q)(hv:Zu q.Zk q.Atoms=true)(m:Int)(hm:M16 m):∀i,i<=q.Atoms.length->
  JJ q m (ZH λu=>decide (u<i) && Vw q.Atoms m u) (ZH (pV m q.Atoms)) i=some (I (Zdq q.Atoms m),[]):=by
 have h4:=(Xx hv).2;refine down _ ?_ ?_
 .refine Zxc _ _ _ _ _ _ ?_;rw[Yb (by omega),Z9R];rfl
 .intro i hi ih;have hi4:i<4:=by omega
  have hinc:=ZL (i:=i) (by omega);simp only[Ybf,Ybg]at ih;refine Zxc _ _ _ _ _ _ ?_;rw[Ya (by omega)];refine⟨by omega,?_⟩;rw[show w ((i:Int)+1)=(i:Int)+1 from hinc];have hn:Vw q.Atoms m i=(!Zx m i && shr q.Atoms (shlI 1 i) m):=by
   unfold Vw;rw[decide_eq_true hi];simp
  rcases tf (Zx m i)with e1|e1
  .rw[Ya ((ZpL hm hi4).2 e1)];refine⟨_,ZaV q (shlI 1 i) hq (K1 hv),?_⟩;rcases tf (shr q.Atoms (shlI 1 i) m)with e2|e2
   .rw[Ya ((ZkQ q.Atoms (shlI 1 i) m).2 e2),Zzz (by rw[hn,e2];simp)];exact ih
   .rw[Yb (λhc=>by rw[(ZkQ q.Atoms (shlI 1 i) m).1 hc]at e2;cases e2),ZkN _ (by simp[inR];omega),Z9Q hi4 (by rw[hn,e1,e2];rfl)];exact ih
  .rw[Yb (λhc=>by rw[(ZpL hm hi4).1 hc]at e1;cases e1),Zzz (by rw[hn,e1];rfl)];exact ih
theorem x_near(q:Ze)(hq:LeQ q)(hv:Zu q.Zk q.Atoms=true)(m:Int)(hm:M16 m):Zh2 q m=some (I (Zdq q.Atoms m),[]):=by
 have b:=l_near q hq hv m hm 0 (Yd _);refine Z6T _ _ _ ⟨_,ZaV q m hq (K1 hv),?_⟩;simpa[ZH,ZQ]using b
def Jg(qa:List Zc)(c x:Int):Int:=orI x (andI (Zdq qa x) c)
def Zdr(qa:List Zc)(c:Int):Nat->Int->Int
 |0,x=>x
 |n+1,x=>Zdr qa c n (Jg qa c x)
def UX(qa:List Zc)(c:Int):Bool:=decide (Zdr qa c qa.length (andI c (w (0-c)))=c)
abbrev SubM(x mask:Int):Prop:=andI x mask=x
theorem Z9S{qa:List Zc}{mask x:Int}(hm:M16 mask)(hx:M16 x)(hs:SubM x mask):M16 (Jg qa mask x)/\SubM (Jg qa mask x) mask/\(Jg qa mask x=x\/XK x+1<=XK (Jg qa mask x)):=by
 obtain⟨a,rfl⟩:=m16 hx;obtain⟨b,rfl⟩:=m16 hm;obtain⟨c,hc⟩:=m16 (Z9P qa (a.1:Int));unfold Jg;rw[hc];obtain⟨d1,d2,_⟩:=f_and c b;obtain⟨d,hd⟩:=m16 d1;rw[hd]at d2|-;obtain⟨e1,_,e3⟩:=f_or a d;exact⟨e1,f_sub a d b hs d2,e3⟩
theorem Z9T(q:Ze)(hq:LeQ q)(hv:Zu q.Zk q.Atoms=true)(c:Int)(hm:M16 c):∀i,i<=q.Atoms.length->∀x,M16 x->SubM x c->
  Ze4 q c x i=some (Bo (decide (Zdr q.Atoms c (q.Atoms.length-i) x=c)),[]):=by
 have h4:=(Xx hv).2;refine down _ ?_ ?_
 .intro x _ _;refine Zxd _ _ _ _ _ ?_;rw[Yb (by omega),Yc5];rfl
 .intro i hi ih x hx hs;obtain⟨s1,s2,s3⟩:=Z9S (qa:=q.Atoms) hm hx hs;have hinc:=ZL (i:=i) (by omega);refine Zxd _ _ _ _ _ ?_;rw[Ya (by omega)];refine⟨_,x_near q hq hv x hx,?_⟩;have ih:=ih _ s1 s2;simp only[Ybf,Ybg]at ih;rw[show w ((i:Int)+1)=(i:Int)+1 from hinc,show q.Atoms.length-i=(q.Atoms.length-(i+1))+1 by omega,Zdr];exact ih
abbrev MQ(qa:List Zc)(m:Int):Prop:=0<=m/\m<2 ^ qa.length
theorem MQ.m16{n:Int}{qa:List Zc}{m:Int}(hv:Zu n qa=true)(h:MQ qa m):M16 m/\XK m<=qa.length:=by
 have hl:=Xx hv;obtain⟨h1,h2⟩:=h;have e:qa.length=1\/qa.length=2\/qa.length=3\/qa.length=4:=by omega
 have k16:M16 m:=by rcases e with e|e|e|e<;>rw[e]at h2<;>exact⟨h1,by omega⟩
 refine⟨k16,?_⟩;obtain⟨a,rfl⟩:=Go.Proofs.YtgbipcfdgfjplaaGreat.m16 k16;obtain⟨p1,p2,p3,p4⟩:=f_pop a;rcases e with e|e|e|e<;>rw[e]at h2|-
 .exact p1 (by omega)
 .exact p2 (by omega)
 .exact p3 (by omega)
 .exact p4
theorem ZpM(q:Ze)(hq:LeQ q)(hv:Zu q.Zk q.Atoms=true)(m:Int)(hm:MQ q.Atoms m):ZbQ q m=some (Bo (UX q.Atoms m),[]):=by
 obtain⟨k1,k2⟩:=hm.m16 hv;refine Z6U _ _ _ ?_;obtain⟨a,rfl⟩:=m16 k1;obtain⟨l1,l2⟩:=f_low a;exact Z9T q hq hv _ k1 0 (Yd _) _ l1 l2
theorem Zjp{n:Int}{qa:List Zc}(hv:Zu n qa=true):We n qa=2 ^ qa.length-1:=by
 unfold We;rw[Ya hv,(Zhm hv).2.1]
theorem Zz0(q:Ze)(hq:LeQ q)(m:Int):ZbO q m=some (Bo (Zu q.Zk q.Atoms && inR m 0 (We q.Zk q.Atoms)),[]):=by
 refine Zxa _ _ _ ⟨_,ZaU q hq,?_⟩;rcases tf (Zu q.Zk q.Atoms)with e|e
 .rw[e];simp
 .rw[e,Ya rfl];refine⟨by omega,_,XD _ _ _,?_⟩;rw[show w (shlI 1 (q.Atoms.length:Int)-1)=shlI 1 (q.Atoms.length:Int)-1 from(Zhm e).2.2.1];unfold We;rw[Ya e];simp
theorem Zz1{n:Int}{qa:List Zc}(hv:Zu n qa=true){m:Int}(h:inR m 0 (We n qa)=true):MQ qa m:=by
 rw[Zjp hv]at h;simp[inR]at h;exact⟨h.1,by omega⟩
def Jh(n:Int)(qa:List Zc)(m:Int):Bool:=Zu n qa && inR m 0 (We n qa) && decide (m≠0) && UX qa m
theorem Zz2(q:Ze)(hq:LeQ q)(m:Int):Zh3 q m=some (Bo (Jh q.Zk q.Atoms m),[]):=by
 refine Z6V _ _ _ ⟨_,Zz0 q hq m,?_⟩;unfold Jh;rcases tf (Zu q.Zk q.Atoms)with e|e
 .rw[e];simp
 rcases tf (inR m 0 (We q.Zk q.Atoms))with e1|e1
 .rw[e,e1];simp
 rw[e,e1,Ya (by rfl)];have hm:=Zz1 e e1;by_cases h0:m=0
 .rw[Yb (by omega)];simp[h0]
 .rw[Ya (by have:=hm.1;omega)];exact⟨_,ZpM q hq e m hm,by simp[h0]⟩
def Q0(qa:List Zc)(c x:Int):Bool:=decide (andI x c=x) && (UX qa x && UX qa (c-x))
def Kg(qa:List Zc)(c:Int)(k n:Nat):WA:=((List.range' k n).filter (λm:Nat=>Q0 qa c (m:Int))).map (λm:Nat=>(m:Int))
theorem Z9U{qa:List Zc}{mask:Int}{k n:Nat}:Kg qa mask k (n+1)=(if Q0 qa mask (k:Int)=true then[(k:Int)]else[])++Kg qa mask (k+1) n:=by
 unfold Kg;rw[Ycl,Ycc];split<;>simp
def U0(qa:List Zc)(c:Int):WA:=Kg qa c 1 (c.toNat-1)
theorem Z9V(q:Ze)(hq:LeQ q)(hv:Zu q.Zk q.Atoms=true)(c:Nat)(hm:MQ q.Atoms c):∀k:Nat,k<=c->1<=k->∀out:WA,out.length<=k->
  QK q out c k=some (.own 0,[.arr ZU 1 true ((out++Kg q.Atoms c k (c-k)).map ic)]):=by
 have m16':=(hm.m16 hv).1;refine down _ ?_ ?_
 .intro _ out _;refine Zxe _ _ _ _ _ ?_;rw[Yb (by omega),Yc5];simp[Kg]
 .intro k hk ih h1 out ho;have wk':w ((k:Int)+1)=(k:Int)+1:=ZD (by omega) (by omega);have wd:w ((c:Int)-k)=(c:Int)-k:=ZD (by omega) (by omega);refine Zxe _ _ _ _ _ ?_;rw[Ya (by omega),show c-k=(c-(k+1))+1 by omega,Z9U,wk',wd];have skip:Q0 q.Atoms c k=false->QK q out c ((k:Int)+1)=some (.own 0,[.arr ZU 1 true ((out++((if Q0 q.Atoms c (k:Int)=true then[(k:Int)]else[])++Kg q.Atoms c (k+1) (c-(k+1)))).map ic)]):=by
   intro e;have ih:=ih (by omega) out (by omega);rw[e];simpa using ih
  by_cases e1:andI (k:Int) c=k
  .rw[Ya e1];refine⟨_,ZpM q hq hv k ⟨by omega,by have:=hm.2;omega⟩,?_⟩;rcases tf (UX q.Atoms k)with e2|e2
   .rw[e2,Yb (by simp)];exact skip (by simp[Q0,e2])
   .rw[e2,Ya rfl];refine⟨_,ZpM q hq hv ((c:Int)-k) ⟨by omega,by have:=hm.2;omega⟩,?_⟩;rcases tf (UX q.Atoms ((c:Int)-k))with e3|e3
    .rw[e3,Yb (by simp)];exact skip (by simp[Q0,e3])
    .rw[e3,Ya rfl];have es:Q0 q.Atoms c k=true:=by simp[Q0,e1,e2,e3]
     rw[es,Ya rfl];have ih:=ih (by omega) (out++[(k:Int)]) (by simp;omega);exact⟨by omega,by simpa using ih⟩
  .rw[Yb e1];exact skip (by simp[Q0,e1])
theorem Zz3(q:Ze)(hq:LeQ q)(m:Int)(hc:Jh q.Zk q.Atoms m=true):JK q m=some (.own 0,[.arr ZU 1 true ((U0 q.Atoms m).map ic)]):=by
 have hc':=hc;simp only[Jh,Ye,decide_eq_true_eq]at hc';obtain⟨⟨⟨hv,hr⟩,h0⟩,_⟩:=hc';have hm:=Zz1 hv hr;obtain⟨k,rfl⟩:∃k:Nat,m=k:=⟨m.toNat,by have:=hm.1;omega⟩;refine Zxf _ _ _ ⟨_,Zz2 q hq k,?_⟩;rw[hc,Ya rfl];have b:=Z9V q hq hv k hm 1 (by omega) (Yg _) [] (by simp);simpa[U0]using b
def Zds(m:Int)(k n:Nat):WA:=((List.range' k n).filter (λi:Nat=>Zx m i)).map (λi:Nat=>(i:Int))
theorem Z9W{m:Int}{k n:Nat}:Zds m k (n+1)=(if Zx m k=true then[(k:Int)]else[])++Zds m (k+1) n:=by
 unfold Zds;rw[Ycl,Ycc];split<;>simp
def ZpN(m:Int):WA:=Zds m 0 4
theorem Z9X(m:Int)(hm:M16 m):∀k:Nat,k<=4->∀out:WA,out.length<=k->JL out m k=some (.own 0,[.arr ZU 1 true ((out++Zds m k (4-k)).map ic)]):=by
 refine down _ ?_ ?_
 .intro out _;refine Zxg _ _ _ _ ?_;rw[Yb (by omega)];simp[Zds]
 .intro k hk ih out ho;have wk':w ((k:Int)+1)=(k:Int)+1:=ZD (by omega) (by omega);refine Zxg _ _ _ _ ?_;rw[Ya (by omega),show 4-k=(4-(k+1))+1 by omega,Z9W,wk'];refine⟨_,XD _ _ _,?_⟩;rw[Ya (by simp[inR];omega)];refine⟨by omega,?_⟩;by_cases e:andI (shrI m k) 1=1
  .have ih:=ih (out++[(k:Int)]) (by simp;omega);rw[Ya e,Ya (by simp[Zx,e])];exact⟨by omega,by simpa using ih⟩
  .have ih:=ih out (by omega);rw[Yb e,Yb (by simp[Zx,e])];simpa using ih
theorem Zz4{m:Int}(hm:M16 m):Ze5 m=some (.own 0,[.arr ZU 1 true ((ZpN m).map ic)]):=by
 have b:=Z9X m hm 0 (by omega) [] (by simp);exact Z6W _ _ (by simpa[ZpN]using b)
abbrev ZI(q:Ze)(m:Int):WA:=Z9 m q.Atoms q.Zk.toNat
def Zdt(q:Ze)(a b:Int):WA:=(ZI q a).filter (has (ZI q b))
theorem ZpO(q:Ze)(hv:Zu q.Zk q.Atoms=true)(m:Int):(ZI q m).length<=4:=by
 have:=J8 m q.Atoms q.Zk.toNat;have:=UC hv;unfold ZI;omega
theorem Z9Y(p:Nat->Bool):∀k:Nat,k<=4->∀out:WA,out.length<=k->JM out (ZH p) k=some (.own 0,[.arr ZU 1 true ((out++((List.range' k (4-k)).filter p).map (λu:Nat=>(u:Int))).map ic)]):=by
 refine down _ ?_ ?_
 .intro out _;refine Zjc _ _ _ _ ?_;rw[Yb (by omega)];simp
 .intro k hk ih out ho;have wk':w ((k:Int)+1)=(k:Int)+1:=ZD (by omega) (by omega);have hb:=Zhj p (v:=(k:Int)) (by simp[inR];omega);rw[Yf]at hb;refine Zjc _ _ _ _ ?_;rw[Ya (by omega),show 4-k=(4-(k+1))+1 by omega,Ycl,Ycc,wk'];refine⟨by omega,?_⟩;rcases tf (p k)with e|e
  .have ih:=ih out (by omega);rw[Yb (λhc=>by rw[hb.1 hc]at e;cases e),e,Yb (by simp)];simpa using ih
  .have ih:=ih (out++[(k:Int)]) (by simp;omega);rw[Ya (hb.2 e),e,Ya rfl];exact⟨by omega,by simpa using ih⟩
theorem vars4(q:Ze)(hv:Zu q.Zk q.Atoms=true)(m:Int):((List.range' 0 4).filter (pV m q.Atoms)).map (λu:Nat=>(u:Int))=ZI q m:=by
 have hn:=UC hv;have e:List.range' 0 4=List.range q.Zk.toNat++List.range' q.Zk.toNat (4-q.Zk.toNat):=by
  have h:=List.range'_append_1 (s:=0) (m:=q.Zk.toNat) (n:=4-q.Zk.toNat);rw[Yq]at h;rw[Yd5,h];congr 1;omega
 unfold ZI Z9;rw[e,Ydd];have e2:(List.range' q.Zk.toNat (4-q.Zk.toNat)).filter (pV m q.Atoms)=[]:=by
  rw[Yd1];intro u hu hp;have:=ZkP hv hp;rw[List.mem_range'_1]at hu;omega
 rw[e2];simp
theorem ZpP(q:Ze)(hq:LeQ q)(hv:Zu q.Zk q.Atoms=true)(m:Int)(hm:MQ q.Atoms m):UE q m=some (.own 0,[.arr ZU 1 true ((ZI q m).map ic)]):=by
 have b:=Z9Y (pV m q.Atoms) 0 (by omega) [] (by simp);rw[show 4-0=4 from rfl,vars4 q hv m]at b;refine Zxi _ _ _ ⟨_,Zz0 q hq m,?_⟩
 have:inR m 0 (We q.Zk q.Atoms)=true:=by rw[Zjp hv];simp[inR];have:=hm.1;have:=hm.2;omega
 rw[hv,this,Ya (by rfl)];exact⟨_,ZaV q m hq (K1 hv),_,Zxh _ _ (by simpa using b),rfl⟩
theorem Z9Z(x y:WA)(hy:Le y)(hx:x.length<=1000):∀i,i<=x.length->ZbS ((x.take i).filter (has y)) x y i=some (.own 0,[.arr ZU 1 true ((x.filter (has y)).map ic)]):=by
 refine down _ ?_ ?_
 .refine Zxj _ _ _ _ _ ?_;rw[Yb (by omega)];simp
 .intro i hi ih;have h4:=ZL (i:=i) (by omega);have e4:((x.take i).filter (has y)).length+1<=68719476736:=by
   have:=Ybz (has y) (x.take i);simp at this;omega
  rw[ZsE _ hi]at ih;refine Zxj _ _ _ _ _ ?_;rw[Ya (by omega)];refine⟨by omega,x[i],by rw[Yf];exact Yi hi,_,Zdg y x[i] hy,?_⟩;rw[show w ((i:Int)+1)=(i:Int)+1 from h4];rcases tf (has y x[i])with e|e
  .rw[e,Yb (by simp)];rw[e]at ih;simpa using ih
  .rw[e,Ya rfl];rw[e]at ih;exact⟨e4,by simpa using ih⟩
theorem ZAa(q:Ze)(hq:LeQ q)(hv:Zu q.Zk q.Atoms=true)(a b:Int)(ha:MQ q.Atoms a)(hb:MQ q.Atoms b):Ze6 q a b=some (.own 0,[.arr ZU 1 true ((Zdt q a b).map ic)]):=by
 have l1:=ZpO q hv a;have l2:=ZpO q hv b;have c:=Z9Z (ZI q a) (ZI q b) (by omega) (by omega) 0 (Yd _);exact Z6Z _ _ _ _ ⟨_,ZpP q hq hv a ha,_,ZpP q hq hv b hb,by simpa[Zdt]using c⟩
theorem XL{x:Int}(h1:-9223372036854775808<=x)(h2:x<=9223372036854775807):w x=x:=ZD h1 h2
theorem Zz5{a b c:Int}:inR a b c=true↔b<=a/\a<=c:=by simp[inR]
def GC(c:Zf):Prop:=0<=c.i/\c.i<=c.b.length/\c.b.length<=1048576
abbrev cB(c:Zf):Blk:=.box (c.c.map .t)
theorem Zz6(x:Int):0<=andI x 255/\andI x 255<=255:=by
 unfold andI;have h:(BitVec.ofInt 64 x &&& BitVec.ofInt 64 255).toNat<=255:=by
  rw[BitVec.toNat_and];exact Yu Nat.and_le_right (by decide)
 rw[show IntKind.wrap .i64 ((BitVec.ofInt 64 x &&& BitVec.ofInt 64 255).toNat:Int)=_ from XL (by omega) (by omega)];omega
theorem ZAb(code:WA)(hl:code.length<=1048576):∀i,i<=code.length->∀h1:Int,∃c,Zek code h1 i=some (.ptr 0 0,[cB c])/\GC c:=by
 refine down _ ?_ ?_
 .intro h1;refine⟨⟨code,0,h1⟩,Zpo _ _ _ _ ?_,by simp[GC];exact hl⟩;rw[Yb (by omega)];rfl
 .intro i hi ih h1;by_cases h4:(i:Int)<4000
  .obtain⟨c,e,g⟩:=ih (andI (w ((w ((w (h1*131))+(w code[i])))+7)) 1073741823);refine⟨c,Zpo _ _ _ _ ?_,g⟩;rw[Ya (by omega),Ya h4];refine⟨by omega,code[i],by simp[hi],?_⟩;rw[show w ((i:Int)+1)=((i+1:Nat):Int)from XL (by omega) (by omega)];exact e
  .refine⟨⟨code,0,h1⟩,Zpo _ _ _ _ ?_,by simp[GC];exact hl⟩;rw[Ya (by omega),Yb h4];rfl
theorem ZAc(code:WA)(hl:code.length<=1048576):∃c,Zej code=some (.ptr 0 0,[cB c])/\GC c:=by
 obtain⟨c,e,g⟩:=ZAb code hl 0 (Yd _) (w (10101+(code.length:Int)));exact⟨c,Z6C _ _ e,g⟩
theorem Zgn{c:Zf}(g:GC c):∃c' n,K2 c=some (I n,[cB c'])/\GC c'/\0<=n/\n<=255:=by
 by_cases h:c.i<(c.b.length:Int)
 .obtain⟨i,hi⟩:∃i:Nat,c.i=i:=⟨c.i.toNat,by have:=g.1;omega⟩;have hl:i<c.b.length:=by omega
  refine⟨⟨c.b,w (c.i+1),w ((w (c.h*6364136223846793005))+1442695040888963407)⟩,andI (w ((andI (xorI (shrI (w ((w (c.h*6364136223846793005))+1442695040888963407)) 33) (shrI (w ((w (c.h*6364136223846793005))+1442695040888963407)) 45)) 255)+(w c.b[i]))) 255,ZwG _ _ ?_,?_,Zz6 _⟩
  .rw[Ya h];exact⟨g.1,c.b[i],by simp[hi,hl],rfl⟩
  .have:=g.2.2;rw[show w (c.i+1)=c.i+1 from XL (by omega) (by omega)];exact⟨by show 0<=c.i+1;omega,by show c.i+1<=(c.b.length:Int);omega,this⟩
 .refine⟨⟨c.b,c.i,w ((w (c.h*6364136223846793005))+1442695040888963407)⟩,andI (xorI (shrI (w ((w (c.h*6364136223846793005))+1442695040888963407)) 33) (shrI (w ((w (c.h*6364136223846793005))+1442695040888963407)) 45)) 255,ZwG _ _ ?_,g,Zz6 _⟩;rw[Yb h];rfl
theorem ZZ{c:Zf}(g:GC c)(a:Int):∃c' n,Z7 c a=some (I n,[cB c'])/\GC c'/\0<=n/\(0<a->n<a):=by
 by_cases h:a<=0
 .exact⟨c,0,Zpp _ _ _ (by rw[Ya h]),g,by omega,by omega⟩
 .by_cases ha:a<=256
  .obtain⟨c',n,e,g',h1,h2⟩:=Zgn g;refine⟨c',Int.tmod n a,Zpp _ _ _ ?_,g',Int.tmod_nonneg _ h1,λ_=>Int.tmod_lt_of_pos _ (by omega)⟩;rw[Yb h,Ya ha];exact⟨c',n,e,by omega,rfl⟩
  .obtain⟨c1,n1,e1,g1,k1,k2⟩:=Zgn g;obtain⟨c2,n2,e2,g2,k3,k4⟩:=Zgn g1;obtain⟨c3,n3,e3,g3,k5,k6⟩:=Zgn g2;obtain⟨c4,n4,e4,g4,k7,k8⟩:=Zgn g3;have q:w ((w ((w ((w (n1*16777216))+(w (n2*65536))))+(w (n3*256))))+n4)=n1*16777216+n2*65536+n3*256+n4:=by
    rw[XL (x:=n1*16777216) (by omega) (by omega),XL (x:=n2*65536) (by omega) (by omega),XL (x:=n3*256) (by omega) (by omega),XL (x:=n1*16777216+n2*65536) (by omega) (by omega),XL (x:=n1*16777216+n2*65536+n3*256) (by omega) (by omega),XL (by omega) (by omega)]
   refine⟨c4,Int.tmod (n1*16777216+n2*65536+n3*256+n4) a,Zpp _ _ _ ?_,g4,Int.tmod_nonneg _ (by omega),λ_=>Int.tmod_lt_of_pos _ (by omega)⟩;rw[Yb h,Yb ha];exact⟨c1,n1,e1,c2,n2,e2,c3,n3,e3,c4,n4,e4,by omega,by rw[q]⟩
theorem U1{c:Zf}(g:GC c)(a:Int):∃c' b,XC c a=some (Bo b,[cB c'])/\GC c':=by
 obtain⟨c',n,e,g',_⟩:=ZZ g a;exact⟨c',_,Z6D _ _ _ ⟨c',n,e,rfl⟩,g'⟩
theorem Ji{α:Type}{l:List α}{n:Int}(h0:0<=n)(h1:n<l.length):∃e,l[n.toNat]?=some e/\e∈l:=by
 have h:n.toNat<l.length:=by omega
 exact⟨l[n.toNat],by simp[h],Yh h⟩
theorem Uc{c:Zf}(g:GC c)(l:WA)(h0:l≠[])(hl:l.length<=256):∃c' e,XU c l=some (I e,[cB c',.arr ZU 1 true (l.map ic)])/\GC c'/\e∈l:=by
 have hp:0<l.length:=Yc1.2 h0;obtain⟨c',n,e,g',h1,h2⟩:=ZZ g l.length;obtain⟨y,hy,hm⟩:=Ji h1 (h2 (by omega));exact⟨c',y,Z6F _ _ _ ⟨c',n,e,h1,y,hy,rfl⟩,g',hm⟩
theorem ZAd{c:Zf}(g:GC c)(l:WA)(h0:l≠[])(hl:l.length<=256):∃c' e,ZhJ c l=some (I e,[cB c'])/\GC c'/\e∈l:=by
 have hp:0<l.length:=Yc1.2 h0;obtain⟨c',n,e,g',h1,h2⟩:=ZZ g l.length;obtain⟨y,hy,hm⟩:=Ji h1 (h2 (by omega));exact⟨c',y,Z7n _ _ _ ⟨c',n,e,h1,y,hy,rfl⟩,g',hm⟩
theorem Zz7{c:Zf}(g:GC c)(l:List V5)(h0:l≠[])(hl:l.length<=256):∃c' e,JF c l=some (.t (.str e),[cB c',.arr Z34 1 true (l.map sc)])/\GC c'/\e∈l:=by
 have hp:0<l.length:=Yc1.2 h0;obtain⟨c',n,e,g',h1,h2⟩:=ZZ g l.length;obtain⟨y,hy,hm⟩:=Ji h1 (h2 (by omega));exact⟨c',y,Z6K _ _ _ ⟨c',n,e,h1,y,hy,rfl⟩,g',hm⟩
theorem Zdu{c:Zf}(g:GC c):∃c' a1 a2 a3 a4 a5,∃l:List Zp,QF c=some (.agg [I a1,I a2,I a3,I a4,I a5,.own 1],[cB c',.arr 179 2 true (l.map Zp.c)])/\GC c'/\l.length<=1:=by
 obtain⟨c1,n1,e1,g1,_⟩:=ZZ g 5;obtain⟨c2,n2,e2,g2,_⟩:=ZZ g1 4;obtain⟨c3,n3,e3,g3,_⟩:=ZZ g2 4;obtain⟨c4,n4,e4,g4,_⟩:=ZZ g3 3;obtain⟨c5,b5,e5,g5⟩:=U1 g4 3;have tail:∀(c:Zf),GC c->∃c' b,XC c 3=some (Bo b,[cB c'])/\∃c'' n c3,XU c' ([1,5,17,32])=some (I n,[cB c'',.arr ZU 1 true (([1,5,17,32]:WA).map ic)])/\∃k,Z7 c'' 20=some (I k,[cB c3])/\GC c'/\GC c3:=by
  intro c g;obtain⟨c',b,e,g'⟩:=U1 g 3;obtain⟨c'',n,e',g'',_⟩:=Uc g' [1,5,17,32] (by simp) (by simp);obtain⟨c3,k,e3,g3,_⟩:=ZZ g'' 20;exact⟨c',b,e,c'',n,c3,e',k,e3,g',g3⟩
 rcases tf b5 with hb|hb
 .subst hb;obtain⟨c',b,e,c'',n,c3',e',k,e3',g',g3'⟩:=tail c5 g5;rcases tf b with hb|hb
  .subst hb;exact⟨c',_,_,_,_,_,[],ZiX _ _ ⟨c1,n1,e1,c2,n2,e2,c3,n3,e3,c4,n4,e4,c5,false,e5,by rw[Yb (by simp)];exact⟨c',false,e,by rw[Yb (by simp)]⟩⟩,g',by simp⟩
  .subst hb;exact⟨c3',_,_,_,_,_,[⟨n,k⟩],ZiX _ _ ⟨c1,n1,e1,c2,n2,e2,c3,n3,e3,c4,n4,e4,c5,false,e5,by rw[Yb (by simp)];exact⟨c',true,e,by rw[Ya rfl];exact⟨c'',_,n,e',c3',k,e3',rfl⟩⟩⟩,g3',by simp⟩
 .subst hb;obtain⟨c6,n6,e6,g6,_⟩:=ZZ g5 3;obtain⟨c',b,e,c'',n,c3',e',k,e3',g',g3'⟩:=tail c6 g6;rcases tf b with hb|hb
  .subst hb;exact⟨c',_,_,_,_,_,[],ZiX _ _ ⟨c1,n1,e1,c2,n2,e2,c3,n3,e3,c4,n4,e4,c5,true,e5,by rw[Ya rfl];exact⟨c6,n6,e6,c',false,e,by rw[Yb (by simp)]⟩⟩,g',by simp⟩
  .subst hb;exact⟨c3',_,_,_,_,_,[⟨n,k⟩],ZiX _ _ ⟨c1,n1,e1,c2,n2,e2,c3,n3,e3,c4,n4,e4,c5,true,e5,by rw[Ya rfl];exact⟨c6,n6,e6,c',true,e,by rw[Ya rfl];exact⟨c'',_,n,e',c3',k,e3',rfl⟩⟩⟩,g3',by simp⟩
def SmM(m:Zm):Prop:=m.Scan.Steps.length<=3/\m.Sort_.Steps.length<=3/\m.Hash.Steps.length<=3/\m.Merge.Steps.length<=3/\m.Nested.Steps.length<=3
theorem SmM.le{m:Zm}(h:SmM m):LeM m:=by
 obtain⟨h1,h2,h3,h4,h5⟩:=h;exact⟨by omega,by omega,by omega,by omega,by omega⟩
theorem Zz8{c:Zf}(g:GC c):∃c',∃m:Zm,Zb9 c=some (.agg (m.c.map .t),[cB c'])/\GC c'/\SmM m:=by
 obtain⟨c1,b,e,g1⟩:=U1 g 3;rcases tf b with hb|hb
 .subst hb;obtain⟨d1,x1,x2,x3,x4,x5,l1,f1,h1,k1⟩:=Zdu g1;obtain⟨d2,y1,y2,y3,y4,y5,l2,f2,h2,k2⟩:=Zdu h1;obtain⟨d3,z1,z2,z3,z4,z5,l3,f3,h3,k3⟩:=Zdu h2;obtain⟨d4,u1,u2,u3,u4,u5,l4,f4,h4,k4⟩:=Zdu h3;obtain⟨d5,v1,v2,v3,v4,v5,l5,f5,h5,k5⟩:=Zdu h4;refine⟨d5,⟨⟨x1,x2,x3,x4,x5,l1⟩,⟨y1,y2,y3,y4,y5,l2⟩,⟨z1,z2,z3,z4,z5,l3⟩,⟨u1,u2,u3,u4,u5,l4⟩,⟨v1,v2,v3,v4,v5,l5⟩⟩,ZwH _ _ ⟨c1,false,e,?_⟩,h5,?_⟩
  .rw[Yb (by simp)];exact⟨d1,l1,x1,x2,x3,x4,x5,f1,d2,l2,y1,y2,y3,y4,y5,f2,d3,l3,z1,z2,z3,z4,z5,f3,d4,l4,u1,u2,u3,u4,u5,f4,d5,l5,v1,v2,v3,v4,v5,f5,rfl⟩
  .exact⟨by show l1.length<=3;omega,by show l2.length<=3;omega,by show l3.length<=3;omega,by show l4.length<=3;omega,by show l5.length<=3;omega⟩
 .subst hb;refine⟨c1,⟨⟨1,1,0,0,0,[]⟩,⟨2,3,0,0,0,[⟨17,20⟩]⟩,⟨4,2,1,1,0,[]⟩,⟨1,1,1,1,0,[]⟩,⟨1,0,0,1,1,[]⟩⟩,ZwH _ _ ⟨c1,true,e,?_⟩,g1,?_⟩
  .rw[Ya rfl];exact⟨_,_,_,_,_,_,_,_,_,_,_,_,_,_,_,_,_,_,_,_,_,_,_,_,_,_,_,_,_,_,Z6E _ rfl,rfl⟩
  .exact⟨by simp,by simp,by simp,by simp,by simp⟩
end Go.Proofs.YtgbipcfdgfjplaaGreat
