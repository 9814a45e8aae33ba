/-
  Parts of the proofs for this seat: IJ IK GH.
-/
import Derived.Test.YthdihnbeifcppaaGreatP33
set_option linter.all false
set_option maxRecDepth 100000
set_option maxHeartbeats 4000000
namespace Go.Proofs.YthdihnbeifcppaaGreat
open Go.AM
noncomputable section
def ZIY(a b c:Int)(fr:Bool)(l:List Zb)(hl:l.length<=1000):∀i,i<=l.length->∀best,Zdp a b c best fr l l.length i=some (.agg (((l.drop i).foldl Vn best).c.map .t),[.arr 287 4 fr (l.map Zb.c)]):=by
 refine down _ ?_ ?_
 .intro best;apply Za3.1.1;rw[Ynx];simp
 .intro i hi ih best;have h4:=ZL (i:=i) (by omega);apply Za3.1.1;rw[Ypx,Yi hi,Y8];refine⟨by omega,l[i],by rw[Yk];exact Yf hi,?_⟩;rw[show w ((i:Int)+1)=((i+1:Nat):Int)from by rw[show w ((i:Int)+1)=(i:Int)+1 from h4];simp];by_cases e:l[i].Cost<best.Cost
  .rw[Ya e,show Vn best l[i]=l[i] by simp[Vn,e]];exact ih _
  .rw[Yb e,show Vn best l[i]=best by simp[Vn,e]];exact ih _
def ZIZ(fr:Bool)(l:List Zb)(h0:l≠[])(hl:l.length<=1000):Zk6 fr l=some (.agg ((Xh l).c.map .t),[.arr 287 4 fr (l.map Zb.c)]):=by
 cases l with
 |nil=>exact absurd rfl h0
 |cons e l =>
  refine Za3.1.2.1 _ _ _ ⟨e,rfl,?_⟩;have:=ZIY 0 0 0 fr (e::l) hl 0 (Yd _) e;simpa[Xh]using this
def l_best(l:List Zb)(mask:Int)(hl:l.length<=1000)(cc:ofM l mask≠[])(hs:∀e∈l,e.Zg.Steps.length<=1000):∀i,i<=l.length->∀fr,Zdq 0 0 0 fr (ofM (l.take i) mask) mask l l.length i=some (.tup [.agg [I (Xh (ofM l mask)).Mask,I (Xh (ofM l mask)).Order,I (Xh (ofM l mask)).Cost,.own 0],Bo true],[.arr 277 3 true ((Xh (ofM l mask)).Zg.Steps.map Zh.c)]):=by
 refine down _ ?_ ?_
 .intro fr;apply Za3.1.2.2;rw[Ynx,Yp];have h1:(ofM l mask).length≠0:=λh=>cc (Ycn.1 h)
  have h2:(ofM l mask).length<=l.length:=Ybs _ _;rw[Ynx];have hmem:=ZuP cc;exact⟨_,ZIZ fr _ cc (by omega),_,Zmh _ (hs _ (Ybc.1 hmem).1),rfl⟩
 .intro i hi ih fr;have h4:=ZL (i:=i) (by omega);have hw:w ((i:Int)+1)=((i+1:Nat):Int):=by rw[show w ((i:Int)+1)=(i:Int)+1 from h4];simp
  rw[Z4i l mask hi]at ih;have h2:(ofM (l.take i) mask).length<=(l.take i).length:=Ybs _ _;rw[Yt]at h2;apply Za3.1.2.2;rw[Ypx,hw];refine⟨by omega,l[i],by rw[Yk];exact Yf hi,?_⟩;by_cases e:l[i].Mask=mask
  .rw[Ya e];rw[Ya e]at ih;exact⟨by omega,ih false⟩
  .rw[Yb e];rw[Yb e,Ybb]at ih;exact ih fr
def ZJa(l:List Zb)(mask:Int)(hl:l.length<=1000)(cc:ofM l mask≠[])(hs:∀e∈l,e.Zg.Steps.length<=1000):Zgx l mask=some (.tup [.agg [I (Xh (ofM l mask)).Mask,I (Xh (ofM l mask)).Order,I (Xh (ofM l mask)).Cost,.own 0],Bo true],[.arr 277 3 true ((Xh (ofM l mask)).Zg.Steps.map Zh.c)]) :=
 Za3.2.1 _ _ _ (by simpa[ofM]using l_best l mask hl cc hs 0 (Yd _) true)
def ZJb(l:List Zb)(mask:Int)(hl:l.length<=1000)(cc:ofM l mask≠[])(hs:∀e∈l,e.Zg.Steps.length<=1000):Zee l mask=some (.tup [.agg [I (Xh (ofM l mask)).Mask,I (Xh (ofM l mask)).Order,I (Xh (ofM l mask)).Cost,.own 0],Bo true],[.arr 277 3 true ((Xh (ofM l mask)).Zg.Steps.map Zh.c)]):=by
 obtain⟨k1,k2⟩:=Zml cc;have hmem:=ZuP cc;have:=hs _ (Ybc.1 hmem).1;refine WN.2.2.1 _ _ _ ⟨_,Ze7 l mask hl,?_⟩;rw[Ynx];exact⟨k1,_,k2,by omega,rfl⟩
def tab(m:Za)(q:Zj)(sizes:V6):List Zb:=Xt m sizes q (Z7 q.Atoms).length
def opt(m:Za)(q:Zj)(sizes:V6):Zb:=Xh (ofM (tab m q sizes) (ZW q.Zm q.Atoms))
def ZJc{q:Zj}(hv:Z6 q.Zm q.Atoms=true):MQ q.Atoms (ZW q.Zm q.Atoms):=by
 have:=Kp hv;have:=ZnG hv;exact⟨by omega,by omega⟩
def Z4B{m:Za}{q:Zj}{sizes:V6}(b:Ve m q sizes)(hc:WV q.Zm q.Atoms (ZW q.Zm q.Atoms)=true):Wq m sizes q.Atoms (ZW q.Zm q.Atoms) (ofM (tab m q sizes) (ZW q.Zm q.Atoms)):=by
 refine(ZeC b _ (Yh _)).held _ ?_;rw[Yp];have hp:=ZnG b.hv;have hq:=ZJc b.hv;unfold WV at hc;simp only[Yg]at hc;exact Zco.2 ⟨by omega,hq.2,hc.2⟩
def ZJd{m:Za}{q:Zj}{sizes:V6}(b:Ve m q sizes)(ha:V9 m)(hc:WV q.Zm q.Atoms (ZW q.Zm q.Atoms)=true):Zgy m q sizes=some (.tup [.agg [I (opt m q sizes).Mask,I (opt m q sizes).Order,I (opt m q sizes).Cost,.own 0],Bo true],[.arr 277 3 true ((opt m q sizes).Zg.Steps.map Zh.c)]):=by
 have hl:=Ziq b (Yh (Z7 q.Atoms).length);refine Za3.2.2.1 _ _ _ _ (.inr ⟨_,_,ZIQ b ha,_,Za4 q b.hq,.inr ⟨_,_,_,_,ZJa _ _ (by omega) (Z4B b hc).ne (Zvk b (Yh _)),rfl⟩⟩)
def ZJe{m:Za}{q:Zj}{sizes:V6}(b:Ve m q sizes)(ha:V9 m)(hc:WV q.Zm q.Atoms (ZW q.Zm q.Atoms)=true):Zgz m q sizes=some (I (opt m q sizes).Cost,[]) :=
 Za3.2.2.2 _ _ _ _ (.inr ⟨_,_,_,_,ZJd b ha hc,rfl⟩)
def ZJf{m:Za}{q:Zj}{l:V6}(hl:l.length<=4294967296)(h:XP l=true)(b:Ve m q (WP l))(ha:V9 m)(hc:WV q.Zm q.Atoms (ZW q.Zm q.Atoms)=true):Zk7 m q l=some (I (opt m q (WP l)).Cost,[]):=by
 have hb:=Z3N l hl;rw[h,Ya rfl]at hb;exact WK.1.1.1.1 _ _ _ _ (.inl ⟨_,hb,_,ZJe b ha hc,rfl⟩)
def LeR(r:Region):Prop:=Le r.Box.Low/\Le r.Box.High
def ZJg(q:Zj)(hq:LeQ q)(bx:Box)(hb:LeX bx):Zkn q bx=some (Bo (ZcK q.Zm q.Atoms bx.Low bx.High),[]):=by
 have q5:=Zj9 q.Zm q.Atoms;refine XG.1.2.2.1 _ _ _ ⟨_,ZFX bx hb,?_⟩;unfold ZcK;rcases tf (Jq bx.Low bx.High)with e|e
 .rw[e];simp
 .rw[e,Ya rfl];refine⟨_,Za4 q hq,?_⟩;rw[show w (ZW q.Zm q.Atoms+1)=ZW q.Zm q.Atoms+1 from q5];simp
def ZJh(q:Zj)(hq:LeQ q)(r:Region)(hr:LeR r):Zgb q r=some (Bo (Zad q.Zm q.Atoms r.Zg.Steps r.Box.Low r.Box.High r.Percent),[]):=by
 refine XG.2.2.2.2.1 _ _ _ ⟨_,ZhV q hq,?_⟩;unfold Zad;rcases tf (Z6 q.Zm q.Atoms)with e|e
 .rw[e];simp
 rw[e,Ya rfl];refine⟨_,ZJg q hq r.Box hr,?_⟩;rcases tf (ZcK q.Zm q.Atoms r.Box.Low r.Box.High)with e2|e2
 .rw[e2];simp
 rw[e2,Ya rfl];refine⟨_,ZGh q r.Zg hq,_,Za4 q hq,?_⟩;by_cases e3:Zac q.Zm q.Atoms r.Zg.Steps=ZW q.Zm q.Atoms
 .rw[Ya e3];exact⟨_,XX _ _ _,by simp[e3]⟩
 .rw[Yb e3];simp[e3]
def ZJi(q:Zj)(hq:LeQ q)(r:Region)(hr:LeR r):Zhw q r=some (Bo (Zad q.Zm q.Atoms r.Zg.Steps r.Box.Low r.Box.High r.Percent),[]):=by
 have q5:=Zj9 q.Zm q.Atoms;refine X6.1.2.2.2 _ _ _ ⟨_,ZFY r.Box hr,?_⟩;unfold Zad ZcK;rcases tf (Jq r.Box.Low r.Box.High)with e|e
 .rw[e];simp
 rw[e,Ya rfl];refine⟨_,ZhX q hq,?_⟩;rw[show w (ZW q.Zm q.Atoms+1)=ZW q.Zm q.Atoms+1 from q5];by_cases e4:(r.Box.Low.length:Int)=ZW q.Zm q.Atoms+1
 .rw[Ya e4];refine⟨_,ZGi q r.Zg hq,?_⟩;by_cases e3:Zac q.Zm q.Atoms r.Zg.Steps=ZW q.Zm q.Atoms
  .rw[Ya e3];rcases tf (Z6 q.Zm q.Atoms)with e1|e1
   .have e5:ZW q.Zm q.Atoms=0:=by unfold ZW;rw[e1];rfl
    rw[Ynx];simp[e1]
   .have e5:=ZnG e1;rw[Ya e5];exact⟨_,Wo _ _ _,by simp[e1,e3,e4]⟩
  .rw[Yb e3];simp[e3]
 .rw[Yb e4];simp[e4]
def Uo(m:Za)(q:Zj)(r:Region):Prop:=Zad q.Zm q.Atoms r.Zg.Steps r.Box.Low r.Box.High r.Percent=true/\WV q.Zm q.Atoms (ZW q.Zm q.Atoms)=true/\V9 m
def Zmp{l:V6}(h:XP l=true):l.length<=16:=by
 simp only[XP,Yg,decide_eq_true_eq]at h;omega
def ZJj{a:Int}(h:0<=a/\a<=7):inR (W5 a) 0 4096=true:=by
 have:a=0\/a=1\/a=2\/a=3\/a=4\/a=5\/a=6\/a=7:=by omega
 rcases this with rfl|rfl|rfl|rfl|rfl|rfl|rfl|rfl<;>decide
def ZJk{m:Za}(hm:LeM m)(ha:V9 m){q:Zj}(hq:LeQ q)(hv:Z6 q.Zm q.Atoms=true){l:V6}(h:XP l=true)(hl:(l.length:Int)=ZW q.Zm q.Atoms+1):Ve m q (WP l):=by
 have hll:(l.length:Int)<=16:=by simp only[XP,Yg,decide_eq_true_eq]at h;exact h.2
 have hc:=ZIt h;refine⟨hm,ha.2.1,hq,hv,by simp[WP];omega,hc,?_⟩;unfold WC ZaA;rw[hv]
 have:(WP l).all (λx=>inR x 0 4096)=true:=by
  rw[Yy];intro s hs;obtain⟨a,h1,rfl⟩:=hc s hs;exact ZJj h1
 rw[this];simp[WP,hl]
def Zvl{m:Za}{q:Zj}{r:Region}(h:Uo m q r):Z6 q.Zm q.Atoms=true/\XP r.Box.Low=true/\XP r.Box.High=true/\(r.Box.Low.length:Int)=ZW q.Zm q.Atoms+1/\Jq r.Box.Low r.Box.High=true/\inR r.Percent 100 1000=true/\Zac q.Zm q.Atoms r.Zg.Steps=ZW q.Zm q.Atoms:=by
 have h1:=h.1;unfold Zad ZcK at h1;simp only[Yg,decide_eq_true_eq]at h1;have h2:=h1.1.1.2.1;unfold Jq at h2;simp only[Yg,decide_eq_true_eq]at h2;exact⟨h1.1.1.1,h2.1.1.2,h2.1.2,h1.1.1.2.2,h1.1.1.2.1,h1.2,h1.1.2⟩
def Z4C{m:Za}{q:Zj}{r:Region}(hm:LeM m)(hq:LeQ q)(h:Uo m q r):Ve m q (WP r.Box.Low):=by
 obtain⟨h1,h2,h3,h4,_⟩:=Zvl h;exact ZJk hm h.2.2 hq h1 h2 h4
def Zmq(m:Za)(q:Zj)(r:Region):Bool:=decide (w (100*U5 m q.Zm q.Atoms r.Zg.Steps (WP r.Box.High))<=w (r.Percent*(opt m q (WP r.Box.Low)).Cost))
def ZJl{m:Za}{q:Zj}{r:Region}(hm:LeM m)(hq:LeQ q)(hr:LeR r)(h:Uo m q r):Zk8 m q r=some (Bo (Zmq m q r),[]):=by
 obtain⟨h1,h2,h3,h4,_⟩:=Zvl h;have l1:=Zmp h2;have l2:=Zmp h3;exact WK.1.1.1.2 _ _ _ _ ⟨_,ZHT m hm q hq r.Zg r.Box.High (by omega) h3,_,ZJf (by omega) h2 (Z4C hm hq h) h.2.2 h.2.1,rfl⟩
def ZJm{m:Za}{q:Zj}{r:Region}(hm:LeM m)(hq:LeQ q)(hr:LeR r)(h:Uo m q r):Zl3 m q r=some (Bo (Zmq m q r),[]):=by
 obtain⟨h1,h2,h3,h4,_⟩:=Zvl h;have l1:=Zmp h2;have l2:=Zmp h3;have b:=Z4C hm hq h;have hl:=Ziq b (Yh (Z7 q.Atoms).length);have hs:=Z3O r.Box.Low (by omega);rw[h2,Ya rfl]at hs;obtain⟨fr,ht⟩:=ZIX b;refine Ww.1.2.2.1 _ _ _ _ ⟨_,ZIV q hq h1,_,hs,_,_,ht,_,ZhX q hq,.inr ⟨_,_,_,_,ZJb _ _ (by omega) (Z4B b h.2.1).ne (Zvk b (Yh _)),_,ZHU m hm q hq r.Zg r.Box.High (by omega) h3,?_⟩⟩;unfold Zmq opt tab;rw[Int.mul_comm]
open Classical in
def Zcp(m:Za)(q:Zj)(r:Region):Bool:=decide (Uo m q r) && Zmq m q r
def ZJn{m:Za}{q:Zj}{r:Region}(hm:LeM m)(hq:LeQ q)(hr:LeR r):Zgd m q r=some (Bo (@decide (Uo m q r) (Classical.propDecidable _)),[]):=by
 refine U0.2.1.2 _ _ _ _ ⟨_,ZJh q hq r hr,?_⟩;rcases tf (Zad q.Zm q.Atoms r.Zg.Steps r.Box.Low r.Box.High r.Percent)with e|e
 .rw[Yb (by rw[e];simp)]
  have:¬Uo m q r:=λh=>by rw[h.1]at e;cases e
  simp[this]
 rw[Ya e];refine⟨_,Za4 q hq,_,Z39 q hq _,?_⟩;rcases tf (WV q.Zm q.Atoms (ZW q.Zm q.Atoms))with e2|e2
 .rw[Yb (by rw[e2];simp)]
  have:¬Uo m q r:=λh=>by rw[h.2.1]at e2;cases e2
  simp[this]
 rw[Ya e2];refine⟨_,Zu3 m hm,?_⟩;by_cases ha:V9 m
 .have:Uo m q r:=⟨e,e2,ha⟩
  simp[this,ha]
 .have:¬Uo m q r:=λh=>ha h.2.2
  simp[this,ha]
def ZJo{m:Za}{q:Zj}{r:Region}(hm:LeM m)(hq:LeQ q)(hr:LeR r):Zk9 m q r=some (Bo (Zcp m q r),[]):=by
 refine WK.1.1.2.1 _ _ _ _ ⟨_,ZJn hm hq hr,?_⟩;unfold Zcp;by_cases h:Uo m q r
 .rw[Ya (by simp[h])];exact⟨_,ZJl hm hq hr h,by simp[h]⟩
 .rw[Yb (by simp[h])];simp[h]
def ZJp{m:Za}{q:Zj}{r:Region}(hm:LeM m)(hq:LeQ q)(hr:LeR r):Zl4 m q r=some (Bo (Zcp m q r),[]):=by
 refine Ww.1.2.2.2.1 _ _ _ _ ⟨_,Z2D m hm,?_⟩;unfold Zcp;by_cases ha:V9 m
 .rw[Ya (by simp[ha])];refine⟨_,ZhX q hq,_,Z3A q hq _,?_⟩;rcases tf (WV q.Zm q.Atoms (ZW q.Zm q.Atoms))with e2|e2
  .rw[Yb (by rw[e2];simp)]
   have:¬Uo m q r:=λh=>by rw[h.2.1]at e2;cases e2
   simp[this]
  rw[Ya e2];refine⟨_,ZJi q hq r hr,?_⟩;rcases tf (Zad q.Zm q.Atoms r.Zg.Steps r.Box.Low r.Box.High r.Percent)with e|e
  .rw[Yb (by rw[e];simp)]
   have:¬Uo m q r:=λh=>by rw[h.1]at e;cases e
   simp[this]
  rw[Ya e];have h:Uo m q r:=⟨e,e2,ha⟩;exact⟨_,ZJm hm hq hr h,by simp[h]⟩
 .rw[Yb (by simp[ha])]
  have:¬Uo m q r:=λh=>ha h.2.2
  simp[this]
def LeC(c:ZH):Prop:=Le c.Entries/\∀e∈c.Entries,LeQ e.Zj/\LeR e.Region
def KY(l:List Zo)(e:Zo):Bool:=l.any λx=>decide (x.Used=e.Used)
def Zvm(m:Za)(c:ZH)(i:Nat)(e:Zo):Bool:=inR e.Version 1 999 && (inR e.Used 1 c.Clock && (Zcp m e.Zj e.Region && !KY (c.Entries.take i) e))
def okF(m:Za)(c:ZH):List Zo->Nat->Bool
 |[],_=>true
 |e::l,i=>Zvm m c i e && okF m c l (i+1)
def KZ(m:Za)(c:ZH):Bool:=inR c.Clock 0 1000000 && (decide ((c.Entries.length:Int)<=4) && okF m c c.Entries 0)
def Zcq(e:Zo):List Zo->Nat->Int
 |[],_=>-1
 |x::l,i=>if x.Used=e.Used then(i:Int)else Zcq e l (i+1)
def Z4D(e:Zo):∀(l:List Zo) (i:Nat),decide (0<=Zcq e l i)=KY l e
 |[],i=>by simp[Zcq,KY]
 |x::l,i=>by
  have ih:=Z4D e l (i+1);rw[Zcq];unfold KY at ih|-;by_cases h:x.Used=e.Used
  .simp[h]
  .rw[Yb h,ih];simp[h]
def l_idx(l:List Zo)(e:Zo)(hl:Le l):∀i,i<=l.length->Zg0 l e l.length i=some (I (Zcq e (l.drop i) i),[]):=by
 refine down _ ?_ ?_
 .apply WK.1.2.1.1;rw[Ynx];simp[Zcq]
 .intro i hi ih;have h4:=ZL (i:=i) (by omega);apply WK.1.2.1.1;rw[Ypx,Yi hi,Zcq];refine⟨by omega,l[i],by rw[Yk];exact Yf hi,_,WK.1.1.2.2 _ _ _ rfl,?_⟩;rw[show w ((i:Int)+1)=((i+1:Nat):Int)from by rw[show w ((i:Int)+1)=(i:Int)+1 from h4];simp];by_cases h:l[i].Used=e.Used
  .rw[Ya (by simpa using h),Ya h]
  .rw[Yb (by simpa using h),Yb h];exact ih
def ZJq(l:List Zo)(e:Zo)(hl:Le l):ZkA l e=some (Bo (KY l e),[]):=by
 refine WK.1.2.2.1 _ _ _ ⟨_,WK.1.2.1.2 _ _ _ (l_idx l e hl 0 (Yd _)),?_⟩;rw[Ys,Z4D]
def ZJr(m:Za)(hm:LeM m)(c:ZH)(hc:LeC c):∀i,i<=c.Entries.length->Zg1 m c c.Entries c.Entries.length i=some (Bo (okF m c (c.Entries.drop i) i),[]):=by
 have hl:=hc.1;refine down _ ?_ ?_
 .apply WK.1.2.2.2.1;rw[Ynx];simp[okF]
 .intro i hi ih;have h4:=ZL (i:=i) (by omega);obtain⟨hq,hr⟩:=hc.2 _ (Yc hi);apply WK.1.2.2.2.1;rw[Ypx,Yi hi,okF,Zvm];refine⟨by omega,c.Entries[i],by rw[Yk];exact Yf hi,_,XX _ _ _,?_⟩;rcases tf (inR c.Entries[i].Version 1 999)with e|e
  .rw[e];simp
  rw[e,Ya rfl];refine⟨_,XX _ _ _,?_⟩;rcases tf (inR c.Entries[i].Used 1 c.Clock)with e2|e2
  .rw[e2];simp
  rw[e2,Ya rfl];refine⟨_,ZJo hm hq hr,?_⟩;rcases tf (Zcp m c.Entries[i].Zj c.Entries[i].Region)with e3|e3
  .rw[e3];simp
  rw[e3,Ya rfl];refine⟨by omega,_,ZJq _ _ (by show(List.take _ _).length<=_;rw[Yt];omega),?_⟩;rw[Yk,show w ((i:Int)+1)=((i+1:Nat):Int)from by rw[show w ((i:Int)+1)=(i:Int)+1 from h4];simp];rcases tf (KY (c.Entries.take i) c.Entries[i])with e4|e4
  .rw[e4,Yb (by simp),ih];simp
  .rw[e4];simp
def Z4E(m:Za)(hm:LeM m)(c:ZH)(hc:LeC c):Zdr m c=some (Bo (KZ m c),[]):=by
 refine WK.1.2.2.2.2 _ _ _ ⟨_,XX _ _ _,?_⟩;unfold KZ;rcases tf (inR c.Clock 0 1000000)with e|e
 .rw[e];simp
 rw[e,Ya rfl];by_cases h:4<(c.Entries.length:Int)
 .rw[Ya h]
  have:¬(c.Entries.length:Int)<=4:=by omega
  simp[this]
 .rw[Yb h];have h2:(c.Entries.length:Int)<=4:=by omega
  have:=ZJr m hm c hc 0 (Yd _);rw[Ys]at this;simpa[h2]using this
def ZJs(m:Za)(c:ZH)(hc:LeC c)(i:Nat)(hi:i<c.Entries.length)(e:Zo)(r:Bool)(hr:Zeg m c (w ((i:Int)+1))=some (Bo r,[])):∀k,k<=i->ZhI m c e i k=some (Bo (!KY ((c.Entries.take i).drop k) e && r),[]):=by
 have hl:=hc.1;refine down _ ?_ ?_
 .apply Ww.2.1.1.1;rw[Ynx,hr,Yb1 (by rw[Yt];omega)];simp[KY]
 .intro k hk ih;have h4:=ZL (i:=k) (by omega);have hkl:k<(c.Entries.take i).length:=by rw[Yt];omega
  apply Ww.2.1.1.1;rw[Ypx,Yi hkl];refine⟨by omega,c.Entries[k],by rw[Yk];exact Yf (by omega),?_⟩;rw[show w ((k:Int)+1)=((k+1:Nat):Int)from by rw[show w ((k:Int)+1)=(k:Int)+1 from h4];simp];rw[List.getElem_take];by_cases h:c.Entries[k].Used=e.Used
  .rw[Ya h];simp[KY,h]
  .rw[Yb h,ih];simp[KY,h]
def ZJt(m:Za)(hm:LeM m)(c:ZH)(hc:LeC c):∀i,i<=c.Entries.length->Zeg m c i=some (Bo (okF m c (c.Entries.drop i) i && (inR c.Clock 0 1000000 && decide ((c.Entries.length:Int)<=4))),[]):=by
 have hl:=hc.1;refine down _ ?_ ?_
 .apply Ww.1.2.2.2.2;rw[Ynx];refine⟨_,Wo _ _ _,?_⟩;rcases tf (inR c.Clock 0 1000000)with e|e
  .rw[e];simp
  .rw[e];simp[okF]
 .intro i hi ih;have h4:=ZL (i:=i) (by omega);have hw:w ((i:Int)+1)=((i+1:Nat):Int):=by rw[show w ((i:Int)+1)=(i:Int)+1 from h4];simp
  obtain⟨hq,hr⟩:=hc.2 _ (Yc hi);apply Ww.1.2.2.2.2;rw[Ypx,Yi hi,okF,Zvm];refine⟨by omega,c.Entries[i],by rw[Yk];exact Yf hi,_,Wo _ _ _,?_⟩;rcases tf (inR c.Entries[i].Version 1 999)with e|e
  .rw[e];simp
  rw[e,Ya rfl];refine⟨_,Wo _ _ _,?_⟩;rcases tf (inR c.Entries[i].Used 1 c.Clock)with e2|e2
  .rw[e2];simp
  rw[e2,Ya rfl];refine⟨_,ZJp hm hq hr,?_⟩;rcases tf (Zcp m c.Entries[i].Zj c.Entries[i].Region)with e3|e3
  .rw[e3];simp
  rw[e3,Ya rfl];have:=ZJs m c hc i hi c.Entries[i] _ (by rw[hw];exact ih) 0 (Yd _);rw[Ys]at this;refine Ye this ?_;simp[Bool.and_assoc]
def Z4F(m:Za)(hm:LeM m)(c:ZH)(hc:LeC c):Zef m c=some (Bo (KZ m c),[]):=by
 have:=ZJt m hm c hc 0 (Yd _);rw[Ys]at this;refine Ww.2.1.1.2 _ _ _ (Ye this ?_);unfold KZ;rcases tf (inR c.Clock 0 1000000)with e|e<;>rw[e]<;>simp[Bool.and_comm]
structure Zir (s:Zs):Prop where
 d:LeD s.Zl
 k:LeK s.Zu
 f:LeF s.Dependencies
 x:Le s.Inclusions
def QQ(s:Zs):Bool:=Xn s.Zl && inR s.Zu.Version 1 999 && decide (s.Zl.Tables.map Wl=s.Zu.Tables) && KU s.Zl s.Dependencies s.Inclusions
def Zvn{d:Zl}(hv:Xn d=true):(d.Tables.map Wl).length<=4294967296/\∀s∈d.Tables.map Wl,LeS s:=by
 have h6:=Zci hv;refine⟨by simp;omega,λs hs=>?_⟩;obtain⟨t,ht,rfl⟩:=Yr.1 hs;have hT:=QC hv ht;have h7:=ZlW (QG hT);have h8:=Za6 hT;refine⟨by simp[Wl];omega,λg hg=>?_⟩;obtain⟨c,hc,rfl⟩:=Yr.1 hg;have hc3:=(Z2Z (QG hT) c hc).1;have hg:=Zu9 t.Rows c;refine⟨by simp only[grp];omega,⟨by simp only[grp];omega,λr hr=>?_⟩,by simp only[grp,Zcg,Y9];omega⟩;have:=ZuA hr;omega
def Z4G{s:Zs}(h:Zir s):Zbz s=some (Bo (QQ s),[]):=by
 have hb:=Z3l h.d s.Zu.Version;refine XS.1.2.2.2.1 _ _ ⟨_,_,_,hb,?_⟩;unfold QQ;rcases tf (Xn s.Zl && inR s.Zu.Version 1 999)with e|e
 .simp[e]
 rw[e,Ya rfl,Yw];have hv:Xn s.Zl=true:=by simp only[Yg]at e;exact e.1
 have c:U3 s.Zl s.Zu.Version=⟨s.Zu.Version,s.Zl.Tables.map Wl⟩:=by unfold U3;rw[Ya e]
 rw[c];refine⟨_,ZHb _ _ _ (Zvn hv),?_⟩;have q:Za8 s.Zu.Version (s.Zl.Tables.map Wl) s.Zu=decide (s.Zl.Tables.map Wl=s.Zu.Tables):=by simp[Za8]
 rw[q];rcases tf (decide (s.Zl.Tables.map Wl=s.Zu.Tables))with e2|e2
 .rw[e2];simp
 .rw[e2,Ya rfl];exact⟨_,Z3y h.d h.f h.x,by simp⟩
def Z4H{s:Zs}(h:Zir s):ZbM s=some (Bo (QQ s),[]):=by
 have hb:=Z3m h.d s.Zu.Version;refine WM.2.1.1.2 _ _ ⟨_,_,hb,?_⟩;unfold QQ;rcases tf (Xn s.Zl && inR s.Zu.Version 1 999)with e|e
 .simp[e]
 rw[e,Ya rfl,Yw];have hv:Xn s.Zl=true:=by simp only[Yg]at e;exact e.1
 have c:U3 s.Zl s.Zu.Version=⟨s.Zu.Version,s.Zl.Tables.map Wl⟩:=by unfold U3;rw[Ya e]
 rw[c];refine⟨_,ZHg _ _ _ (Zvn hv) h.k,?_⟩;have q:Za8 s.Zu.Version (s.Zl.Tables.map Wl) s.Zu=decide (s.Zl.Tables.map Wl=s.Zu.Tables):=by simp[Za8]
 rw[q];rcases tf (decide (s.Zl.Tables.map Wl=s.Zu.Tables))with e2|e2
 .rw[e2];simp
 .rw[e2,Ya rfl];exact⟨_,Z3z h.d h.f h.x,by simp⟩
open Classical in
def Zcr(s:ZJ):Bool:=QQ s.Zs && decide (V9 s.Za) && KZ s.Za s.Cache && inR s.Ratio 2 8 && inR s.Slack 0 100 && inR s.Queries 0 1000000 && inR s.Spent 0 1000000000000
open Classical in
def ZJu{s:ZJ}(h:Zir s.Zs)(hm:LeM s.Za)(hc:LeC s.Cache):Zg2 s=some (Bo (Zcr s),[]):=by
 refine WK.2.1.1.1 _ _ ⟨_,XX _ _ _,?_⟩;unfold Zcr;rcases tf (inR s.Ratio 2 8)with e1|e1
 .rw[e1];simp
 rw[e1,Ya rfl];refine⟨_,XX _ _ _,?_⟩;rcases tf (inR s.Slack 0 100)with e2|e2
 .rw[e2];simp
 rw[e2,Ya rfl];refine⟨_,XX _ _ _,?_⟩;rcases tf (inR s.Queries 0 1000000)with e3|e3
 .rw[e3];simp
 rw[e3,Ya rfl];refine⟨_,XX _ _ _,?_⟩;rcases tf (inR s.Spent 0 1000000000000)with e4|e4
 .rw[e4];simp
 rw[e4,Ya rfl];refine⟨_,Z4G h,?_⟩;rcases tf (QQ s.Zs)with e5|e5
 .rw[e5];simp
 rw[e5,Ya rfl];refine⟨_,Zu3 _ hm,?_⟩;rcases tf (decide (V9 s.Za))with e6|e6
 .rw[e6];simp
 rw[e6,Ya rfl];exact⟨_,Z4E _ hm _ hc,by simp⟩
open Classical in
def ZJv{s:ZJ}(h:Zir s.Zs)(hm:LeM s.Za)(hc:LeC s.Cache):ZhJ s=some (Bo (Zcr s),[]):=by
 refine Ww.2.1.2.1 _ _ ⟨_,Z4H h,?_⟩;unfold Zcr;rcases tf (QQ s.Zs)with e5|e5
 .rw[e5];simp
 rw[e5,Ya rfl];refine⟨_,Z2D _ hm,?_⟩;rcases tf (decide (V9 s.Za))with e6|e6
 .rw[e6];simp
 rw[e6,Ya rfl];refine⟨_,Z4F _ hm _ hc,?_⟩;rcases tf (KZ s.Za s.Cache)with e7|e7
 .rw[e7];simp
 rw[e7,Ya rfl];refine⟨_,Wo _ _ _,?_⟩;rcases tf (inR s.Ratio 2 8)with e1|e1
 .rw[e1];simp
 rw[e1,Ya rfl];refine⟨_,Wo _ _ _,?_⟩;rcases tf (inR s.Slack 0 100)with e2|e2
 .rw[e2];simp
 rw[e2,Ya rfl];refine⟨_,Wo _ _ _,?_⟩;rcases tf (inR s.Queries 0 1000000)with e3|e3
 .rw[e3];simp
 rw[e3,Ya rfl];exact⟨_,Wo _ _ _,by simp⟩
end
