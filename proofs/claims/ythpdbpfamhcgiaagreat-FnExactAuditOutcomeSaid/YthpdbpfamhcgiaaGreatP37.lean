/-
  Parts of the proofs for this seat: IJ ET EO OH.
-/
import Derived.Test.YthpdbpfamhcgiaaGreatP36
set_option linter.all false
set_option maxRecDepth 100000
set_option maxHeartbeats 4000000
namespace Go.Proofs.YthpdbpfamhcgiaaGreat
open Go.AM
def ZQc(a b c:Int)(fr:Bool)(l:List Zd)(hl:l.length<=1000):∀i,i<=l.length->∀best,ZfE a b c best fr l l.length i=some (.agg (((l.drop i).foldl Uh best).c.map .t),[.arr 328 4 fr (l.map Zd.c)]):=by
 refine down _ ?_ ?_
 .simp[ZbO.1.1]
 .intro i hi ih best;have h4:=Xd (i:=i) (by omega);apply ZbO.1.1;rw[Ypx,Yi hi,Y7];refine⟨by omega,l[i],by rw[Yh];exact Yf hi,?_⟩;rw[show w ((i:Int)+1)=((i+1:Nat):Int)from by rw[show w ((i:Int)+1)=(i:Int)+1 from h4];simp];by_cases e:l[i].Zv<best.Zv
  .rw[Ya e,show Uh best l[i]=l[i] by simp[Uh,e]];exact ih _
  .rw[Yb e,show Uh best l[i]=best by simp[Uh,e]];exact ih _
def ZQd(fr:Bool)(l:List Zd)(h0:l≠[])(hl:l.length<=1000):ZnX fr l=some (.agg ((Xz l).c.map .t),[.arr 328 4 fr (l.map Zd.c)]):=by
 cases l with
 |nil=>exact absurd rfl h0
 |cons e l =>
  refine ZbO.1.2.1 _ _ _ ⟨e,rfl,?_⟩;have:=ZQc 0 0 0 fr (e::l) hl 0 (Yc _) e;simpa[Xz]using this
def l_best(l:List Zd)(mask:Int)(hl:l.length<=1000)(cc:ofM l mask≠[])(hs:∀e∈l,e.Zg.Steps.length<=1000):∀i,i<=l.length->∀fr,ZfF 0 0 0 fr (ofM (l.take i) mask) mask l l.length i=some (.tup [.agg [I (Xz (ofM l mask)).Mask,I (Xz (ofM l mask)).Zl,I (Xz (ofM l mask)).Zv,.own 0],Bo true],[.arr 258 3 true ((Xz (ofM l mask)).Zg.Steps.map Zj.c)]):=by
 refine down _ ?_ ?_
 .intro fr;apply ZbO.1.2.2;rw[Ynx,Y2];have h1:(ofM l mask).length≠0:=λh=>cc (Ydj.1 h)
  have h2:(ofM l mask).length<=l.length:=Ycn _ _;rw[Ynx];have hmem:=Z0Y cc;exact⟨_,ZQd fr _ cc (by omega),_,Zqc _ (hs _ (Ybb.1 hmem).1),rfl⟩
 .intro i hi ih fr;have h4:=Xd (i:=i) (by omega);have hw:w ((i:Int)+1)=((i+1:Nat):Int):=by rw[show w ((i:Int)+1)=(i:Int)+1 from h4];simp
  rw[ZB5 l mask hi]at ih;have h2:(ofM (l.take i) mask).length<=(l.take i).length:=Ycn _ _;rw[Ybo]at h2;apply ZbO.1.2.2
  grind
def ZQe(l:List Zd)(mask:Int)(hl:l.length<=1000)(cc:ofM l mask≠[])(hs:∀e∈l,e.Zg.Steps.length<=1000):ZjJ l mask=some (.tup [.agg [I (Xz (ofM l mask)).Mask,I (Xz (ofM l mask)).Zl,I (Xz (ofM l mask)).Zv,.own 0],Bo true],[.arr 258 3 true ((Xz (ofM l mask)).Zg.Steps.map Zj.c)]) :=
 ZbO.2.1 _ _ _ (by simpa[ofM]using l_best l mask hl cc hs 0 (Yc _) true)
def ZQf(l:List Zd)(mask:Int)(hl:l.length<=1000)(cc:ofM l mask≠[])(hs:∀e∈l,e.Zg.Steps.length<=1000):ZbL l mask=some (.tup [.agg [I (Xz (ofM l mask)).Mask,I (Xz (ofM l mask)).Zl,I (Xz (ofM l mask)).Zv,.own 0],Bo true],[.arr 258 3 true ((Xz (ofM l mask)).Zg.Steps.map Zj.c)]):=by
 obtain⟨k1,k2⟩:=Zqg cc;have hmem:=Z0Y cc;have:=hs _ (Ybb.1 hmem).1;refine WB.2.1.1.2 _ _ _ ⟨_,Zhy l mask hl,?_⟩
 grind
def tab(m:Zn)(q:Zf)(sizes:V6):List Zd:=XH m sizes q (ZJ q.Zb).length
def opt(m:Zn)(q:Zf)(sizes:V6):Zd:=Xz (ofM (tab m q sizes) (ZX q.Zk q.Zb))
def ZQg{q:Zf}(hv:Z9 q.Zk q.Zb=true):MQ q.Zb (ZX q.Zk q.Zb):=by
 have:=QT hv;have:=ZmM hv;omega
def ZBX{m:Zn}{q:Zf}{sizes:V6}(b:VO m q sizes)(hc:Wp q.Zk q.Zb (ZX q.Zk q.Zb)=true):WR m sizes q.Zb (ZX q.Zk q.Zb) (ofM (tab m q sizes) (ZX q.Zk q.Zb)):=by
 refine(Zh3 b _ (Yj _)).held _ ?_;rw[Y2];have hp:=ZmM b.hv;have hq:=ZQg b.hv;unfold Wp at hc;simp only[Yg]at hc
 grind [JT]
def ZQh{m:Zn}{q:Zf}{sizes:V6}(b:VO m q sizes)(ha:Vf m)(hc:Wp q.Zk q.Zb (ZX q.Zk q.Zb)=true):ZjK m q sizes=some (.tup [.agg [I (opt m q sizes).Mask,I (opt m q sizes).Zl,I (opt m q sizes).Zv,.own 0],Bo true],[.arr 258 3 true ((opt m q sizes).Zg.Steps.map Zj.c)]):=by
 have hl:=ZlO b (Yj (ZJ q.Zb).length);refine ZbO.2.2.1 _ _ _ _ (.inr ⟨_,_,ZPU b ha,_,Je q b.hq,.inr ⟨_,_,_,_,ZQe _ _ (by omega) (ZBX b hc).ne (Z1t b (Yj _)),rfl⟩⟩)
def ZQi{m:Zn}{q:Zf}{sizes:V6}(b:VO m q sizes)(ha:Vf m)(hc:Wp q.Zk q.Zb (ZX q.Zk q.Zb)=true):ZjL m q sizes=some (I (opt m q sizes).Zv,[]) :=
 ZbO.2.2.2 _ _ _ _ (.inr ⟨_,_,_,_,ZQh b ha hc,rfl⟩)
def ZQj{m:Zn}{q:Zf}{l:V6}(hl:l.length<=4294967296)(h:Wt l=true)(b:VO m q (Vo l))(ha:Vf m)(hc:Wp q.Zk q.Zb (ZX q.Zk q.Zb)=true):ZnY m q l=some (I (opt m q (Vo l)).Zv,[]):=by
 simp_all [ZOD,WY.1.1.1.1,ZQi]
def ZBY{l:V6}(h:Wt l=true):l.length<=16:=by
 simp only[Wt,Yg,decide_eq_true_eq]at h;omega
def ZQk{a:Int}(h:0<=a/\a<=7):inR (Xt a) 0 4096=true:=by
 have:a=0\/a=1\/a=2\/a=3\/a=4\/a=5\/a=6\/a=7:=by omega
 rcases this with rfl|rfl|rfl|rfl|rfl|rfl|rfl|rfl<;>decide
theorem ZBZ{m:Zn}(hm:LeM m)(ha:Vf m){q:Zf}(hq:LeQ q)(hv:Z9 q.Zk q.Zb=true){l:V6}(h:Wt l=true)(hl:(l.length:Int)=ZX q.Zk q.Zb+1):VO m q (Vo l):=by
 have hll:(l.length:Int)<=16:=by simp only[Wt,Yg,decide_eq_true_eq]at h;exact h.2
 have hc:=ZPw h;refine⟨hm,ha.2.1,hq,hv,by simp[Vo];omega,hc,?_⟩;unfold VM Zch;rw[hv]
 have:(Vo l).all (λx=>inR x 0 4096)=true:=by
  rw[Yl];intro s hs;obtain⟨a,h1,rfl⟩:=hc s hs;exact ZQk h1
 rw[this];simp[Vo,hl]
def ZQl(n:Int):KZ n=some (I (Vt n),[]):=by
 apply XI.2.2.2.1;unfold Vt;by_cases h0:n<0
 .simp_all
 rw[Yb h0,Yb h0];apply XI.2.2.1.2;rw[Ya (by decide)];refine⟨_,VI _,?_⟩;rw[show Xt 0=0 from by decide];by_cases h1:n<=0
 .simp_all
 rw[Yb h1,Yb h1,show w (0+1)=1 from by decide];apply XI.2.2.1.2;rw[Ya (by decide)];refine⟨_,VI _,?_⟩;rw[show Xt 1=1 from by decide];by_cases h1:n<=1
 .simp_all
 rw[Yb h1,Yb h1,show w (1+1)=2 from by decide];apply XI.2.2.1.2;rw[Ya (by decide)];refine⟨_,VI _,?_⟩;rw[show Xt 2=4 from by decide];by_cases h1:n<=4
 .simp_all
 rw[Yb h1,Yb h1,show w (2+1)=3 from by decide];apply XI.2.2.1.2;rw[Ya (by decide)];refine⟨_,VI _,?_⟩;rw[show Xt 3=16 from by decide];by_cases h1:n<=16
 .simp_all
 rw[Yb h1,Yb h1,show w (3+1)=4 from by decide];apply XI.2.2.1.2;rw[Ya (by decide)];refine⟨_,VI _,?_⟩;rw[show Xt 4=64 from by decide];by_cases h1:n<=64
 .simp_all
 rw[Yb h1,Yb h1,show w (4+1)=5 from by decide];apply XI.2.2.1.2;rw[Ya (by decide)];refine⟨_,VI _,?_⟩;rw[show Xt 5=256 from by decide];by_cases h1:n<=256
 .simp_all
 rw[Yb h1,Yb h1,show w (5+1)=6 from by decide];apply XI.2.2.1.2;rw[Ya (by decide)];refine⟨_,VI _,?_⟩;rw[show Xt 6=1024 from by decide];by_cases h1:n<=1024
 .simp_all
 rw[Yb h1,Yb h1,show w (6+1)=7 from by decide];apply XI.2.2.1.2;rw[Ya (by decide)];refine⟨_,VI _,?_⟩;rw[show Xt 7=4096 from by decide];by_cases h1:n<=4096
 .simp_all
 rw[Yb h1,Yb h1,show w (7+1)=8 from by decide];simp[XI.2.2.1.2]
def ZQm(xs:V6)(hl:xs.length<=1000):∀i,i<=xs.length->Zj0 ((xs.take i).map Vt) xs xs.length i=some (.own 0,[.arr 3 1 true ((xs.map Vt).map ic)]):=by
 refine down _ ?_ ?_
 .simp[Vv.1.2.1,Y2]
 .intro i hi ih;apply Vv.1.2.1;rw[Ypx,wS hi (by omega)];refine⟨by omega,_,gE hi,_,ZpN _,by simp;omega,?_⟩
  grind [List.take_succ_eq_append_getElem]
def ZCa(xs:V6)(hl:xs.length<=1000):∀i,i<=xs.length->Zlh ((xs.take i).map Vt) xs i=some (.own 0,[.arr 3 1 true ((xs.map Vt).map ic)]):=by
 refine down _ ?_ ?_
 .apply Wn.1.2.1.1;simp
 .intro i hi ih;apply Wn.1.2.1.1;rw[Ypx,wS hi (by omega)];refine⟨by omega,_,gE hi,_,ZQl _,by simp;omega,?_⟩
  grind [List.take_succ_eq_append_getElem]
def Zeu:Prop:=∀xs:V4,xs.length<=4096->(∀r∈xs,r.length<=4)->∃ys:V4,Z0B xs ys/\ys.Nodup/\(∀y,y∈ys↔y∈xs)/\ys.length<=xs.length/\ys.Pairwise λa b=>leR a b=true
def Zev:Prop:=∀n:Int,1<=n->n<=4->Zt1 ([(-1)]) n=some (.own 0,[.arr 3 1 true ((List.replicate n.toNat (-1:Int)).map ic)])
def Z1u(hS:Zeu)(hR:Zev){d:Zp}(hd:LeD d){q:Zf}(hq:LeQ q)(hf:Xp d q=true){m:Int}(hm:MQ q.Zb m):∃ys:V4,Zfl d q m=some (.agg [.own 0,.own 1],[.arr 3 1 true ((XG q m).map ic),.arr 40 1 true (ys.map isc)])/\ys=ZaR d q m/\ys.length<=4096:=by
 have hf':=hf;unfold Xp at hf';simp only[Yg,Yl]at hf';obtain⟨hv,hfo⟩:=hf';have h4:=Wg hv;have hn:=U2 hv;have h16:=(hm.m16 hv).1;have hinv:=ZpR d m q.Zk.toNat q.Zb 0 [List.replicate q.Zk.toNat (-1)] hfo (by simp);have hp:8 ^ q.Zb.length<=4096:=Yr (Nat.pow_le_pow_right (by omega) h4.2) (by decide);have hE:(ZlF d q m).length<=4096:=by
  have:=hinv.2;simp only[List.length_singleton,Nat.mul_one]at this;exact Yr this hp
 have hvl:=Zce q hv m
 obtain⟨ys,hs,hnd,hmem,hle,hsr⟩:=hS (Zcc d q m) (by unfold Zcc;rw[Y1];exact hE) (by
  intro r hr;unfold Zcc at hr;obtain⟨x,_,rfl⟩:=Yt.1 hr;show(Xq x (XG q m)).length<=4;unfold Xq
  rw[Y1];omega)
 refine⟨ys,WQ.2.2.1.1 _ _ _ _ ⟨_,ZgZ q m hq hv,_,hR _ hn.1 hn.2,?_⟩,ZOS d q hf m h16 ys hnd hmem hsr,Yr hle (by unfold Zcc;rw[Y1];exact hE)⟩
 have hav:∀a∈q.Zb,Le a.Za/\(∀v∈a.Za,0<=v/\v<(q.Zk.toNat:Nat))/\WZ d a=true:=λa ha=>⟨hq.2 a ha,λv hv1=>by
  have:=Zc3 hv a ha v hv1;simp only[inR,Yg,decide_eq_true_eq]at this
  omega,hfo a ha⟩
 refine l_ev3 d hd (XG q m) m q.Zb _ q.Zk.toNat (by omega) hav h4.2 0 (Yc _) [List.replicate q.Zk.toNat (-1)] (by simp) (by simp) ?_;rw[Ym];refine x_ev4 (XG q m) (ZlF d q m) ys q.Zk.toNat (by omega) (by omega) ?_ hinv.1 hE hs;intro c hc;exact((Z0L d q hfo m c).1 hc).1
def ZaU(f:Int->Int):V6->V6->V6
 |[],out=>out
 |M::ms,out=>ZaU f ms (out.set M.toNat (f M))
def Zqk(f:Int->Int):∀ms out,(ZaU f ms out).length=out.length
 |[],_=>rfl
 |M::ms,out=>by rw[ZaU,Zqk,Ybm]
def ZCb(f:Int->Int):∀(ms out:V6),(∀M∈ms,0<=M/\M<out.length)->∀u:Int,0<=u->gi (ZaU f ms out) u=if u∈ms then f u else gi out u
 |[],out,_,u,_=>by simp[ZaU]
 |M::ms,out,h,u,hu=>by
  have hM:=h M (by simp);rw[ZaU,ZCb f ms _ (by rw[Ybm];exact λN hN=>h N (by simp[hN])) u hu,ZAV hM hu]
  grind
def Zh4(d:Zp)(q:Zf)(m:Int):Int:=((ZaR d q m).length:Int)
def szN(q:Zf):Nat:=2 ^ q.Zb.length
def Zql(q:Zf):(2:Int) ^ q.Zb.length=(szN q:Int):=by unfold szN;simp
def Zh5{q:Zf}(hv:Z9 q.Zk q.Zb=true):ZX q.Zk q.Zb=(szN q:Int)-1/\szN q<=16/\2<=szN q:=by
 have h4:=Wg hv;refine⟨by rw[QT hv,Zql],Yr (Nat.pow_le_pow_right (by omega) h4.2) (by decide),?_⟩;exact Yr (show 2<=2 ^ 1 by decide) (Nat.pow_le_pow_right (by omega) h4.1)
def Q4(d:Zp)(q:Zf):V6:=(List.range (szN q)).map λm:Nat=>if Wp q.Zk q.Zb m=true then Zh4 d q m else 0
def Zh6(d:Zp)(q:Zf):(Q4 d q).length=szN q:=by simp[Q4]
def ZCc(d:Zp)(q:Zf){i:Nat}(h:i<(Q4 d q).length):(Q4 d q)[i]=if Wp q.Zk q.Zb i=true then Zh4 d q i else 0:=by simp[Q4]
def Z1v{q:Zf}(hv:Z9 q.Zk q.Zb=true){m:Int}(h0:0<=m):Wp q.Zk q.Zb m=true↔m∈ZJ q.Zb:=by
 have:=QT hv;unfold Wp;rw[JT,hv];simp only[Yg,decide_eq_true_eq,inR,true_and,this]
 grind
def ZQn(hS:Zeu)(hR:Zev){d:Zp}(hd:LeD d){q:Zf}(hq:LeQ q)(hf:Xp d q=true):Zf5 d q=some (.own 0,[.arr 3 1 true ((Q4 d q).map ic)]):=by
 have hf':=hf;unfold Xp at hf';simp only[Yg,Yl]at hf';obtain⟨hv,hfo⟩:=hf';obtain⟨hfe,hp,hp2⟩:=Zh5 hv;have hp':=Zql q;have hw:w (ZX q.Zk q.Zb+1)=(szN q:Int):=by
  grind [ZL]
 have hc15:=ZlN hv;have hcm:∀M∈ZJ q.Zb,0<=M/\M<(szN q:Int):=λM hM=>by
  grind [JT]
 have hloop:∀i,i<=(ZJ q.Zb).length->∀out:V6,out.length=szN q->Zf6 d q out (ZJ q.Zb) (ZJ q.Zb).length i=some (.own 0,[.arr 3 1 true ((ZaU (Zh4 d q) ((ZJ q.Zb).drop i) out).map ic)]):=by
  refine down _ ?_ ?_
  .intro out ho;apply Vv.1.1.2.2;rw[Ynx,Yk];rfl
  .intro i hi ih out ho;have hM:=hcm _ (Ye hi);apply Vv.1.1.2.2;rw[Ypx,wS hi (by omega)];obtain⟨ys,h1,h2,h3⟩:=Z1u hS hR hd hq hf (m:=(ZJ q.Zb)[i]) ⟨hM.1,by rw[hp'];exact hM.2⟩;refine⟨by omega,_,gE hi,_,_,h1,hM.1,_,gD (by omega),?_⟩;rw[Yi hi,ZaU,h2];exact ih _ (by rw[Ybm];exact ho)
 have hfin:ZaU (Zh4 d q) (ZJ q.Zb) (List.replicate (szN q) 0)=Q4 d q:=by
  refine Ybz (by rw[Zqk,Zh6];simp) λi h1 h2=>?_
  have h3:=ZCb (Zh4 d q) (ZJ q.Zb) (List.replicate (szN q) 0) (by rw[Yci];exact hcm) i (by omega);rw[Zqk,Yci]at h1;unfold gi at h3;rw[Yh]at h3;rw[Yb1,Yf (by rw[Zqk,Yci];exact h1),Yb1,List.getElem?_replicate,Ya h1]at h3
  simp_all [Option.getD_some,ZCc,Z1v]
 refine ZLw ⟨_,ZbS d hd q hq,?_⟩;rw[hf,Ya rfl];refine⟨_,Je q hq,?_⟩;rw[hw];have hr:room=140737488355328:=rfl;refine⟨by omega,by omega,by rw[hr,Yh];omega,by omega,_,ZAO q hq hv,?_⟩
 grind
def ZQo{d:Zp}(hd:LeD d){q:Zf}(hq:LeQ q)(hf:Xp d q=true):Zlf d q=some (.own 0,[.arr 3 1 true ((Q4 d q).map ic)]):=by
 have hf':=hf;unfold Xp at hf';simp only[Yg,Yl]at hf';obtain⟨hv,hfo⟩:=hf';obtain⟨hfe,hp,hp2⟩:=Zh5 hv;have hp':=Zql q;have hloop:∀i,i<=szN q->ZgE d q ((Q4 d q).take i) i=some (.own 0,[.arr 3 1 true ((Q4 d q).map ic)]):=by
  have hsl:=Zh6 d q;refine down _ ?_ ?_
  .refine Wn.1.1.2.1 _ _ _ _ _ ⟨_,Qu q hq,?_⟩
   grind
  .intro i hi ih;refine Wn.1.1.2.1 _ _ _ _ _ ⟨_,Qu q hq,?_⟩;rw[Ypx];refine⟨_,ZaH d hd q hq,?_⟩;rw[hf,Ya rfl,wS hi (by omega)];refine⟨_,ZpX q hq _,?_⟩;rw[Yp (by omega)]at ih;rw[ZCc]at ih;rcases tf (Wp q.Zk q.Zb i)with e|e
   .grind
   .have hmc:=JT.1 ((Z1v hv (by omega)).1 e);rw[e]at ih|-;rw[Ya rfl]at ih|-;exact⟨_,ZOM d hd q hq hf i hmc.1 ⟨by omega,hmc.2.1⟩ (by omega),by rw[Ybo];omega,ih⟩
 have:=hloop 0 (Yc _)
 simp_all [Wn.1.1.2.2]
def ZaV(d:Zp)(q:Zf):V6:=(Q4 d q).map Vt
def ZQp(hS:Zeu)(hR:Zev){d:Zp}(hd:LeD d){q:Zf}(hq:LeQ q)(hf:Xp d q=true)(c:szN q<=16):Zj1 d q=some (.own 0,[.arr 3 1 true ((ZaV d q).map ic)]):=by
 refine Vv.1.2.2.2 _ _ _ (.inr ⟨_,ZQn hS hR hd hq hf,_,?_,rfl⟩);have:=ZQm (Q4 d q) (by rw[Zh6];omega) 0 (Yc _);exact Vv.1.2.2.1 _ _ this
def ZQq{d:Zp}(hd:LeD d){q:Zf}(hq:LeQ q)(hf:Xp d q=true)(c:szN q<=16):Zlg d q=some (.own 0,[.arr 3 1 true ((ZaV d q).map ic)]):=by
 refine Wn.1.2.1.2 _ _ _ ⟨_,ZQo hd hq hf,?_⟩;exact ZCa (Q4 d q) (by rw[Zh6];omega) 0 (Yc _)
theorem ZCd{n:Int}(h0:0<=n)(h1:n<=4096):inR (Vt n) 0 7=true:=by
 unfold Vt;rw[Ynx]
 repeat' split
 all_goals first|rfl|(exfalso;omega)
def ZCe(hS:Zeu)(hR:Zev){d:Zp}(hd:LeD d){q:Zf}(hq:LeQ q)(hf:Xp d q=true):Wt (ZaV d q)=true/\((ZaV d q).length:Int)=ZX q.Zk q.Zb+1:=by
 have hf':=hf;unfold Xp at hf';simp only[Yg,Yl]at hf';obtain⟨hv,hfo⟩:=hf';obtain⟨h1,h2,h3⟩:=Zh5 hv;have hl:(ZaV d q).length=szN q:=by unfold ZaV;rw[Y1,Zh6]
 refine⟨?_,by omega⟩;unfold Wt J6;simp only[Yg,decide_eq_true_eq,Yl];refine⟨λx hx=>?_,by omega⟩;obtain⟨n,hn,rfl⟩:=Yt.1 hx;unfold Q4 at hn;obtain⟨m,hm,rfl⟩:=Yt.1 hn;split
 .rename_i e;have hmc:=JT.1 ((Z1v hv (by omega)).1 e);obtain⟨ys,_,g0,g2⟩:=Z1u hS hR hd hq hf (m:=(m:Int)) ⟨by omega,hmc.2.1⟩;have g1:=congrArg List.length g0;unfold Zh4
  grind [ZCd]
 .simp[ZCd]
open Classical in
noncomputable def ocV(m:Zn)(d:Zp)(q:Zf):Int:=if Xp d q=true/\Wp q.Zk q.Zb (ZX q.Zk q.Zb)=true/\Vf m then(opt m q (Vo (ZaV d q))).Zv else -1
open Classical in
def ZQr(hS:Zeu)(hR:Zev){m:Zn}(hm:LeM m){d:Zp}(hd:LeD d){q:Zf}(hq:LeQ q):ZjM m d q=some (I (ocV m d q),[]):=by
 have hO:Zjz m d q=some (Bo (Xp d q && (Wp q.Zk q.Zb (ZX q.Zk q.Zb) && decide (Vf m))),[]):=by
  refine ZdZ.2.2 _ _ _ _ ⟨_,ZbS d hd q hq,?_⟩;rcases tf (Xp d q)with e|e
  .simp_all
  rw[e,Ya rfl];refine⟨_,Je q hq,_,Z0E q hq _,?_⟩;rcases tf (Wp q.Zk q.Zb (ZX q.Zk q.Zb))with e2|e2
  .simp_all
  grind [Zpu]
 refine WY.1.1.1.2 _ _ _ _ ⟨_,hO,?_⟩;unfold ocV;by_cases h:Xp d q=true/\Wp q.Zk q.Zb (ZX q.Zk q.Zb)=true/\Vf m
 .rw[Ya (by simp[h.1,h.2.1,h.2.2]),Ya h];have hf':=h.1;unfold Xp at hf';simp only[Yg,Yl]at hf';obtain⟨h1,h2,h3⟩:=Zh5 hf'.1;obtain⟨l1,l2⟩:=ZCe hS hR hd hq h.1;exact⟨_,ZQp hS hR hd hq h.1 h2,_,ZQj (by omega) l1 (ZBZ hm h.2.2 hq hf'.1 l1 l2) h.2.2 h.2.1,rfl⟩
 .simp_all
theorem ZQs{m:Zn}{q:Zf}{l:V6}(h:Wt l=true)(bb:VO m q (Vo l))(hm:LeM m)(ha:Vf m)(hc:Wp q.Zk q.Zb (ZX q.Zk q.Zb)=true):Zlw m q l=some (I (opt m q (Vo l)).Zv,[]):=by
 have l1:=ZBY h;have hs:=ZAS l (by omega);rw[h,Ya rfl]at hs;have hl:=ZlO bb (Yj (ZJ q.Zb).length);obtain⟨fr,ht⟩:=ZQb bb;have hsv:=ZPb q bb.hq (Vo l) (by simp[Vo];omega)
 have hT:=WB.2.1.1.1 (Vo l) m q _ ⟨_,Zhi m hm,by
  rw[Ya (by simp[ha])]
  exact⟨_,hsv,by rw[bb.hsv,Ya rfl];exact⟨_,ZPZ q bb.hq bb.hv,_,_,ht,rfl⟩⟩⟩
 have hB:=WB.2.1.2.1 (Vo l) m q _ (.inl ⟨_,_,_,hT,_,Qu q bb.hq,.inr ⟨_,_,_,_,ZQf _ _ (by omega) (ZBX bb hc).ne (Z1t bb (Yj _)),rfl⟩⟩);have hC:=WB.2.1.2.2 (Vo l) m q _ (.inr ⟨_,_,_,_,_,hB,rfl⟩);exact WB.2.2.1.1 _ _ _ _ ⟨_,hs,_,_,hC,rfl⟩
theorem ZQt{m:Zn}{q:Zf}{l:V6}(hq:LeQ q)(h:Wt l=true)(hm:LeM m)(ha:¬Vf m):Zlw m q l=some (I (-1),[]):=by
 have l1:=ZBY h;have hs:=ZAS l (by omega);rw[h,Ya rfl]at hs
 have hT:=WB.2.1.1.1 (Vo l) m q _ ⟨_,Zhi m hm,by
  rw[Yb (by simp[ha])]⟩
 have hE:∀M,ZbL ([]:List Zd) M=some (.tup [.agg [I 0,I 0,I 0,.t .nil],Bo false],[]):=by
  grind [WB.2.1.1.2,Ue.2.1.1,Ue.1.2.2.2]
 have hB:=WB.2.1.2.1 (Vo l) m q _ (.inl ⟨_,_,_,hT,_,Qu q hq,.inl ⟨_,_,_,hE _,rfl⟩⟩)
 grind [WB.2.1.2.2,WB.2.2.1.1]
def ZQu(n:Int)(qa:List Ze):0<=ZX n qa:=by
 rcases tf (Z9 n qa)with e|e
 .unfold ZX;rw[e,Yb (by simp)];decide
 .have:=ZmM e;omega
def ZQv(hS:Zeu)(hR:Zev){m:Zn}(hm:LeM m){d:Zp}(hd:LeD d){q:Zf}(hq:LeQ q):Zlx m d q=some (I (ocV m d q),[]):=by
 unfold ocV;rcases tf (Xp d q)with e|e
 .rw[Yb (by simp[e])];have hT:Zlf d q=some (.own 0,[.arr 3 1 true (([]:V6).map ic)]):=by
   refine Wn.1.1.2.2 _ _ _ (Wn.1.1.2.1 _ _ _ _ _ ⟨_,Qu q hq,?_⟩);have:=ZQu q.Zk q.Zb;rw[Ypx];refine⟨_,ZaH d hd q hq,?_⟩;rw[e,Yb (by simp)]
  refine WB.2.2.1.2 _ _ _ _ ⟨_,Wn.1.2.1.2 _ _ _ ⟨_,hT,ZCa [] (by simp) 0 (Yc _)⟩,?_⟩;rw[Ya (by simp)]
 .have hf':=e;unfold Xp at hf';simp only[Yg,Yl]at hf';obtain⟨h1,h2,h3⟩:=Zh5 hf'.1;obtain⟨l1,l2⟩:=ZCe hS hR hd hq e;have hl:(ZaV d q).length=szN q:=by unfold ZaV;rw[Y1,Zh6]
  refine WB.2.2.1.2 _ _ _ _ ⟨_,ZQq hd hq e h2,?_⟩;rw[Ynx];refine⟨_,Qu q hq,_,ZpX q hq _,?_⟩;rcases tf (Wp q.Zk q.Zb (ZX q.Zk q.Zb))with e2|e2
  .simp_all
  .grind [ZQs,ZBZ,ZQt]
def Z1w:Zeu:=by
 intro xs h1 h2;have p:=Zhr xs;have l1:(VF xs).length=xs.length:=p.length_eq;have l2:=Z0s (VF xs);have h3:∀r∈VF xs,r.length<=4:=λr hr=>h2 r (p.mem_iff.1 hr)
 refine⟨WV (VF xs),⟨?_,?_⟩,Z0t _ (ZpD xs),λy=>(ZlC _ y).trans p.mem_iff,by omega,(Z03 (ZpD xs)).imp λh=>by unfold leR;simp;omega⟩
 .exact Jc.1.2.1 _ _ ⟨_,Zpw xs h2 (by omega),_,Z0u h1 h2,_,Z0v (by omega) h3,rfl⟩
 .intro e;subst e;exact WQ.1.2.2.1 _ ⟨[],WQ.1.2.1.2 _ (WQ.1.2.1.1 _ _ _ _ (by rw[Ynx])),_,Z0u (rows:=[]) (by simp) (by simp),_,Z0v (rows:=VF []) (by simp[VF]) (by simp[VF]),rfl⟩
def hRep:Zev:=λn h1 h4=>c_rep h1 h4
