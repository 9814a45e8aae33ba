/-
  Parts of the proofs for this seat: LI LJ LK LL LM LN LO LP LR LT LU LW LX LY.
-/
import Derived.Test.YtggcnlojfngdeaaGreatP28
set_option linter.all false
set_option maxRecDepth 100000
set_option maxHeartbeats 4000000
namespace Go.Proofs.YtggcnlojfngdeaaGreat
open Go.AM
noncomputable section
theorem ZL2{a b c:WL}(h1:Xq a b<0)(h2:Xq b c<0):Xq a c<0:=by
 grind [lN,Int.lt_or_eq_of_le,Kl,Nc]
def Z9Y:∀{l:XV} {p:Option (WL)},Km lO p l=true->Gi l/\∀q,p=some q->∀x∈l,Xq q x<0
 |[],p,_=>⟨List.Pairwise.nil,λq _ x hx=>by cases hx⟩
 |a::l,p,h=>by
  simp only[Km,Yd]at h;obtain⟨h1,h2⟩:=Z9Y h.2;have h3:=h2 a rfl;refine⟨Y9.2 ⟨h3,h1⟩,λq hq x hx=>?_⟩;subst hq;have h4:Xq q a<0:=by simpa[BL,lO]using h.1
  grind [ZL2]
def Z9Z{t:Zm}(h:Xb t=true):H1 t.Rows=t.Rows:=by
 unfold Xb at h;simp only[Yd]at h;exact Zp9 (Zz7 _) (Z9Y h.2.2).1 λx=>ZpA _ _
def S8(n:Int):WL:=if n=1 then[0]else if n=2 then[0,1]else[0,1,2]
def ZAa{t:Zm}(h:Xb t=true){r:WL}(hr:r∈t.Rows):(r.length:Int)=t.Arity:=by
 unfold Xb at h;simp only[Yd]at h;have h1:=Yn.1 h.2.1 r hr;unfold Ge at h1
 simp_all
def ZL3{n:Int}(h:Ak n 1 3=true){r:WL}(hr:(r.length:Int)=n):XI r (S8 n)=r:=by
 have h':=ZM.1 h
 match r with
 |[a] =>
  obtain rfl:n=1:=by simpa using hr.symm
  rfl
 |[a,b] =>
  obtain rfl:n=2:=by simpa using hr.symm
  rfl
 |[a,b,c] =>
  obtain rfl:n=3:=by simpa using hr.symm
  rfl
 |[]=>simp at hr;omega
 |_::_::_::_::_=>simp at hr;omega
def ZL4{t:Zm}(h:Xb t=true):Gm t.Rows (S8 t.Arity)=t.Rows:=by
 unfold Gm
 have:XR t.Rows (S8 t.Arity)=t.Rows:=by
  unfold XR;refine(DU λr hr=>ZL3 (VE h) (ZAa h hr)).trans (List.map_id _)
 rw[this,Z9Z h]
def ZL5{t:Zm}(h:Xb t=true):(ZJ t).Groups[((((ZJ t).Groups.length:Int)-1)).toNat]?=some (grp t.Rows (S8 t.Arity)):=by
 have h':=ZM.1 (VE h)
 have:t.Arity=1\/t.Arity=2\/t.Arity=3:=by omega
 unfold ZJ Vp S8;rcases this with e|e|e<;>simp[e]
def ZL6{t:Zm}(h:Xb t=true):0<(ZJ t).Groups.length/\(ZJ t).Groups.length<=7:=by
 have:=S0 (VE h);simpa[ZJ]using this
def ZzM{t:Zm}(hT:Xb t=true):DQ (ZJ t):=by
 have h7:=S0 (VE hT);have h8:=KE hT;refine⟨by simp[ZJ];omega,λg hg=>?_⟩;obtain⟨c,hc,rfl⟩:=Yp.1 hg;have hc3:=(ZzE (VE hT) c hc).1;have hg:=ZzF t.Rows c;refine⟨by simp only[grp];omega,⟨by simp only[grp];omega,λr hr=>?_⟩,by simp only[grp,H5,Dy];omega⟩;have:=Z9G hr;omega
def row4{t:Zm}(h:Xb t=true):∀r∈t.Rows,r.length<=4:=λr hr=>by
 have:=ZAa h hr
 grind [ZM,VE]
def Abx{t:Zm}(h:Cn t)(hv:Xb t=true)(a:V5)(b:Int):∀i,i<=t.Rows.length->∀acc:XV,acc.length<=i->(∀x∈acc,x.length<=4)->H2 acc (t.Rows.drop i)=t.Rows->dK a b t.Name t.Arity acc t.Rows i=some (.tup [.agg [.t (.str t.Name),I t.Arity,.own 0],Bo true],[.arr 44 1 true (t.Rows.map AA)]):=by
 have h8:=KE hv;refine down _ ?_ ?_
 .intro acc ha h4 he;apply Wa.2.1.1.2;rw[Ym]at he;have he:acc=t.Rows:=he;subst he;rw[Ap];have:=Zpy t h
  simp_all
 .intro i hi ih acc ha h4 he;apply Wa.2.1.1.2;rw[Yh hi]at he;have hr4:=row4 hv _ (Ye hi);have hp:=ZpC acc t.Rows[i] false;rw[Ao,Ao,wS hi Z];refine⟨Z,_,gE hi,_,Z9x Z h4 hr4,ih _ Z (λx hx=>?_) he⟩
  grind [SQ]
def ZL7(row:WL)(hr:row.length<=4):G9 row=some (.own 0,[.arr 44 1 true ((WO [] row false).map AA)]):=by
 apply Xz.2.1.2.1;apply Xz.2.1.1.2;simp[WO];omega
def ZL8{t:Zm}(hv:Xb t=true):Ha t.Name t.Arity=some (Bo true,[]):=by
 unfold Xb at hv
 simp_all [Yd,Xn.2.2.2.2.2,Zzf,ZH,Xn.2.2.2.2.1]
def NR{t:Zm}(h:Cn t)(hv:Xb t=true):xA t.Name t.Arity t.Rows=some (.tup [.agg [.t (.str t.Name),I t.Arity,.own 0],Bo true],[.arr 44 1 true (t.Rows.map AA)]):=by
 have h8:=KE hv;apply Wa.2.1.2.1;apply Wa.2.1.1.1;have hp:=Z90 t.Rows;rw[Z9Z hv]at hp;by_cases h0:t.Rows=[]
 .simp_all [ZL8]
 .have hl:0<t.Rows.length:=Y4.2 h0;rw[Ao,show w (0+1)=((0+1:Nat):Int) by decide];have hr4:=row4 hv _ (Ye hl);refine⟨Z,_,gE (i:=0) hl,_,ZL7 _ hr4,Abx h hv _ _ (0+1) Z _ ?_ ?_ ?_⟩
  .exact ZpC [] _ _
  .simp_all [SQ]
  .have e:t.Rows=t.Rows[0]::t.Rows.drop (0+1):=by
    have:=Yh hl
    rwa [Yq]at this
   rw[e]at hp;exact hp.trans e.symm
def nV{t:Zm}(h:Cn t)(hv:Xb t=true):xC (ZJ t)=some (.tup [.agg [.t (.str t.Name),I t.Arity,.own 0],Bo true],[.arr 44 1 true (t.Rows.map AA)]):=by
 have h7:=ZL6 hv;apply Wa.2.1.2.2;rw[Ap,ZP (x:=((ZJ t).Groups.length:Int)-1) ⟨Z,Z⟩];refine⟨Z,_,ZL5 hv,_,_,_,_,?_,rfl⟩;rw[show(grp t.Rows (S8 t.Arity)).Values=t.Rows from ZL4 hv];exact NR h hv
theorem ZzN{t:Zm}(h:Cn t)(hv:Xb t=true):FR (ZJ t)=some (Bo true,[]):=by
 refine Wa.2.2.1.1 _ _ ⟨_,_,_,_,nV h hv,?_⟩;rw[Ya rfl];refine⟨_,ZzH h hv,true,?_,rfl⟩;have:=Z9R (ZJ t) (ZJ t) (ZzM hv) (ZzM hv)
 simp_all
def Qr(t:Zm)(cols:WL):WL:=(SL (H5 t.Rows cols)).reverse
theorem ZAb(rows:XV)(cols:WL):(H5 rows cols).length<=rows.length:=by
 unfold H5;rw[Dy];exact ZzF rows cols
theorem ZL9(l:WL):(SL l).length=l.length:=(rI _ _).length_eq
def ZzO(x:Int):∀(out:WL) (k:Nat),k<=out.length->(∀z∈out.drop k,z<x)->(k=0\/¬out.getD (k-1) 0<x)->out.take k++[x]++out.drop k=U2 x out
 |[],k,hk,_,_=>by
  have:k=0:=by simpa using hk
  subst this;rfl
 |y::ys,k,hk,h1,h2=>by
  unfold U2
  cases k with
  |zero =>
   rw[Yq]at h1;rw[Ya ⟨h1 y Om,λz hz=>h1 z (by simp[hz])⟩]
   rfl
  |succ k =>
   have hn:¬(y<x/\∀z∈ys,z<x):=by
    rintro⟨c1,c2⟩;rcases h2 with h2|h2
    .omega
    .apply h2;rw[Ydc]
     cases k with
     |zero=>exact c1
     |succ k =>
      have hk':k<ys.length:=by simp at hk;omega
      have:(y::ys).getD (k+1) 0=ys[k]:=by rw[List.getD_cons_succ,DZ,Yf hk'];rfl
      rw[this];exact c2 _ (Ye hk')
   rw[Yb hn]
   have:=ZzO x ys k (by simpa using hk) (by simpa using h1) (by
    cases k with
    |zero=>exact .inl rfl
    |succ k =>
     right;rcases h2 with h2|h2
     .omega
     .simpa using h2)
   rw[<-this];rfl
def ZLA(x:Int)(l:WL):(U2 x l).length=l.length+1:=by simpa using(Zp3 x l).length_eq
def ZLB{l out:WL}{i:Nat}(hi:i<l.length)(ho:out.length<=1000)(res:XS)(cc:FS (U2 l[i] out) l (w ((i:Int)+1))=some res):∀k,k<=out.length->(∀z∈out.drop k,z<l[i])->LK out l i k=some res:=by
 intro k
 induction k with
 |zero =>
  intro hk hz;apply Z8g;rw[Ap];have e:=ZzO l[i] out 0 hk hz (.inl rfl)
  grind
 |succ k ih =>
  intro hk hz;have hk':k<out.length:=by omega
  apply Z8g;have hw:w (((k+1:Nat):Int)-1)=(k:Int):=by rw[ZP ⟨Z,Z⟩];omega
  rw[Ao,hw];refine⟨Z,_,H3 hk',Z,_,gE hi,?_⟩;by_cases c:out.getD k 0<l[i]
  .grind [List.drop_eq_getElem_cons,Ny]
  .rw[Yb c];have e:=ZzO l[i] out (k+1) hk hz (.inr (by rw[Ydc];exact c))
   grind
def ZLC(l:WL)(hl:l.length<=500):∀i,i<=l.length->∀out:WL,out.length<=i->FS out l i=some (.own 0,[.arr 3 1 true (((l.drop i).foldl (λo x=>U2 x o) out).map ic)]):=by
 refine down _ ?_ ?_
 .simp[Wq.1.2.2.2.2,Ym]
 .intro i hi ih out ho;apply Wq.1.2.2.2.2;rw[Ao,Yh hi];exact ZLB hi Z _ (by rw[wS hi Z];exact ih _ (by rw[ZLA];omega)) out.length (Yk _) Om
def NS{l:WL}(hl:l.length<=500):xW l=some (.own 0,[.arr 3 1 true ((SL l).reverse.map ic)]):=by
 have:=ZLC l hl 0 (Yc _) [] Om;apply Wq.2.1.1.1;rw[<-Nj];exact this
def ZLD(rows:XV):Gm rows []=if rows=[]then[]else[[]]:=by
 unfold Gm;refine Zp9 (Zz7 _) ?_ λx=>?_
 .split
  .exact List.Pairwise.nil
  .simp
 .rw[ZpA];unfold XR
  cases rows with
  |nil=>simp
  |cons r rows=>simp[XI]
def ZLE(rows:XV):cnt (XR rows []) []=rows.length:=by
 unfold cnt XR;rw[List.filter_eq_self.2 (by intro x hx;obtain⟨r,_,rfl⟩:=Yp.1 hx;simp[XI])];simp
def ZLF(t:Zm):Qr t []=if t.Rows=[]then[]else[(t.Rows.length:Int)]:=by
 unfold Qr H5;rw[ZLD];split
 .simp[SL]
 .rw[Yx,Dm,ZLE];simp[SL]
def ZLG{n:Int}(h:Ak n 1 3=true){cols:WL}(hc:WX n cols=true)(h0:cols≠[]):cols∈Vp n:=by
 have h':=ZM.1 h;have hl:=ZzG hc Z;have hn:n=1\/n=2\/n=3:=by omega
 match cols,h0 with
 |[a],_ =>
  simp only[WX,VD,BL,E1,Bool.and_true,ZM]at hc
  have:a=0\/a=1\/a=2:=by omega
  rcases hn with rfl|rfl|rfl<;>rcases this with rfl|rfl|rfl<;>first|decide|omega
 |[a,b],_ =>
  simp only[WX,VD,BL,E1,Bool.and_true,Yd,ZM,decide_eq_true_eq]at hc
  have:a=0\/a=1\/a=2:=by omega
  have:b=0\/b=1\/b=2:=by omega
  rcases hn with rfl|rfl|rfl<;>rcases ‹a=0\/a=1\/a=2› with rfl|rfl|rfl<;>rcases ‹b=0\/b=1\/b=2› with rfl|rfl|rfl<;>first|decide|omega
 |[a,b,c],_ =>
  simp only[WX,VD,BL,E1,Bool.and_true,Yd,ZM,decide_eq_true_eq]at hc;have e:a=0/\b=1/\c=2/\n=3:=by omega
  obtain⟨rfl,rfl,rfl,rfl⟩:=e
  decide
 |_::_::_::_::_,_=>simp at hl;omega
def Aby{t:Zm}(hv:Xb t=true){cols:WL}(c:cols.length<=3):∀i,i<=(Vp t.Arity).length->cols∈(Vp t.Arity).drop i->dQ (ZJ t) cols i=some (.own 0,[.arr 3 1 true ((Qr t cols).map ic)]):=by
 have h7:=S0 (VE hv);have h8:=KE hv;have hgl:(ZJ t).Groups.length=(Vp t.Arity).length:=by simp[ZJ]
 refine down _ ?_ ?_
 .simp
 .intro i hi ih hm;have hg:(ZJ t).Groups[((i:Nat):Int).toNat]?=some (grp t.Rows (Vp t.Arity)[i]):=by
   rw[Yj];unfold ZJ;rw[Tx,Yf hi];rfl
  have hc3:=(ZzE (VE hv) _ (Ye hi)).1;apply Wq.2.1.1.2;rw[Ao,wS hi Z];refine⟨Z,_,hg,_,Gf _ _ (by simp only[grp];omega) Z,?_⟩;rw[show(grp t.Rows (Vp t.Arity)[i]).Columns=(Vp t.Arity)[i]from rfl];by_cases e:(Vp t.Arity)[i]=cols
  .rw[Ya (by rw[<-e];exact Nd _)];have hl:=ZAb t.Rows (Vp t.Arity)[i];refine⟨_,NS (by simp only[grp];omega),?_⟩;rw[<-e];rfl
  .grind [Kl,List.drop_eq_getElem_cons]
theorem nW{t:Zm}(hv:Xb t=true){cols:WL}(hc:WX t.Arity cols=true):Ri (ZJ t) cols=some (.own 0,[.arr 3 1 true ((Qr t cols).map ic)]):=by
 have hA:=ZM.1 (VE hv);have hl:=ZzG hc Z;apply Wq.2.1.2.1;by_cases h0:cols=[]
 .subst h0;rw[Ya Om,ZLF];have e:(ZJ t).RowCount=(t.Rows.length:Int):=rfl
  simp_all
 .have:=Y4.2 h0;rw[Ap];have:=Aby hv (cols:=cols) Z 0 (Yc _) (by rw[Yq];exact ZLG (VE hv) hc h0);simpa using this
def ZzP{t:Zm}(h:Cn t)(hv:Xb t=true){cols:WL}(hc:WX t.Arity cols=true):LL (ZJ t) cols=some (.own 0,[.arr 3 1 true ((Qr t cols).map ic)]):=by
 grind [HK.1.1,ZzN,nW]
def Gq(t:Zm)(cols:WL):Int:=(Qr t cols).getD 0 0
def ZLH{t:Zm}(h:Cn t)(hv:Xb t=true){cols:WL}(hc:WX t.Arity cols=true):yA (ZJ t) cols=some (I (Gq t cols),[]):=by
 refine Wr.1.2.1.2 _ _ _ ⟨_,ZzP h hv hc,?_⟩;unfold Gq
 grind
def ZLI{t:Zm}(hv:Xb t=true){cols:WL}{x:Int}(hx:x∈Qr t cols):0<=x/\x<=8:=by
 have h8:=KE hv;unfold Qr at hx;rw[List.mem_reverse]at hx;obtain⟨g,_,rfl⟩:=Yp.1 ((rI _ _).mem_iff.1 hx);have h1:=Z9H (XR t.Rows cols) g;have h2:=Z9I (XR t.Rows cols) g
 grind [ZpK]
def ZzQ{t:Zm}(hv:Xb t=true)(cols:WL):(Qr t cols).length<=8:=by
 have h8:=KE hv;unfold Qr
 grind [List.length_reverse,ZL9,ZAb]
def ZLJ{t:Zm}(hv:Xb t=true)(cols:WL):0<=Gq t cols/\Gq t cols<=8:=by
 unfold Gq
 cases e:Qr t cols with
 |nil=>exact⟨Om,Om⟩
 |cons a l=>exact ZLI hv (cols:=cols) (by rw[e];simp)
structure Ctx (s:Zr) (q:Zc):Prop where
 le:Vq s
 lq:AS q
 st:NO s=true
 qf:SM s.Zq q=true
def Bb(q:Zc)(i:Nat):Zd:=q.Atoms.getD i ⟨⟨#[]⟩,[]⟩
def Xw(s:Zr)(q:Zc)(i:Nat):Zm:=(Wv s.Zq (Bb q i).Name).getD ⟨⟨#[]⟩,0,[]⟩
def NT{q:Zc}{i:Nat}(h:i<q.Atoms.length):q.Atoms[((i:Nat):Int).toNat]?=some (Bb q i):=by
 unfold Bb
 simp_all
def ZLK{q:Zc}{i:Nat}(h:i<q.Atoms.length):Bb q i∈q.Atoms:=by
 unfold Bb
 simp_all
section
variable{s:Zr}{q:Zc}(c:Ctx s q)
include c
theorem Ctx.vd:Wu s.Zq=true:=by
 have:=c.st;unfold NO at this
 simp_all
theorem Ctx.tabs:s.Z2.Tables=s.Zq.Tables.map ZJ:=by
 have:=c.st;unfold NO at this
 simp_all
theorem Ctx.vq:Z3 q.Zg q.Atoms=true:=by
 have:=c.qf;unfold SM at this
 simp_all
theorem Ctx.n4:1<=q.Atoms.length/\q.Atoms.length<=4:=by
 have:=WZ c.vq;omega
theorem Ctx.look{i:Nat}(h:i<q.Atoms.length):Wv s.Zq (Bb q i).Name=some (Xw s q i)/\(Xw s q i).Arity=((Bb q i).Vars.length:Int):=by
 have hq:=c.qf;unfold SM at hq;simp only[Yd]at hq;have:=Yn.1 hq.2 _ (ZLK h);unfold Zpz at this;unfold Xw
 grind
theorem Ctx.vt{i:Nat}(h:i<q.Atoms.length):Xb (Xw s q i)=true:=S3 (c.look h).1
theorem Ctx.lt{i:Nat}(h:i<q.Atoms.length):Cn (Xw s q i):=Z9S c.le.d (c.look h).1
theorem nX(n:V5):∀i,i<=s.Zq.Tables.length->∀t,(s.Zq.Tables.drop i).find? (λt=>decide (t.Name=n))=some t->dN s.Z2 ⟨#[]⟩ 0 0 n i=some (.tup [.agg [.t (.str t.Name),I t.Arity,I (t.Rows.length:Int),.own 0],Bo true],[.arr 251 3 true ((ZJ t).Groups.map ZC.c)]):=by
 have hl:s.Z2.Tables.length=s.Zq.Tables.length:=by rw[c.tabs,Dy]
 have h6:=ZzI c.vd;refine down _ ?_ ?_
 .simp
 .intro i hi ih t ht;have hg:s.Z2.Tables[((i:Nat):Int).toNat]?=some (ZJ s.Zq.Tables[i]):=by
   rw[Yj,c.tabs,Tx,Yf hi];rfl
  rw[Yh hi,List.find?_cons]at ht;have hT:=Ye hi;apply Mq.2.1;rw[Ao,wS hi Z];refine⟨Z,_,hg,?_⟩;have en:(ZJ s.Zq.Tables[i]).Name=s.Zq.Tables[i].Name:=rfl;by_cases e:s.Zq.Tables[i].Name=n
  .rw[decide_eq_true e]at ht;cases ht;rw[Ya (by rw[en];exact e)];refine⟨_,ZzN (c.le.d.2 _ hT) (HX c.vd hT),?_⟩;rw[Ya rfl];exact⟨_,_,_,_,nU _ (ZzM (HX c.vd hT)),rfl⟩
  .simp_all
theorem Ctx.find{i:Nat}(h:i<q.Atoms.length):s.Zq.Tables.find? (λt=>decide (t.Name=(Bb q i).Name))=some (Xw s q i):=by
 have:=(c.look h).1;unfold Wv at this
 rwa [Ya c.vd]at this
theorem ZLL{i:Nat}(h:i<q.Atoms.length):xM s.Z2 (Bb q i).Name=some (.tup [.agg [.t (.str (Xw s q i).Name),I (Xw s q i).Arity,I ((Xw s q i).Rows.length:Int),.own 0],Bo true],[.arr 251 3 true ((ZJ (Xw s q i)).Groups.map ZC.c)]) :=
 Mq.2.2.1 _ _ _ (nX c _ 0 (Yc _) _ (by rw[Yq];exact c.find h))
theorem NU{i:Nat}(h:i<q.Atoms.length):Q5 s q i=some (.agg [.t (.str (Xw s q i).Name),I (Xw s q i).Arity,I ((Xw s q i).Rows.length:Int),.own 0],[.arr 251 3 true ((ZJ (Xw s q i)).Groups.map ZC.c)]) :=
 Mq.2.2.2 _ _ _ _ ⟨Z,_,NT h,_,_,_,_,_,ZLL c h,rfl⟩
end
def BD(s:Zr)(q:Zc)(m:Int):Bool:=NO s && (SM s.Zq q && Ak m 1 (Z7 q.Zg q.Atoms))
def Kp{s:Zr}{q:Zc}(h:Vq s)(hq:AS q)(m:Int):VL s q m=some (Bo (BD s q m),[]):=by
 refine XZ.2.1.2.2 _ _ _ _ ⟨_,ZL1 h,?_⟩;unfold BD;rcases ft (NO s)with e|e
 .rw[e,Ya rfl,Yl];refine⟨_,ZKo _ h.d _ hq,?_⟩
  simp_all
 .simp_all
theorem nY{s:Zr}{q:Zc}(h:Vq s)(hq:AS q){m:Int}(e:BD s q m=true):Ctx s q/\1<=m/\m<2 ^ q.Atoms.length:=by
 unfold BD at e;simp only[Yd]at e;have c:Ctx s q:=⟨h,hq,e.1,e.2.1⟩;have h1:=ZM.1 e.2.2;have h2:=(Jc c.vq).2.1;unfold Z7 at h1
 grind
def VQ(vars:WL):Nat->WL->WL
 |_,[]=>[]
 |k,v::vs=>if has vars v=true then(k:Int)::VQ vars (k+1) vs else VQ vars (k+1) vs
def ZzR(c:WL)(n:Int):∀(vs:WL) (k:Nat) (p:Option Int),(∀q,p=some q->q<k)->(k:Int)+vs.length<=n->VD n p (VQ c k vs)=true
 |[],_,_,_,_=>rfl
 |v::vs,k,p,hp,hn=>by
  simp only[Yy]at hn;unfold VQ;split
  .simp only[VD,Yd];refine⟨⟨ZM.2 ⟨Z,Z⟩,?_⟩,ZzR c n vs (k+1) (some k) (λq hq=>by cases hq;omega) Z⟩
   cases p with
   |none=>rfl
   |some q=>simpa[BL,E1]using hp q rfl
  .exact ZzR c n vs (k+1) p (λq hq=>by have:=hp q hq;omega) Z
def ZLM(vars:WL){n:Int}{vs:WL}(h:n=vs.length):WX n (VQ vars 0 vs)=true:=ZzR vars n vs 0 none (λq hq=>by cases hq) Z
def nZ(a:Zd)(vars:WL)(ha:a.Vars.length<=1000)(hv:Le vars):∀i,i<=a.Vars.length->∀out:WL,out.length<=i->Rg a out vars i=some (.own 0,[.arr 3 1 true ((out++VQ vars i (a.Vars.drop i)).map ic)]):=by
 refine down _ ?_ ?_
 .intro out ho;apply Wq.1.2.2.1;rw[Ap,Ym];simp[VQ]
 .intro i hi ih out ho;apply Wq.1.2.2.1;rw[Ao,wS hi Z,Yh hi,VQ];refine⟨Z,_,gE hi,_,Qn _ _ hv,?_⟩
  grind
def ZzS{a:Zd}{vars:WL}(ha:a.Vars.length<=1000)(hv:Le vars):LI a vars=some (.own 0,[.arr 3 1 true ((VQ vars 0 a.Vars).map ic)]):=Wq.1.2.2.2.1 _ _ _ (by simpa using nZ a vars ha hv 0 (Yc _) [] Om)
def Ctx.vars3{s:Zr}{q:Zc}(c:Ctx s q){i:Nat}(h:i<q.Atoms.length):(Bb q i).Vars.length<=3:=by
 have h1:=(c.look h).2;have h2:=ZM.1 (VE (c.vt h));omega
def Ctx.cols{s:Zr}{q:Zc}(c:Ctx s q){i:Nat}(h:i<q.Atoms.length)(cc:WL):WX (Xw s q i).Arity (VQ cc 0 (Bb q i).Vars)=true:=ZLM cc (c.look h).2
def ZD(m:Int):Nat->Nat->V2
 |_,0=>[]
 |i,k+1=>if Z1 m i=true then i::ZD m (i+1) k else ZD m (i+1) k
def ZAc(m:Int):∀(k i:Nat),MX m i k=(ZD m i k).map λn:Nat=>(n:Int)
 |0,i=>rfl
 |k+1,i=>by
  rw[Z8s,ZAc m k (i+1),ZD];split<;>simp
def ZAd(m:Int):∀(a i b:Nat),ZD m i (a+b)=ZD m i a++ZD m (i+a) b
 |0,i,b=>by simp[ZD]
 |a+1,i,b=>by
  rw[show a+1+b=(a+b)+1 by omega,ZD,ZD,ZAd m a (i+1) b,show i+1+a=i+(a+1) by omega];split<;>rfl
def ZAe(m:Int):∀(k i:Nat),(∀j,i<=j->j<i+k->Z1 m j=false)->ZD m i k=[]
 |0,_,_=>rfl
 |k+1,i,h=>by
  rw[ZD,h i Z Z,Yb Sm];exact ZAe m k (i+1) λj h1 h2=>h j Z Z
set_option maxRecDepth 100000 in
def n7:∀(a:Fin 16) (n i:Fin 5),a.1<2 ^ n.1->n.1<=i.1->Z1 (a.1:Int) i.1=false:=by decide
def ZzT{m:Int}{n:Nat}(h0:0<=m)(hm:m<2 ^ n)(hn:n<=4):ZD m 0 4=ZD m 0 n:=by
 have h16:m<16:=by
  have:(2:Nat) ^ n<=2 ^ 4:=Nat.pow_le_pow_right Sm hn
  grind
 obtain⟨a,rfl⟩:=m16 ⟨h0,h16⟩;have ha:a.1<2 ^ n:=by
  grind
 have h4:ZD (a.1:Int) 0 4=ZD (a.1:Int) 0 n++ZD (a.1:Int) (0+n) (4-n):=by
  have:=ZAd (a.1:Int) n 0 (4-n)
  rwa [show n+(4-n)=4 by omega]at this
 rw[h4,ZAe (a.1:Int) (4-n) (0+n) λj h1 h2=>n7 a ⟨n,Z⟩ ⟨j,Z⟩ ha (by simpa using h1),E3]
def NV{m:Int}:∀{k i j:Nat},j∈ZD m i k->i<=j/\j<i+k/\Z1 m j=true
 |0,i,j,h=>by cases h
 |k+1,i,j,h=>by
  rw[ZD]at h;split at h
  .rcases Yz.1 h with rfl|h
   .simp_all
   .obtain⟨a,b,c⟩:=NV h;exact⟨Z,Z,c⟩
  .obtain⟨a,b,c⟩:=NV h;exact⟨Z,Z,c⟩
def NW{m:Int}{n:Nat}(h0:0<=m)(hm:m<2 ^ n)(hn:n<=4):AX m:=by
 have:(2:Nat) ^ n<=2 ^ 4:=Nat.pow_le_pow_right Sm hn
 grind
def VF(s:Zr)(q:Zc)(i:Nat):Int:=((Xw s q i).Rows.length:Int)
def ZpQ(s:Zr)(q:Zc)(l:V2)(n:Int):Int:=l.foldl (λa i=>a*VF s q i) n
def ZAf(m:Int):∀(k i:Nat),(ZD m i k).length<=k
 |0,_=>Yk _
 |k+1,i=>by
  rw[ZD];have:=ZAf m k (i+1)
  grind
def ZLN{s:Zr}{q:Zc}(c:Ctx s q){n:Int}{i:Nat}(hi:i<q.Atoms.length)(h0:0<=n)(h1:n<=4096):w (n*VF s q i)=n*VF s q i:=by
 have h8:=KE (c.vt hi);have hr:0<=VF s q i/\VF s q i<=8:=⟨by unfold VF;omega,by unfold VF;omega⟩;have h2:=Int.mul_nonneg h0 hr.1;have h3:=Int.mul_le_mul h1 hr.2 hr.1 Z
 grind [ZP]
section
variable{s:Zr}{q:Zc}(c:Ctx s q){m:Int}(h1:1<=m)(h2:m<2 ^ q.Atoms.length)
include c h1 h2
theorem Ctx.msk:UT m=(ZD m 0 q.Atoms.length).map λn:Nat=>(n:Int):=by
 unfold UT;rw[ZAc,ZzT Z h2 c.n4.2]
omit h1 h2 in
theorem n8:∀i,i<=q.Atoms.length->∀n,0<=n->n<=8 ^ i->Rf s q m n i=some (I (ZpQ s q (ZD m i (q.Atoms.length-i)) n),[]):=by
 have hn4:=c.n4;have p8:∀i,i<=4->(8:Int) ^ i<=4096:=by
  intro i hi
  have:(8:Nat) ^ i<=8 ^ 4:=Nat.pow_le_pow_right Sm hi
  grind
 refine down _ ?_ ?_
 .intro n _ _;apply Wq.1.2.1.1;rw[Ap,DY];rfl
 .intro i hi ih n h0 hn;have h8:=KE (c.vt hi);have hr:0<=VF s q i/\VF s q i<=8:=⟨by unfold VF;omega,by unfold VF;omega⟩;have hp:=p8 i Z;have hpp:(8:Int) ^ (i+1)=8 ^ i*8:=Int.pow_succ 8 i;apply Wq.1.2.1.1;rw[Ao,wS hi Z,show q.Atoms.length-i=(q.Atoms.length-(i+1))+1 by omega,ZD];refine⟨Z,?_⟩;by_cases e:Aj (At m i) 1=1
  .rw[Ya e,Ya (by unfold Z1;exact decide_eq_true e)];refine⟨_,_,_,_,NU c hi,?_⟩;rw[show((Xw s q i).Rows.length:Int)=VF s q i from rfl,ZLN c hi h0 Z];refine ih _ (Int.mul_nonneg h0 hr.1) ?_;rw[hpp];exact Int.mul_le_mul hn hr.2 hr.1 Z
  .rw[Yb e,Yb (by unfold Z1;simpa using e)]
   grind
theorem ZLO(le:BD s q m=true):dP s q m=some (I (ZpQ s q (ZD m 0 q.Atoms.length) 1),[]):=by
 refine Wq.1.2.1.2 _ _ _ _ ⟨_,Kp c.le c.lq m,?_⟩;rw[le,Ya rfl];exact n8 c 0 (Yc _) 1 Z Om
end
def J3(s:Zr)(q:Zc)(i:Nat)(c:Int):Int:=if i<q.Atoms.length then Gq (Xw s q i) (VQ (XH q c) 0 (Bb q i).Vars)else 0
def CC(s:Zr)(q:Zc):Nat->Int->Int->Int
 |0,_,_=>1
 |f+1,used,left=>if left=0 then 1 else(ZD left 0 4).foldl (λb i=>bst b (J3 s q i used*CC s q f (Au used (Ac 1 i)) (ZA left (Ac 1 i)))) (-1)
def ZAg{s:Zr}{q:Zc}(c:Ctx s q)(i:Nat)(cc:Int):0<=J3 s q i cc/\J3 s q i cc<=8:=by
 unfold J3;split
 .exact ZLJ (c.vt ‹_›) _
 .omega
set_option maxRecDepth 100000 in
def n9:∀(l:Fin 16) (i:Fin 4),Z1 (l.1:Int) i.1=true->AX (ZA l.1 (Ac 1 i.1))/\Xe (ZA l.1 (Ac 1 i.1))+1=Xe l.1:=by decide
set_option maxRecDepth 100000 in
theorem ZzU:∀l:Fin 16,l.1≠0->1<=Xe l.1/\ZD (l.1:Int) 0 4≠[]:=by decide
def ZAh:∀(l u:Fin 16),ZA (l.1:Int) u.1<=l.1:=by decide +kernel
def NX:∀l:Fin 16,ZA (l.1:Int) 0=l.1:=by decide
theorem NY:∀l:Fin 16,Aj 0 (l.1:Int)=0:=by decide
def ZAi{s:Zr}{q:Zc}(c:Ctx s q):∀(f:Nat) (cc cd:Int),AX cd->0<=CC s q f cc cd/\CC s q f cc cd<=8 ^ f
 |0,_,_,_=>⟨by simp[CC],by simp[CC]⟩
 |f+1,cc,cd,hl=>by
  unfold CC;have hp:(1:Int)<=8 ^ f:=by exact_mod_cast Nat.pos_of_ne_zero Om
  have e8:(8:Int) ^ (f+1)=8*8 ^ f:=by rw[Int.pow_succ,Int.mul_comm]
  split
  .omega
  .rename_i hne;obtain⟨a,rfl⟩:=m16 hl;refine Z9r Z _ (λi=>J3 s q i cc*CC s q f (Au cc (Ac 1 i)) (ZA (a.1:Int) (Ac 1 i))) _ (λi hi=>?_) Z (.inl (ZzU a Z).2);have hm:=NV hi;have h1:=ZAg c i cc;have h2:=ZAi c f (Au cc (Ac 1 i)) (ZA (a.1:Int) (Ac 1 i)) (n9 a ⟨i,Z⟩ hm.2.2).1
   simp_all [Int.mul_nonneg,Int.mul_le_mul]
def ZLP{s:Zr}{q:Zc}(c:Ctx s q)(m:Int):Le (XH q m):=by
 have:=MY q c.vq m;omega
def ZLQ{s:Zr}{q:Zc}{i:Nat}(h:i<q.Atoms.length)(used:Int):J3 s q i used=Gq (Xw s q i) (VQ (XH q used) 0 (Bb q i).Vars):=by
 unfold J3;rw[Ya h]
def Abz{f:Nat}(h:f<=4):(1:Int)<=8 ^ f/\(8:Int) ^ f<=4096:=by
 have h1:(8:Nat) ^ f<=8 ^ 4:=Nat.pow_le_pow_right Sm h
 grind
def Gr(s:Zr)(q:Zc)(f:Nat)(c cc:Int)(i:Nat):Int:=J3 s q i c*CC s q f (Au c (Ac 1 i)) (ZA cc (Ac 1 i))
def oB{s:Zr}{q:Zc}(c:Ctx s q){f:Nat}(hf:f<=4){used left:Int}(hl:AX left){i:Nat}(hi:i<4)(hm:Z1 left i=true):w (J3 s q i used*CC s q f (Au used (Ac 1 i)) (ZA left (Ac 1 i)))=Gr s q f used left i:=by
 obtain⟨a,rfl⟩:=m16 hl;have h1:=ZAg c i used;have h2:=ZAi c f (Au used (Ac 1 i)) (ZA (a.1:Int) (Ac 1 i)) (n9 a ⟨i,hi⟩ hm).1;have h3:=Abz hf;have h4:=Int.mul_nonneg h1.1 h2.1;have h5:=Int.mul_le_mul h1.2 h2.2 h2.1 Z;exact ZP ⟨Z,Z⟩
def ZLR{s:Zr}{q:Zc}{f:Nat}{c left:Int}(h:left≠0):CC s q (f+1) c left=(ZD left 0 4).foldl (λb i=>bst b (Gr s q f c left i)) (-1):=by
 rw[CC,Yb h];rfl
theorem ZAj{m:Int}(h:AX m):Xe m<=4:=by
 grind [m16,Zzp]
def NZ:∀(m u:Fin 16),Aj (u.1:Int) m.1=u.1->AX (ZA (m.1:Int) u.1)/\((u.1:Int)=m.1↔ZA (m.1:Int) u.1=0):=by decide +kernel
def ZAk:∀(m u:Fin 16) (i:Fin 4),Aj (u.1:Int) m.1=u.1->(Z1 (ZA (m.1:Int) u.1) i.1=(Z1 (m.1:Int) i.1 && !Z1 (u.1:Int) i.1))/\(Z1 (m.1:Int) i.1=true->Aj (Au (u.1:Int) (Ac 1 i.1)) m.1=Au (u.1:Int) (Ac 1 i.1))/\AX (Au (u.1:Int) (Ac 1 i.1))/\ZA (m.1:Int) (Au (u.1:Int) (Ac 1 i.1))=ZA (ZA (m.1:Int) u.1) (Ac 1 i.1):=by decide +kernel
def oD{s:Zr}{q:Zc}(c:Ctx s q){f:Nat}(hf:f<=4){mask used:Int}(hm:AX mask)(cc:mask<2 ^ q.Atoms.length)(hu:AX used)(hs:Aj used mask=used)(ih:∀(u:Int),AX u->Aj u mask=u->Xe (ZA mask u)<=f->Rj ((List.range q.Atoms.length).map λi=>ZJ (Xw s q i)) q mask u=some (I (CC s q f u (ZA mask u)),[]))(hp:Xe (ZA mask used)<=f+1):∀i,i<=q.Atoms.length->∀b,Rk q ((List.range q.Atoms.length).map λi=>ZJ (Xw s q i)) mask used b i=some (I ((ZD (ZA mask used) i (q.Atoms.length-i)).foldl (λb i=>bst b (Gr s q f used (ZA mask used) i)) b),[]):=by
 have hn4:=c.n4;have Dh:AX (ZA mask used):=by
  obtain⟨a,rfl⟩:=m16 hm;obtain⟨u,rfl⟩:=m16 hu;exact(NZ a u hs).1
 refine down _ ?_ ?_
 .intro b;apply Wq.2.1.2.2;rw[Ap,DY];rfl
 .intro i hi oE b;have hb:Z1 (ZA mask used) i=(Z1 mask i && !Z1 used i)/\(Z1 mask i=true->Aj (Au used (Ac 1 i)) mask=Au used (Ac 1 i))/\AX (Au used (Ac 1 i))/\ZA mask (Au used (Ac 1 i))=ZA (ZA mask used) (Ac 1 i):=by
   obtain⟨a,rfl⟩:=m16 hm;obtain⟨u,rfl⟩:=m16 hu;exact ZAk a u ⟨i,Z⟩ hs
  apply Wq.2.1.2.2;rw[Ao,wS hi Z,show q.Atoms.length-i=(q.Atoms.length-(i+1))+1 by omega,ZD,hb.1];refine⟨Z,?_⟩;by_cases e:Aj (At mask i) 1=1
  .have e':Z1 mask i=true:=decide_eq_true e;rw[Ya e,e',Yl];rcases ft (Z1 used i)with e2|e2
   .grind [Gd]
   .have hleft:Z1 (ZA mask used) i=true:=by rw[hb.1,e',e2];rfl
    rw[Ya ((Gd hu Z).2 e2),e2,Ya (by rfl),Y6];have hg:((List.range q.Atoms.length).map λi=>ZJ (Xw s q i))[((i:Nat):Int).toNat]?=some (ZJ (Xw s q i)):=by
     simp_all
    have hpn:Xe (ZA mask (Au used (Ac 1 i)))<=f:=by
     rw[hb.2.2.2];obtain⟨a,ha⟩:=m16 Dh;rw[ha]at hp hleft|-;have:=(n9 a ⟨i,Z⟩ hleft).2;simp only at this;omega
    have hd:((Qr (Xw s q i) (VQ (XH q used) 0 (Bb q i).Vars))++[0])[0]?=some (J3 s q i used):=by
     rw[ZLQ hi];unfold Gq
     grind
    have hlen:=ZzQ (c.vt hi) (VQ (XH q used) 0 (Bb q i).Vars);have hvl:P5 (Xt (pV used q.Atoms))=some (.own 0,[.arr 3 1 true ((XH q used).map ic)]):=by
     have:=Z8u (pV used q.Atoms) 0 Z [] Om;have e4:=Z8v q c.vq used;apply XZ.2.2.1.2
     simp_all
    refine⟨Z,_,hg,_,NT hi,_,MF q used c.lq (Li c.vq),_,hvl,_,ZzS (by have:=c.vars3 hi;omega) (ZLP c used),_,nW (c.vt hi) (c.cols hi _),Z,_,hd,_,ih _ hb.2.2.1 (hb.2.1 e') hpn,?_⟩;rw[hb.2.2.2,oB c hf Dh Z hleft];by_cases h1:b<0
    .rw[Ya h1,show bst b (Gr s q f used (ZA mask used) i)=Gr s q f used (ZA mask used) i by unfold bst;rw[Ya (.inl h1)]];exact oE _
    .rw[Yb h1];by_cases h2:Gr s q f used (ZA mask used) i<b
     .rw[Ya h2,show bst b (Gr s q f used (ZA mask used) i)=Gr s q f used (ZA mask used) i by unfold bst;rw[Ya (.inr h2)]];exact oE _
     .rw[Yb h2,show bst b (Gr s q f used (ZA mask used) i)=b by unfold bst;rw[Yb (by rintro(h|h);exact h1 h;exact h2 h)]];exact oE _
  .have e':Z1 mask i=false:=decide_eq_false e
   simp_all
theorem ZLS{s:Zr}{q:Zc}(c:Ctx s q){mask:Int}(hm:AX mask)(cd:mask<2 ^ q.Atoms.length):∀(f:Nat),f<=5->∀(cc:Int),AX cc->Aj cc mask=cc->Xe (ZA mask cc)<=f->Rj ((List.range q.Atoms.length).map λi=>ZJ (Xw s q i)) q mask cc=some (I (CC s q f cc (ZA mask cc)),[]):=by
 intro f;have key:∀cc,AX cc->Aj cc mask=cc->AX (ZA mask cc)/\(cc=mask↔ZA mask cc=0):=by
  intro cc hu hs;obtain⟨a,rfl⟩:=m16 hm;obtain⟨u,rfl⟩:=m16 hu;exact NZ a u hs
 induction f with
 |zero =>
  intro _ cc hu hs hp;obtain⟨k1,k2⟩:=key cc hu hs;apply Wq.2.2.1.1;have h0:ZA mask cc=0:=by
   obtain⟨a,ha⟩:=m16 k1
   grind [ZzU]
  rw[Ya (k2.2 h0)];rfl
 |succ f ih =>
  intro hf cc hu hs hp;obtain⟨k1,k2⟩:=key cc hu hs;apply Wq.2.2.1.1;by_cases h0:cc=mask
  .rw[Ya h0,CC,Ya (k2.1 h0)]
  have hne:ZA mask cc≠0:=λhc=>h0 (k2.2 hc)
  rw[Yb h0,ZLR hne];have hn4:=c.n4;have hlt:ZA mask cc<2 ^ q.Atoms.length:=by
   have:ZA mask cc<=mask:=by
    obtain⟨a,rfl⟩:=m16 hm;obtain⟨u,rfl⟩:=m16 hu;exact ZAh a u
   omega
  have:=oD c (f:=f) Z hm cd hu hs (ih Z) hp 0 (Yc _) (-1);rw[Nat.sub_zero,<-ZzT k1.1 hlt hn4.2]at this;exact this
def ZLT{s:Zr}{q:Zc}(c:Ctx s q){m:Int}(h1:1<=m)(h2:m<2 ^ q.Atoms.length)(le:BD s q m=true):dR s q m=some (I (CC s q 4 0 m),[]):=by
 have hn4:=c.n4;have h16:=NW Z h2 c.n4.2;have e0:ZA m 0=m:=by obtain⟨a,rfl⟩:=m16 h16;exact NX a
 have main:∀i,i<=q.Atoms.length->dS s q ((List.range i).map λi=>ZJ (Xw s q i)) m i=some (I (CC s q 4 0 m),[]):=by
  refine down _ ?_ ?_
  .grind [Wq.2.2.1.2,ZLS,m16,NY,ZAj]
  .intro i hi ih;apply Wq.2.2.1.2;rw[Ao,wS hi Z];rw[DX,CE]at ih;exact⟨_,_,_,_,NU c hi,by simp;omega,ih⟩
 refine Wq.2.2.2.1 _ _ _ _ ⟨_,Kp c.le c.lq m,?_⟩
 grind
def ZAl(s:Zr)(q:Zc)(a b:Nat):Int:=ZzC (Qr (Xw s q a) (VQ (Vd q (Ac 1 a) (Ac 1 b)) 0 (Bb q a).Vars)) (Qr (Xw s q b) (VQ (Vd q (Ac 1 a) (Ac 1 b)) 0 (Bb q b).Vars))
def ZzV{s:Zr}{q:Zc}(c:Ctx s q){i:Nat}(h:i<q.Atoms.length):MQ q.Atoms (Ac 1 i):=by
 have hn4:=c.n4;have h1:(2:Nat) ^ i<2 ^ q.Atoms.length:=Nat.pow_lt_pow_right Sm h
 grind [ZpI,Int.toNat_natCast,Int.natCast_nonneg]
def ZLU{s:Zr}{q:Zc}(c:Ctx s q):BD s q 1=true/\BD s q (Z7 q.Zg q.Atoms)=true:=by
 have h1:=Jc c.vq;have hn:=c.n4;have h2:(2:Nat) ^ 1<=2 ^ q.Atoms.length:=Nat.pow_le_pow_right Sm hn.1;have e:((2:Int) ^ q.Atoms.length)=(((2:Nat) ^ q.Atoms.length:Nat):Int):=by push_cast;rfl
 have hf:Z7 q.Zg q.Atoms=2 ^ q.Atoms.length-1:=by unfold Z7;rw[Ya c.vq,h1.2.1]
 unfold BD;rw[c.st,c.qf,hf,Yl,Yl,Yl,Yl]
 grind [ZM]
def ZAm{s:Zr}{q:Zc}(c:Ctx s q)(a b:Int):Le (Vd q a b):=by
 have:=MY q c.vq a;have h2:=TA (has (XH q b)) (XH q a);unfold Vd;omega
def ZLV{s:Zr}{q:Zc}(c:Ctx s q){a b:Nat}(ha:a<q.Atoms.length)(hb:b<q.Atoms.length)(cc:a≠b):Rm s q a b=some (I (ZAl s q a b),[]):=by
 have hn4:=c.n4;have l1:=ZzQ (c.vt ha) (VQ (Vd q (Ac 1 a) (Ac 1 b)) 0 (Bb q a).Vars);have l2:=ZzQ (c.vt hb) (VQ (Vd q (Ac 1 a) (Ac 1 b)) 0 (Bb q b).Vars);refine Wr.1.1.1.1 _ _ _ _ _ ⟨_,Ue _ c.lq,_,Kp c.le c.lq _,?_⟩;rw[(ZLU c).2,Ya rfl,ZP (x:=(q.Atoms.length:Int)-1) ⟨Z,Z⟩];refine⟨_,ZH _ _ _,?_⟩;rw[show Ak (a:Int) 0 ((q.Atoms.length:Int)-1)=true from ZM.2 ⟨Z,Z⟩,Ya rfl];refine⟨_,ZH _ _ _,?_⟩;rw[show Ak (b:Int) 0 ((q.Atoms.length:Int)-1)=true from ZM.2 ⟨Z,Z⟩,Ya rfl,Ap];exact⟨Z,Z,_,Zzs q c.lq c.vq _ _ (ZzV c ha) (ZzV c hb),_,_,_,_,NU c ha,Z,_,NT ha,_,ZzS (by have:=c.vars3 ha;omega) (ZAm c _ _),_,ZzP (c.lt ha) (c.vt ha) (c.cols ha _),_,_,_,_,NU c hb,Z,_,NT hb,_,ZzS (by have:=c.vars3 hb;omega) (ZAm c _ _),_,ZzP (c.lt hb) (c.vt hb) (c.cols hb _),_,ZLh Z Z,rfl⟩
def small(k:Int)(r:WL):Prop:=∀x∈r,-k<=x/\x<=k
section
variable{full:Nat}(hf:1<=full/\full<=15)
include hf
theorem oF(minus:WL)(hm:minus.length<=1000)(hb:∀e∈minus,e<=full):∀i,i<=minus.length->∀r:WL,r.length=full->Rr r minus i=some (.own 0,[.arr 3 1 true ((KI (-1) (minus.drop i) r).map ic)]):=by
 refine down _ ?_ ?_
 .intro r hr;apply Wr.2.2.2.2.2;rw[Ap,Ym];rfl
 .intro i hi ih r hr;have he:=hb _ (Ye hi);apply Wr.2.2.2.2.2;rw[Ao,wS hi Z,Yh hi,KI];refine⟨Z,_,gE hi,?_⟩;by_cases c:0<minus[i]
  .rw[Ya c,Ya c,ZP (x:=minus[i]-1) ⟨Z,Z⟩];exact⟨Z,_,gD Z,ih _ (by rw[CD];exact hr)⟩
  .grind
theorem oG(cc minus:WL)(hm:minus.length<=1000/\cc.length<=900)(hb:∀e∈minus,e<=full)(hp:∀e∈cc,e<=full):∀i,i<=cc.length->∀r:WL,r.length=full->LN r cc minus i=some (.own 0,[.arr 3 1 true ((KI (-1) minus (KI 1 (cc.drop i) r)).map ic)]):=by
 refine down _ ?_ ?_
 .intro r hr;apply Wr.2.2.2.2.1;rw[Ap,Ym];simpa[KI]using oF hf minus hm.1 hb 0 (Yc _) r hr
 .intro i hi ih r hr;have he:=hp _ (Ye hi);apply Wr.2.2.2.2.1;rw[Ao,wS hi Z,Yh hi,KI];refine⟨Z,_,gE hi,?_⟩;by_cases c:0<cc[i]
  .rw[Ya c,Ya c,ZP (x:=cc[i]-1) ⟨Z,Z⟩];exact⟨Z,_,gD Z,ih _ (by rw[CD];exact hr)⟩
  .grind
end
def ZB(n:Int):Nat:=(Ac 1 n-1).toNat
def J4{n:Int}(h:Ak n 1 4=true):w (Ac 1 n-1)=(ZB n:Int)/\1<=ZB n/\ZB n<=15:=by
 have h':=ZM.1 h
 have:n=1\/n=2\/n=3\/n=4:=by omega
 rcases this with rfl|rfl|rfl|rfl<;>decide
theorem ZpR{n:Int}(h:Ak n 1 4=true)(c minus:WL)(hm:minus.length<=1000/\c.length<=900)(hb:∀e∈minus,e<=ZB n)(hp:∀e∈c,e<=ZB n):Jg n c minus=some (.own 0,[.arr 3 1 true ((V9 (ZB n) c minus).map ic)]):=by
 have h':=ZM.1 h;obtain⟨e,h1,h2⟩:=J4 h;apply ZHP;rw[e,Yj];have:=oG (full:=ZB n) ⟨h1,h2⟩ c minus hm hb hp 0 (Yc _) (List.replicate (ZB n) 0) Om;exact⟨Z,Z,Z,Z9D Z,Z,by simpa[V9]using this⟩
def AbA(i j s:Int)(full:Nat):WL:=V9 full [s,Au (Au s (Ac 1 i)) (Ac 1 j)] [Au s (Ac 1 i),Au s (Ac 1 j)]
def J5(full:Nat)(i j:Int):Nat->Int->XV
 |0,_=>[]
 |f+1,s=>if Aj (At s i) 1=0/\Aj (At s j) 1=0 then AbA i j s full::J5 full i j f (s+1)else J5 full i j f (s+1)
def J6(full:Nat)(i:Int):Nat->Int->XV
 |0,_=>[]
 |f+1,j=>J5 full i j (full+1) 0++J6 full i f (j+1)
def J7(n full:Nat):Nat->Int->XV
 |0,_=>[]
 |f+1,i=>J6 full i f (i+1)++J7 n full f (i+1)
def N0(full:Nat):Nat->Int->XV
 |0,_=>[]
 |f+1,i=>V9 full [(full:Int)-Ac 1 i] [(full:Int)]::N0 full f (i+1)
def elem(n:Int):XV:=N0 (ZB n) n.toNat 0++J7 n.toNat (ZB n) n.toNat 0
theorem ZzW(full:Nat)(i j:Int):∀f s,(J5 full i j f s).length<=f
 |0,_=>Yk _
 |f+1,s=>by
  unfold J5;have:=ZzW full i j f (s+1)
  grind
theorem ZzX{full:Nat}(hf:full<=15)(i:Int):∀f j,(J6 full i f j).length<=f*16
 |0,_=>by simp[J6]
 |f+1,j=>by
  unfold J6;have h1:=ZzX hf i f (j+1)
  grind [ZzW,List.length_append]
def ZAn{full:Nat}(hf:full<=15)(n:Nat):∀f i,f<=4->(J7 n full f i).length<=f*64
 |0,_,_=>by simp[J7]
 |f+1,i,h=>by
  unfold J7;have h1:=ZAn hf n f (i+1) Z
  grind [ZzX,List.length_append]
def ZAo(full:Nat):∀f i,(N0 full f i).length=f
 |0,_=>rfl
 |f+1,i=>by unfold N0;rw[Yy,ZAo]
def ZpS(full:Nat)(a b:WL):(V9 full a b).length=full:=by unfold V9;rw[Zz4,Zz4,Yc8]
theorem ZzY(full:Nat)(i j:Int):∀f s,∀r∈J5 full i j f s,r.length=full
 |0,_,r,h=>by cases h
 |f+1,s,r,h=>by
  unfold J5 at h;split at h
  .rcases Yz.1 h with rfl|h
   .exact ZpS _ _ _
   .exact ZzY full i j f (s+1) r h
  .exact ZzY full i j f (s+1) r h
theorem ZAp(full:Nat)(i:Int):∀f j,∀r∈J6 full i f j,r.length=full
 |0,_,r,h=>by cases h
 |f+1,j,r,h=>by
  unfold J6 at h;rcases Yi.1 h with h|h
  .grind [ZzY]
  .exact ZAp full i f (j+1) r h
theorem ZAq(n full:Nat):∀f i,∀r∈J7 n full f i,r.length=full
 |0,_,r,h=>by cases h
 |f+1,i,r,h=>by
  unfold J7 at h;rcases Yi.1 h with h|h
  .grind [ZAp]
  .exact ZAq n full f (i+1) r h
theorem ZAr(full:Nat):∀f i,∀r∈N0 full f i,r.length=full
 |0,_,r,h=>by cases h
 |f+1,i,r,h=>by
  unfold N0 at h;rcases Yz.1 h with rfl|h
  .exact ZpS _ _ _
  .exact ZAr full f (i+1) r h
def ZLW{n:Int}:∀r∈elem n,r.length=ZB n:=by
 intro r h;rcases Yi.1 h with h|h
 .grind [ZAr]
 .grind [ZAq]
def ZAs{n:Int}(h:Ak n 1 4=true):1<=(elem n).length/\(elem n).length<=300:=by
 have h':=ZM.1 h;obtain⟨_,h1,h2⟩:=J4 h;have h3:=ZAn h2 n.toNat n.toNat 0 Z;unfold elem;rw[Yu,ZAo];omega
instance (ss:WL):Decidable (dis ss):=by unfold dis;infer_instance
def oH:∀(n:Fin 5) (i j:Fin 4) (s:Fin 16),1<=n.1->i.1<j.1->j.1<n.1->s.1<=ZB n.1->Aj (At (s.1:Int) i.1) 1=0->Aj (At (s.1:Int) j.1) 1=0->dis ([(s.1:Int),Au (Au s.1 (Ac 1 i.1)) (Ac 1 j.1)]++[Au s.1 (Ac 1 i.1),Au s.1 (Ac 1 j.1)])/\Au (Au (s.1:Int) (Ac 1 i.1)) (Ac 1 j.1)<=ZB n.1/\Au (s.1:Int) (Ac 1 i.1)<=ZB n.1/\Au (s.1:Int) (Ac 1 j.1)<=ZB n.1:=by decide +kernel
def N1:∀(n:Fin 5) (i:Fin 4),1<=n.1->i.1<n.1->ZA (ZB n.1:Int) (Ac 1 i.1)=(ZB n.1:Int)-Ac 1 i.1/\w ((ZB n.1:Int)-Ac 1 i.1)=(ZB n.1:Int)-Ac 1 i.1/\dis ([(ZB n.1:Int)-Ac 1 i.1]++[(ZB n.1:Int)])/\(ZB n.1:Int)-Ac 1 i.1<=ZB n.1:=by decide +kernel
def ZLX{n:Int}(h:Ak n 1 4=true){i j s:Int}(hi:0<=i)(c:i<j)(hj:j<n)(hs:0<=s)(cc:s<=ZB n)(b1:Aj (At s i) 1=0)(b2:Aj (At s j) 1=0):dis ([s,Au (Au s (Ac 1 i)) (Ac 1 j)]++[Au s (Ac 1 i),Au s (Ac 1 j)])/\(∀e∈[s,Au (Au s (Ac 1 i)) (Ac 1 j)],e<=ZB n)/\(∀e∈[Au s (Ac 1 i),Au s (Ac 1 j)],e<=ZB n):=by
 have h':=ZM.1 h;obtain⟨_,h1,h2⟩:=J4 h;have en:n=((⟨n.toNat,Z⟩:Fin 5).1:Int):=by simp only;omega
 have ei:i=((⟨i.toNat,Z⟩:Fin 4).1:Int):=by simp only;omega
 have ej:j=((⟨j.toNat,Z⟩:Fin 4).1:Int):=by simp only;omega
 have es:s=((⟨s.toNat,Z⟩:Fin 16).1:Int):=by simp only;omega
 have:=oH ⟨n.toNat,Z⟩ ⟨i.toNat,Z⟩ ⟨j.toNat,Z⟩ ⟨s.toNat,Z⟩ (by simp only;omega) (by simp only;omega) (by simp only;omega) (by rw[<-en];simp only;omega) (by rw[<-es,<-ei];exact b1) (by rw[<-es,<-ej];exact b2)
 grind
def ZLY{n:Int}(h:Ak n 1 4=true){i:Int}(hi:0<=i)(hj:i<n):ZA (ZB n:Int) (Ac 1 i)=(ZB n:Int)-Ac 1 i/\w ((ZB n:Int)-Ac 1 i)=(ZB n:Int)-Ac 1 i/\dis ([(ZB n:Int)-Ac 1 i]++[(ZB n:Int)])/\(ZB n:Int)-Ac 1 i<=ZB n:=by
 have h':=ZM.1 h;have en:n=((⟨n.toNat,Z⟩:Fin 5).1:Int):=by simp only;omega
 have ei:i=((⟨i.toNat,Z⟩:Fin 4).1:Int):=by simp only;omega
 have:=N1 ⟨n.toNat,Z⟩ ⟨i.toNat,Z⟩ (by simp only;omega) (by simp only;omega)
 grind
def ZLZ{n:Int}(h:Ak n 1 4=true){i j:Int}(hi:0<=i)(c:i<j)(hj:j<n)(res:XS):∀(f:Nat) (s:Int) (x:XV),s+f=(ZB n:Int)+1->0<=s->x.length+f<=100000->Ru (x++J5 (ZB n) i j f s) n (ZB n) i (w (j+1))=some res->Rv x n (ZB n) i j s=some res:=by
 obtain⟨_,h1,h2⟩:=J4 h;intro f
 induction f with
 |zero =>
  intro s x hs h0 hx next
  apply F7.2.2.1;rw[Ap]
  simpa[J5]using next
 |succ f ih =>
  intro s x hs h0 hx next
  apply F7.2.2.1;rw[Ao,ZP (x:=s+1) ⟨Z,Z⟩];rw[J5]at next
  refine⟨Z,?_⟩;by_cases b1:Aj (At s i) 1=0
  .rw[Ya b1];refine⟨Z,?_⟩;by_cases b2:Aj (At s j) 1=0
   .rw[Ya b2];rw[Ya ⟨b1,b2⟩]at next
    obtain⟨g1,g2,g3⟩:=ZLX h hi c hj h0 Z b1 b2;refine⟨_,ZpR h _ _ Om g3 g2,Z,?_⟩;refine ih (s+1) _ Z Z (by simp;omega) ?_;rw[DT];exact next
   .grind
  .grind
def ZMa{n:Int}(h:Ak n 1 4=true){i:Int}(hi:0<=i)(c:i<n)(res:XS):∀(f:Nat) (j:Int) (x:XV),j+f=n->i<j->x.length+16*f<=90000->Rt (x++J6 (ZB n) i f j) n (ZB n) (w (i+1))=some res->Ru x n (ZB n) i j=some res:=by
 obtain⟨_,h1,h2⟩:=J4 h;have h':=ZM.1 h;intro f
 induction f with
 |zero =>
  intro j x hj hij hx next
  apply F7.2.1;rw[Ap]
  simpa[J6]using next
 |succ f ih =>
  intro j x hj hij hx next
  apply F7.2.1;rw[Ao];have hl:=ZzW (ZB n) i j (ZB n+1) 0;refine ZLZ h hi hij Z res (ZB n+1) 0 x Z Z Z ?_;rw[ZP (x:=j+1) ⟨Z,Z⟩];refine ih (j+1) _ Z Z (by rw[Yu];omega) ?_;rw[DT];exact next
def ZMb{n:Int}(h:Ak n 1 4=true):∀(f:Nat) (i:Int) (x:XV),i+f=n->0<=i->x.length+64*f<=80000->Rt x n (ZB n) i=some (.own 0,[.arr 44 1 true ((x++J7 n.toNat (ZB n) f i).map AA)]):=by
 obtain⟨_,h1,h2⟩:=J4 h;have h':=ZM.1 h;intro f
 induction f with
 |zero =>
  intro i x hi h0 hx;apply F7.1.2;rw[Ap]
  simp[J7]
 |succ f ih =>
  intro i x hi h0 hx;apply F7.1.2;rw[Ao,ZP (x:=i+1) ⟨Z,Z⟩];have hl:=ZzX h2 i f (i+1);refine ZMa h h0 Z _ f (i+1) x Z Z Z ?_;rw[ZP (x:=i+1) ⟨Z,Z⟩];have:=ih (i+1) (x++J6 (ZB n) i f (i+1)) Z Z (by rw[Yu];omega);rw[DT]at this;exact this
def ZMc{n:Int}(h:Ak n 1 4=true):∀(f:Nat) (i:Int) (x:XV),i+f=n->0<=i->x.length+f<=1000->eD x n (ZB n) i=some (.own 0,[.arr 44 1 true ((x++(N0 (ZB n) f i++J7 n.toNat (ZB n) n.toNat 0)).map AA)]):=by
 obtain⟨_,h1,h2⟩:=J4 h;have h':=ZM.1 h;intro f
 induction f with
 |zero =>
  intro i x hi h0 hx;apply F7.1.1;rw[Ap]
  exact ZMb h n.toNat 0 x Z Z Z
 |succ f ih =>
  intro i x hi h0 hx;obtain⟨g1,g2,g3,g4⟩:=ZLY h h0 (show i<n by omega);apply F7.1.1;rw[Ao,ZP (x:=i+1) ⟨Z,Z⟩];refine⟨Z,?_⟩;rw[g2];refine⟨_,ZpR h _ _ Om Om (by simpa using g4),Z,?_⟩;have:=ih (i+1) (x++[V9 (ZB n) [(ZB n:Int)-Ac 1 i] [(ZB n:Int)]]) Z Z (by simp;omega);rw[DT]at this;exact this
def ZMd{n:Int}(h:Ak n 1 4=true):eC n=some (.own 0,[.arr 44 1 true ((elem n).map AA)]):=by
 have h':=ZM.1 h;refine F7.2.2.2 _ _ ⟨_,ZH _ _ _,?_⟩;rw[h,Ya rfl,(J4 h).1];refine⟨Z,?_⟩;have:=ZMc h n.toNat 0 [] Z Z (by simp;omega);simpa[elem]using this
def ZpT(m:Int):WL:=(ZD m 0 3).map λn:Nat=>(n:Int)
def oI(m:Int):∀i,i<=3->∀out:WL,out.length<=i->Lw out m i=some (.own 0,[.arr 3 1 true ((out++(ZD m i (3-i)).map λn:Nat=>(n:Int)).map ic)]):=by
 refine down _ ?_ ?_
 .intro out ho;apply X0.2.2.1.2;rw[Ap];simp[ZD]
 .intro i hi ih out ho;apply X0.2.2.1.2;rw[Ao,wS (show i<3 from hi) Z,show 3-i=(3-(i+1))+1 by omega,ZD];refine⟨Z,?_⟩;by_cases e:Aj (At m i) 1=1
  .rw[Ya e,Ya (show Z1 m i=true from decide_eq_true e)]
   grind
  .rw[Yb e,Yb (by unfold Z1;simpa using e)];exact ih out Z
def oJ(m:Int):UP m=some (.own 0,[.arr 3 1 true ((ZpT m).map ic)]):=X0.2.2.2.1 _ _ (by simpa[ZpT]using oI m 0 Z [] Om)
def ZzZ(m n:Int):∀(k i:Nat) (p:Option Int),(∀q,p=some q->q<i)->(∀j,j∈ZD m i k->(j:Int)<n)->VD n p ((ZD m i k).map λn:Nat=>(n:Int))=true
 |0,_,_,_,_=>rfl
 |k+1,i,p,hp,hn=>by
  rw[ZD]at hn|-;split
  .rename_i e;rw[Ya e]at hn;simp only[Yx,VD,Yd];have h1:=hn i Om;refine⟨⟨ZM.2 ⟨Z,Z⟩,?_⟩,ZzZ m n k (i+1) (some i) (λq hq=>by cases hq;omega) (λj hj=>hn j (by simp[hj]))⟩
   cases p with
   |none=>rfl
   |some q=>simpa[BL,E1]using hp q rfl
  .rename_i e;rw[Yb e]at hn;exact ZzZ m n k (i+1) p (λq hq=>by have:=hp q hq;omega) hn
structure N2 (m:Int) (n:Nat):Prop where
 h0:0<=m
 hm:m<2 ^ n
 hn:1<=n/\n<=3
def N2.lt8{m:Int}{n:Nat}(h:N2 m n):0<=m/\m<8:=by
 have:(2:Nat) ^ n<=2 ^ 3:=Nat.pow_le_pow_right Sm h.hn.2
 have e:((2:Int) ^ n)=(((2:Nat) ^ n:Nat):Int):=by push_cast;rfl
 have:=h.h0;have:=h.hm;omega
def N2.mem{m:Int}{n:Nat}(h:N2 m n){j:Nat}(hj:j∈ZD m 0 3):j<n:=by
 obtain⟨_,h3,hb⟩:=NV hj;rcases Dl j n with hl|hl
 .exact hl
 .exfalso;have h8:=h.lt8;have hn:=h.hn;have em:m=((⟨m.toNat,Z⟩:Fin 16).1:Int):=by simp only;omega
  have:=n7 ⟨m.toNat,Z⟩ ⟨n,Z⟩ ⟨j,Z⟩ (by
   have e:((2:Int) ^ n)=(((2:Nat) ^ n:Nat):Int):=by push_cast;rfl
   have:=h.hm;have:=h.h0
   simp only;omega) hl
  rw[<-em]at this;rw[this]at hb;cases hb
def N2.ok{m:Int}{n:Nat}(h:N2 m n):WX n (ZpT m)=true:=ZzZ m n 3 0 none (λq hq=>by cases hq) (λj hj=>by have:=h.mem hj;omega)
def Z0a(t:Zm)(a:Zd)(m:Nat):ZG:=⟨Gl 0 (SY m 0 a.Vars),Gl 0 a.Vars,NB (Gq t (ZpT m))⟩
def Fa(t:Zm)(a:Zd):List ZG:=if t.Rows=[]then[]else(List.range (2 ^ a.Vars.length-1)).map (Z0a t a)
def N3(l:List ZG):XS:=(.own 0,[.arr 292 3 true (l.map ZG.c)])
section
variable{t:Zm}{a:Zd}(h:Cn t)(hv:Xb t=true)(ha:t.Arity=(a.Vars.length:Int))
include h hv ha
omit h in
theorem ar3:1<=a.Vars.length/\a.Vars.length<=3:=by have:=ZM.1 (VE hv);omega
omit h in
theorem ZAt:w (Ac 1 (ZJ t).Arity-1)=((2 ^ a.Vars.length-1:Nat):Int)/\(2:Nat) ^ a.Vars.length<=8/\2<=(2:Nat) ^ a.Vars.length:=by
 have h3:=ar3 hv ha;have h1:(2:Nat) ^ a.Vars.length<=2 ^ 3:=Nat.pow_le_pow_right Sm h3.2;have h2:(2:Nat) ^ 1<=2 ^ a.Vars.length:=Nat.pow_le_pow_right Sm h3.1;have e:((2:Int) ^ a.Vars.length)=(((2:Nat) ^ a.Vars.length:Nat):Int):=by push_cast;rfl
 rw[show(ZJ t).Arity=t.Arity from rfl,ha,ZpI Z Z,Yj,e,ZP ⟨Z,Z⟩];omega
omit h in
theorem setOf{m:Nat}(hm:m<2 ^ a.Vars.length-1):N2 m a.Vars.length:=by
 have e:((2:Int) ^ a.Vars.length)=(((2:Nat) ^ a.Vars.length:Nat):Int):=by push_cast;rfl
 exact⟨Z,Z,ar3 hv ha⟩
theorem oK:∀m,m<=2 ^ a.Vars.length-1->dZ (ZJ t) a ((List.range m).map (Z0a t a)) m=some (N3 ((List.range (2 ^ a.Vars.length-1)).map (Z0a t a))):=by
 have h3:=ar3 hv ha;obtain⟨f1,f2,f3⟩:=ZAt hv ha;refine down _ ?_ ?_
 .refine Wr.1.2.2.2.2 _ _ _ _ _ ⟨by rw[show(ZJ t).Arity=t.Arity from rfl];omega,?_⟩;rw[f1,Ap];rfl
 .intro m hm ih;have hs:=setOf hv ha hm;refine Wr.1.2.2.2.2 _ _ _ _ _ ⟨by rw[show(ZJ t).Arity=t.Arity from rfl];omega,?_⟩;rw[f1,Ao,wS hm Z];rw[DX,CE]at ih;exact⟨_,nA Z,_,ZLf Z,_,oJ _,_,ZLH h hv (by rw[ha];exact hs.ok),_,ZLe _,by simp;omega,ih⟩
theorem ZMe:dY (ZJ t) a=some (N3 (Fa t a)):=by
 have e:(ZJ t).RowCount=(t.Rows.length:Int):=rfl;refine Wr.2.1.1.1 _ _ _ ⟨_,ZzN h hv,?_⟩;rw[Ya rfl];unfold Fa;by_cases h1:t.Rows=[]
 .rw[Ya (by rw[e,h1];rfl),Ya h1];rfl
 .have:=Y4.2 h1;rw[Yb (by rw[e];omega),Yb h1,Ya (show(a.Vars.length:Int)=(ZJ t).Arity from ha.symm)];exact oK h hv ha 0 (Yc _)
omit h in
theorem ZAu:(Fa t a).length<=7/\(t.Rows≠[]->0<(Fa t a).length):=by
 obtain⟨f1,f2,f3⟩:=ZAt hv ha;unfold Fa
 grind
end
def N4(s:Zr)(q:Zc):V2->List ZG->List ZG
 |[],acc=>acc
 |i::l,acc=>if Fa (Xw s q i) (Bb q i)=[]then[]else N4 s q l (acc++Fa (Xw s q i) (Bb q i))
def Fb(s:Zr)(q:Zc)(m:Int):List ZG:=N4 s q (ZD m 0 q.Atoms.length) []
section
variable{s:Zr}{q:Zc}(c:Ctx s q)
include c
theorem oL{i:Nat}(h:i<q.Atoms.length):dY (ZJ (Xw s q i)) (Bb q i)=some (N3 (Fa (Xw s q i) (Bb q i))):=ZMe (c.lt h) (c.vt h) (c.look h).2
theorem oM{m:Int}(cc:AX m):∀i,i<=q.Atoms.length->∀acc:List ZG,acc.length<=7*i->Rp s q acc m i=some (N3 (N4 s q (ZD m i (q.Atoms.length-i)) acc)):=by
 have hn4:=c.n4;refine down _ ?_ ?_
 .intro acc ha;apply Wr.2.1.1.2;rw[Ap,DY];rfl
 .intro i hi ih acc hacc;have hlen:=ZAu (c.vt hi) (c.look hi).2;apply Wr.2.1.1.2;rw[Ao,wS hi Z,show q.Atoms.length-i=(q.Atoms.length-(i+1))+1 by omega,ZD];refine⟨Z,?_⟩;by_cases e:Aj (At m i) 1=0
  .rw[Ya e,Yb (by unfold Z1;rw[e];decide)];exact ih acc Z
  .have e1:Z1 m i=true:=by
    rcases ft (Z1 m i)with e1|e1
    .exact e1
    .grind [Gd]
   rw[Yb e,Ya e1,N4];refine⟨_,_,_,_,NU c hi,Z,_,NT hi,_,oL c hi,?_⟩;by_cases e:Fa (Xw s q i) (Bb q i)=[]
   .rw[Ya (by rw[e];rfl),Ya e];rfl
   .have:=Y4.2 e
    grind
theorem Z0b{m:Int}(cc:AX m)(le:BD s q m=true):d6 s q m=some (N3 (Fb s q m)):=by
 refine Wr.2.1.2.1 _ _ _ _ ⟨_,Kp c.le c.lq m,?_⟩;rw[le,Ya rfl];exact oM c cc 0 (Yc _) [] Om
theorem ZAv:∀(l:V2) (cc:List ZG),(∀i∈l,i<q.Atoms.length)->(N4 s q l cc).length<=cc.length+7*l.length
 |[],cc,_=>by simp[N4]
 |i::l,cc,h=>by
  have hi:=h i Om;have hlen:=ZAu (c.vt hi) (c.look hi).2;unfold N4;split
  .simp
  .have:=ZAv l (cc++Fa (Xw s q i) (Bb q i)) (λj hj=>h j (by simp[hj]))
   grind
theorem ZAw(m:Int):(Fb s q m).length<=28:=by
 have h0:(Fb s q m).length<=([]:List ZG).length+7*(ZD m 0 q.Atoms.length).length:=ZAv c (ZD m 0 q.Atoms.length) [] (λi hi=>by have:=NV hi;omega);have h1:=ZAf m q.Atoms.length 0;have h2:([]:List ZG).length=0:=rfl;have:=c.n4;omega
end
def H8(m:Int):Nat->WL->Int->Int
 |_,[],x=>x
 |i,v::vs,x=>H8 m (i+1) vs (if Ak v 0 3=true/\Aj (At m v) 1=1 then Au x (Ac 1 i)else x)
def QI(l:List ZG)(c:WL):List ZG:=l.map λy=>⟨H8 y.From 0 c 0,H8 y.To 0 c 0,y.Bits⟩
def oN(m:Int)(vars:WL)(h4:vars.length<=4):∀i,i<=vars.length->∀x,Rq m vars x i=some (I (H8 m i (vars.drop i) x),[]):=by
 refine down _ ?_ ?_
 .intro x;apply Wr.2.1.2.2;rw[Ap,Ym];rfl
 .intro i hi ih x;apply Wr.2.1.2.2;rw[Ao,Ao,wS hi Z,Yh hi,H8]
  simp_all [gE,ZH,ft,ZM]
theorem oO(m:Int){vars:WL}(h4:vars.length<=4):d7 m vars=some (I (H8 m 0 vars 0),[]):=Wr.2.2.1.1 _ _ _ (by simpa using oN m vars h4 0 (Yc _) 0)
theorem ZMf{l:List ZG}{c:WL}{i:Nat}(h:i<l.length):QI (l.take (i+1)) c=QI (l.take i) c++[⟨H8 l[i].From 0 c 0,H8 l[i].To 0 c 0,l[i].Bits⟩]:=by
 unfold QI;rw[Y5 h,CE];rfl
theorem ZAx(l:List ZG)(vars:WL):(QI l vars).length=l.length:=by simp[QI]
def ZMg{l:List ZG}{vars:WL}(h4:vars.length<=4)(hl:l.length<=1000):d8 l vars=some (N3 (QI l vars)):=by
 have main:∀i,i<=l.length->d9 (QI (l.take i) vars) l vars i=some (N3 (QI l vars)):=by
  refine down _ ?_ ?_
  .apply Wr.2.2.1.2;rw[Ap,Yr];rfl
  .intro i hi ih;apply Wr.2.2.1.2
   grind [wS,ZMf,gE,oO,ZAx,List.length_take]
 exact Wr.2.2.2.1 _ _ _ (by simpa[QI]using main 0 (Yc _))
def Qz(full:Nat)(y:ZG):Option (WL):=if Ak y.To 1 full=true/\0<=y.From/\Aj y.From y.To=y.From/\y.From≠y.To then some (V9 full [y.To] [y.From])else none
def N5(full:Nat):List ZG->XV->WL->Option (XV×WL)
 |[],r,l=>some (r,l)
 |y::ys,r,l=>match Qz full y with
  |none=>none
  |some row=>N5 full ys (r++[row]) (l++[y.Bits])
def H9(l:List ZG)(n:Int):Option Program:=if Ak n 1 4=true then(match N5 (ZB n) l (elem n) (List.replicate (elem n).length 0)with
 |none=>none
 |some (r,lm)=>if QH ⟨V9 (ZB n) [(ZB n:Int)] [],r,lm⟩=true then some ⟨V9 (ZB n) [(ZB n:Int)] [],r,lm⟩else none)else none
def oP(o:Option Program):XS:=match o with
 |none=>(.tup [.agg [.own 0,.own 1,.own 2],Bo false],[.arr 3 1 true (([]:WL).map ic),.arr 44 1 true (([]:XV).map AA),.arr 3 1 true (([]:WL).map ic)])
 |some p=>(.tup [.agg [.own 0,.own 1,.own 2],Bo true],[.arr 3 1 true (p.Objective.map ic),.arr 44 1 true (p.Rows.map AA),.arr 3 1 true (p.Limits.map ic)])
structure S9 (full:Nat) (rs:XV) (ls:WL) (k:Nat):Prop where
 r:rs.length<=300+k
 l:ls.length=rs.length
 row:∀x∈rs,x.length=full
def S9.le{full k:Nat}{r:XV}{l:WL}(h:S9 full r l k)(hf:full<=15)(hk:k<=100):H4 ⟨V9 full [(full:Int)] [],r,l⟩ :=
 ⟨by rw[show(Program.Objective ⟨V9 full [(full:Int)] [],r,l⟩)=V9 full [(full:Int)] []from rfl,ZpS];omega,by have:=h.r;show r.length<=1000;omega,by have:=h.r;have:=h.l;show l.length<=1000;omega,λx hx=>by have:=h.row x hx;omega⟩
def S9.add{full k:Nat}{r:XV}{l:WL}(h:S9 full r l k)(a b:WL)(c:Int):S9 full (r++[V9 full a b]) (l++[c]) (k+1) :=
 ⟨by have:=h.r;simp;omega,by simp[h.l],λx hx=>by
  rcases Yi.1 hx with hx|hx
  .exact h.row x hx
  .rw[List.mem_singleton.1 hx];exact ZpS _ _ _⟩
def ZMh{f t:Int}(h0:0<=f)(ht:0<=t/\t<=15)(h:Aj f t=f):f<=t:=by
 have e:Aj f t<=t:=by
  unfold Aj;have hb:(BitVec.ofInt 64 t).toNat=t.toNat:=by
   grind
  grind [Nat.and_le_right,ZF]
 omega
def epR(full:Nat)(o:Option (XV×WL)):XS:=match o with
 |none=>oP none
 |some (r,lm)=>oP (if QH ⟨V9 full [(full:Int)] [],r,lm⟩=true then some ⟨V9 full [(full:Int)] [],r,lm⟩else none)
section
variable{n:Int}(h:Ak n 1 4=true)
include h
theorem oQ(ys:List ZG)(hy:ys.length<=60):∀i,i<=ys.length->∀(r:XV) (l:WL),S9 (ZB n) r l i->Rx (V9 (ZB n) [(ZB n:Int)] []) r l ys n (ZB n) i=some (epR (ZB n) (N5 (ZB n) (ys.drop i) r l)):=by
 obtain⟨_,h1,h2⟩:=J4 h;refine down _ ?_ ?_
 .intro r l hb;apply Wj.1.2.1.1;rw[Ap,Ym];refine⟨_,Z98 (hb.le h2 Z),?_⟩;unfold N5 epR;rcases ft (QH ⟨V9 (ZB n) [(ZB n:Int)] [],r,l⟩)with e|e
  .rw[e,Ya rfl];simp only[e,if_true];rfl
  .rw[e,Yb Sm];simp only[e];rfl
 .intro i hi ih r l hb;apply Wj.1.2.1.1;rw[Ao,wS hi Z,Yh hi,N5];refine⟨Z,_,gE hi,_,ZH _ _ _,?_⟩;rcases ft (Ak ys[i].To 1 (ZB n))with e|e
  .have e':=ZM.1 e;rw[e,Ya rfl];refine⟨_,ZH _ _ _,?_⟩;by_cases c1:ys[i].From<0
   .rw[Yb (by rw[show Ak ys[i].From 0 (ZB n)=false by simp[Ak];omega];decide),show Qz (ZB n) ys[i]=none from Ap];rfl
   by_cases c2:Aj ys[i].From ys[i].To=ys[i].From
   .have hle:=ZMh (show 0<=ys[i].From by omega) Z c2;rw[Ya (ZM.2 ⟨Z,Z⟩),Ya c2];by_cases c3:ys[i].From=ys[i].To
    .rw[Ya c3,show Qz (ZB n) ys[i]=none from Yb (λhc=>hc.2.2.2 c3)];rfl
    rw[Yb c3,Ap,show Qz (ZB n) ys[i]=some (V9 (ZB n) [ys[i].To] [ys[i].From])from Ya ⟨e,Z,c2,c3⟩];have hadd:=hb.add [ys[i].To] [ys[i].From] ys[i].Bits;have hr:=hb.r;have hl:=hb.l
    grind [ZpR]
   .rw[Yb c2,show Qz (ZB n) ys[i]=none from Yb (λhc=>c2 hc.2.2.1)];split<;>rfl
  .rw[e,Yb Sm,show Qz (ZB n) ys[i]=none from Yb (by rw[e];simp)];rfl
theorem ZMi{ys:List ZG}(hy:ys.length<=60):LP ys n=some (oP (H9 ys n)):=by
 have h':=ZM.1 h;obtain⟨e,h1,h2⟩:=J4 h;have hel:=ZAs h;refine Z8h _ _ _ ⟨_,ZH _ _ _,?_⟩;rw[h,Ya rfl,e];refine⟨Z,_,ZpR h [(ZB n:Int)] [] Om Om Om,_,ZMd h,Z,Z,by rw[Yj];exact Z9D Z,Z,?_⟩;rw[Yj];have:=oQ h ys hy 0 (Yc _) (elem n) (List.replicate (elem n).length 0) ⟨Z,Om,ZLW⟩;rw[Yq]at this;refine Yg this ?_;unfold H9 epR
 grind
omit h in
theorem ZAy{full:Nat}:∀(ys:List ZG) (r:XV) (l:WL) (o:XV×WL),r≠[]->N5 full ys r l=some o->o.1≠[]
 |[],r,l,o,hr,h=>by cases h;exact hr
 |y::ys,r,l,o,hr,h=>by
  unfold N5 at h
  cases e:Qz full y with
  |none=>rw[e]at h;cases h
  |some row=>rw[e]at h;exact ZAy ys _ _ o Om h
omit h in
theorem ZMj{ys:List ZG}{n:Int}{p:Program}(h:H9 ys n=some p):QH p=true/\p.Rows≠[]:=by
 unfold H9 at h;split at h
 .rename_i hn;split at h
  .cases h
  .rename_i r lm he;split at h
   .rename_i hp;cases h;have hel:=ZAs hn;exact⟨hp,ZAy _ _ _ _ (λhc=>by rw[hc]at hel;simp at hel) he⟩
   .cases h
 .cases h
end
def N6{p:Program}(h:QH p=true):H4 p/\p.Objective≠[]:=by
 have:=ZpG h;have h1:=this.o;have h2:=this.r;have h3:=this.l;exact⟨⟨Z,Z,Z,λr hr=>by have:=this.row r hr;omega⟩,λhc=>by rw[hc]at h1;simp at h1⟩
def Gs(s:Zr)(q:Zc)(m:Int):Option Zb:=if Fb s q m=[]then none else(match H9 (QI (Fb s q m) (XH q m)) (XH q m).length with
 |none=>none
 |some p=>(SW p).map Zv.Value)
def ZMk{o:Option Zv}{r:Rs}(h:Ans o r):∃P D:List Zb,r=some (.tup [.agg [I ((o.map Zv.Value).getD r0).Num,I ((o.map Zv.Value).getD r0).Den,.own 0,.own 1],Bo (o.map Zv.Value).isSome],[.arr 54 2 true (P.map Zb.c),.arr 54 2 true (D.map Zb.c)]):=by
 cases o with
 |none=>exact⟨[],[],h⟩
 |some d=>obtain⟨P,D,Ch⟩:=h;exact⟨P,D,Ch⟩
theorem ZMl{s:Zr}{q:Zc}(c:Ctx s q)(m:Int):Ak ((XH q m).length:Int) 1 4=true\/(XH q m).length=0:=by
 have:=MY q c.vq m
 grind [ZM]
theorem ZMm(ys:List ZG):True/\LP ys 0=some (oP none)/\H9 ys 0=none:=by
 refine⟨trivial,Z8h _ _ _ ⟨_,ZH _ _ _,?_⟩,rfl⟩;rw[Yb Sm];rfl
section
variable{s:Zr}{q:Zc}(c:Ctx s q){m:Int}(h1:1<=m)(h2:m<2 ^ q.Atoms.length)(le:BD s q m=true)
include c h1 h2 le
omit h1 h2 le in
theorem oS:LP (QI (Fb s q m) (XH q m)) (XH q m).length=some (oP (H9 (QI (Fb s q m) (XH q m)) (XH q m).length)):=by
 grind [ZMl,ZMi,ZAx,ZAw,ZMm]
theorem ZMn:fG s q m=some (oR (Gs s q m)):=by
 have hq:=ZAw c m;have hv4:=MY q c.vq m;have hMQ:MQ q.Atoms m:=⟨Z,h2⟩;have h16:=NW Z h2 c.n4.2;have key:∃P D:List Zb,yW s q m=some (.tup [.agg [I ((Gs s q m).getD r0).Num,I ((Gs s q m).getD r0).Den,.own 0,.own 1],Bo (Gs s q m).isSome],[.arr 54 2 true (P.map Zb.c),.arr 54 2 true (D.map Zb.c)]):=by
  unfold Gs;by_cases e0:Fb s q m=[]
  .rw[Ya e0];refine⟨[],[],XK.2.1.1.1 _ _ _ _ ⟨[],[],[],false,Wj.1.2.1.2 _ _ _ _ ⟨_,Z0b c h16 le,?_⟩,?_⟩⟩
   .simp_all
   .rw[Yb Sm];rfl
  .have hp:=Y4.2 e0;rw[Yb e0];have hE:=oS c (m:=m);have hR:=ZMg (l:=Fb s q m) hv4 Z
   cases e1:H9 (QI (Fb s q m) (XH q m)) (XH q m).length with
   |none =>
    rw[e1]at hE;refine⟨[],[],XK.2.1.1.1 _ _ _ _ ⟨[],[],[],false,Wj.1.2.1.2 _ _ _ _ ⟨_,Z0b c h16 le,?_⟩,?_⟩⟩
    .rw[Ap];exact⟨_,Zpr q c.lq c.vq m hMQ,_,hR,[],[],[],false,hE,rfl⟩
    .rw[Yb Sm];rfl
   |some p =>
    rw[e1]at hE;obtain⟨hok,hrows⟩:=ZMj e1;obtain⟨hle,Acs⟩:=N6 hok;obtain⟨P,D,Ch⟩:=ZMk (ZKW hle hrows);refine⟨P,D,XK.2.1.1.1 _ _ _ _ ⟨p.Objective,p.Rows,p.Limits,true,Wj.1.2.1.2 _ _ _ _ ⟨_,Z0b c h16 le,?_⟩,?_⟩⟩
    .rw[Ap];exact⟨_,Zpr q c.lq c.vq m hMQ,_,hR,_,_,_,true,hE,rfl⟩
    .rw[Ya rfl];exact⟨_,_,_,_,Ch,rfl⟩
 obtain⟨P,D,Ch⟩:=key;exact XK.2.1.1.2 _ _ _ _ ⟨_,_,_,_,Ch,rfl⟩
end
theorem ZMo{s:Zr}{q:Zc}{m:Int}{r:Zb}(h:Gs s q m=some r):vR r=true/\0<=r.Num:=by
 unfold Gs at h;split at h
 .cases h
 split at h
 .cases h
 .rename_i p _
  cases e:SW p with
  |none=>rw[e]at h;cases h
  |some d =>
   rw[e]at h;cases h;have:=ZKX e;exact⟨this.v.vv,this.x⟩
def oT(s:Zr)(q:Zc)(l:V2):Bool:=l.any λi=>decide (VF s q i=0)
def Kq(s:Zr)(q:Zc)(m:Int):Int:=if oT s q (ZD m 0 q.Atoms.length)=true then 0 else match Gs s q m with
 |none=>4096
 |some r=>lX r
section
variable{s:Zr}{q:Zc}(c:Ctx s q)
include c
theorem oU{m:Int}(h1:1<=m)(h2:m<2 ^ q.Atoms.length)(le:BD s q m=true):∀i,i<=q.Atoms.length->fK s q m i=some (I (if oT s q (ZD m i (q.Atoms.length-i))=true then 0 else match Gs s q m with|none=>4096|some r=>lX r),[]):=by
 have hn4:=c.n4;refine down _ ?_ ?_
 .apply X8.1.1.1.1;rw[Ap,DY,Yb (by simp[oT,ZD])];refine⟨_,_,ZMn c h1 h2 le,?_⟩
  grind [ZMo,ZLd]
 .intro i hi ih;apply X8.1.1.1.1;rw[Ao,wS hi Z,show q.Atoms.length-i=(q.Atoms.length-(i+1))+1 by omega,ZD];refine⟨Z,?_⟩;by_cases e:Aj (At m i) 1=1
  .rw[Ya e,Ya (show Z1 m i=true from decide_eq_true e)];refine⟨_,_,_,_,NU c hi,?_⟩;have e0:oT s q (i::ZD m (i+1) (q.Atoms.length-(i+1)))=(decide (VF s q i=0) || oT s q (ZD m (i+1) (q.Atoms.length-(i+1)))):=rfl;rw[e0];by_cases e:VF s q i=0
   .rw[show((Xw s q i).Rows.length:Int)=VF s q i from rfl,Ya e,decide_eq_true e,Ya (by rfl)]
   .rw[show((Xw s q i).Rows.length:Int)=VF s q i from rfl,Yb e,decide_eq_false e,Fh];exact ih
  .rw[Yb e,Yb (show ¬Z1 m i=true by unfold Z1;simpa using e)];exact ih
theorem ZMp{m:Int}(h1:1<=m)(h2:m<2 ^ q.Atoms.length)(le:BD s q m=true):RG s q m=some (I (Kq s q m),[]):=by
 refine X8.1.1.1.2 _ _ _ _ ⟨_,Kp c.le c.lq m,?_⟩;rw[le,Ya rfl];exact oU c h1 h2 le 0 (Yc _)
end
def Z0c(P C:Int)(p e:Option Int):Int×Int :=
 let a:=if C<P then(C,2)else(P,1)
 let b:=match p with
  |some x=>if x<a.1 then(x,3)else a
  |none=>a
 match e with
 |some x=>if x<b.1 then(x,4)else b
 |none=>b
def ZpU(s:Zr)(q:Zc)(l:V2):Option Int:=match l with
 |[a,b]=>some (ZAl s q a b)
 |_=>none
def ZpV(s:Zr)(q:Zc)(m:Int):Int×Int:=Z0c (ZpQ s q (ZD m 0 q.Atoms.length) 1) (CC s q 4 0 m) (ZpU s q (ZD m 0 q.Atoms.length)) (if 1<(ZD m 0 q.Atoms.length).length then some (Kq s q m)else none)
def ZAz{m:Int}:∀{k i a b:Nat} {l:V2},ZD m i k=a::b::l->a<b
 |0,i,a,b,l,h=>by cases h
 |k+1,i,a,b,l,h=>by
  rw[ZD]at h;split at h
  .obtain⟨rfl,h2⟩:=List.cons.inj h
   have:b∈ZD m (i+1) k:=by rw[h2];simp
   have:=NV this;omega
  .exact ZAz h
section
variable{s:Zr}{q:Zc}(c:Ctx s q){m:Int}(h1:1<=m)(h2:m<2 ^ q.Atoms.length)(le:BD s q m=true)
include c h1 h2 le
theorem N7:fN s q m=some (.tup [I (ZpV s q m).1,I (ZpV s q m).2],[]):=by
 have h16:=NW Z h2 c.n4.2;have hmem:∀i∈ZD m 0 q.Atoms.length,i<q.Atoms.length:=λi hi=>by have:=NV hi;omega
 have hne:=@ZAz m q.Atoms.length 0;have hE:=ZMp c h1 h2 le;have hM:=Z8t h16;rw[c.msk h1 h2]at hM;refine X8.1.2.1.2 _ _ _ _ ⟨_,Kp c.le c.lq m,?_⟩;rw[le,Ya rfl];refine⟨_,ZLO c h1 h2 le,_,ZLT c h1 h2 le,?_⟩;unfold ZpV;generalize ZpQ s q (ZD m 0 q.Atoms.length) 1=P;generalize CC s q 4 0 m=C;generalize ZD m 0 q.Atoms.length=l at hmem hne hM;have j1:∀(n r:Int),1<l.length->fO s q (l.map λn:Nat=>(n:Int)) m n r=some (.tup [I (if Kq s q m<n then((Kq s q m,4):Int×Int)else(n,r)).1,I (if Kq s q m<n then((Kq s q m,4):Int×Int)else(n,r)).2],[]):=by
  grind [X8.1.1.2.1,List.length_map]
 have j1a:∀(n r x:Int),1<l.length->fP s q (l.map λn:Nat=>(n:Int)) m n r x false=some (.tup [I (if Kq s q m<n then((Kq s q m,4):Int×Int)else(n,r)).1,I (if Kq s q m<n then((Kq s q m,4):Int×Int)else(n,r)).2],[]):=by
  grind [X8.1.1.2.2,List.length_map]
 have j1b:∀(n r:Int),fQ s q (l.map λn:Nat=>(n:Int)) m n r false=some (.tup [I (match(if 1<l.length then some (Kq s q m)else none:Option Int)with|some x=>if x<n then((x,4):Int×Int)else(n,r)|none=>(n,r)).1,I (match(if 1<l.length then some (Kq s q m)else none:Option Int)with|some x=>if x<n then((x,4):Int×Int)else(n,r)|none=>(n,r)).2],[]):=by
  intro n r;apply X8.1.2.1.1
  grind
 by_cases two:l.length=2
 .obtain⟨a,b,rfl⟩:∃a b,l=[a,b]:=by
   match l,two with
   |[a,b],_=>exact⟨a,b,rfl⟩
  .have hab:=hne rfl;have hPB:=ZLV c (hmem a Om) (hmem b Om) (show a≠b by omega);unfold Z0c ZpU;simp only[Yy,Ff];rw[Ya (show(1:Nat)<0+1+1 by decide)];simp only;by_cases cP:C<P
   .rw[Ya cP];simp only[Ya cP];refine⟨_,hM,?_⟩
    simp_all
   .rw[Yb cP];simp only[Yb cP];refine⟨_,hM,?_⟩
    simp_all
 .have hp:ZpU s q l=none:=by
   unfold ZpU
   grind
  unfold Z0c;rw[hp];simp only;by_cases cP:C<P
  .grind
  .grind
end
open Classical in
def Ta(s:Zr)(q:Zc)(m:Int):Int×Int:=if BD s q m=true then ZpV s q m else(-1,0)
def ZMq{s:Zr}{q:Zc}(h:Vq s)(hq:AS q)(m:Int):fN s q m=some (.tup [I (Ta s q m).1,I (Ta s q m).2],[]):=by
 unfold Ta;rcases ft (BD s q m)with e|e
 .grind [nY,N7]
 .simp_all [X8.1.2.1.2,Kp]
def ZMr{s:Zr}{q:Zc}(h:Vq s)(hq:AS q)(m:Int):y6 s q m=some (I (Ta s q m).1,[]):=X8.1.2.2.1 _ _ _ _ ⟨_,_,ZMq h hq m,rfl⟩
def Tb(s:Zr)(q:Zc)(m:Nat):Int:=if Wt q.Atoms (m:Int)=true/\m≠0 then(Ta s q m).1 else 0
def Ia(s:Zr)(q:Zc)(k:Nat):WL:=(List.range k).map (Tb s q)
def ZMs(s:Zr)(q:Zc)(k:Nat):Ia s q (k+1)=Ia s q k++[Tb s q k]:=by
 unfold Ia;rw[DX,CE];rfl
def ZA0(s:Zr)(q:Zc)(k:Nat):(Ia s q k).length=k:=by simp[Ia]
def oV(s:Zr)(q:Zc):WL:=if BD s q 1=true then Ia s q (2 ^ q.Atoms.length)else[]
def N8{s:Zr}{q:Zc}(c:Ctx s q){m:Int}(h1:1<=m)(h2:m<2 ^ q.Atoms.length):BD s q m=true:=by
 have e1:=c.st;have e2:=c.qf;have h3:=(Jc c.vq).2.1;unfold BD;rw[e1,e2,Yl,Yl];refine ZM.2 ⟨h1,?_⟩;unfold Z7;rw[Ya c.vq,h3];omega
section
variable{s:Zr}{q:Zc}(c:Ctx s q)
include c
theorem N9:∀k:Nat,k<=2 ^ q.Atoms.length->RH s q (Ia s q k) k=some (.own 0,[.arr ZV 1 true ((Ia s q (2 ^ q.Atoms.length)).map ic)]):=by
 have hf:=Jt c.vq;have hp:=HT q.Atoms.length;have h16:2 ^ q.Atoms.length<=16:=Nat.pow_le_pow_right (Z:0<2) (WZ c.vq).2;refine down _ ?_ ?_
 .refine X8.1.2.2.2.1 _ _ _ _ _ ⟨_,Ue q c.lq,?_⟩
  grind
 .intro k hk ih;have DH:w ((k:Int)+1)=((k+1:Nat):Int):=by rw[show((k+1:Nat):Int)=(k:Int)+1 by omega];exact ZF Z Z
  have hr:Ak (k:Int) 0 (Z7 q.Zg q.Atoms)=true:=ZM.2 ⟨Z,by rw[hf];omega⟩;have ec:Wm q.Zg q.Atoms k=(decide ((k:Int)≠0) && Wt q.Atoms k):=by unfold Wm;rw[c.vq,hr,Yl,Yl]
  have hl:=ZA0 s q k;refine X8.1.2.2.2.1 _ _ _ _ _ ⟨_,Ue q c.lq,?_⟩;rw[Ya (by rw[hf];omega)];refine⟨_,HS q c.lq k,?_⟩;rw[DH,ec];rw[ZMs]at ih;rcases ft (decide ((k:Int)≠0) && Wt q.Atoms k)with e|e
  .rw[Ya e];refine⟨_,ZMr c.le c.lq k,Z,?_⟩;simp only[Yd,decide_eq_true_eq]at e;have ea:Tb s q k=(Ta s q k).1:=by unfold Tb;rw[Ya ⟨e.2,Z⟩]
   rw[ea]at ih;exact ih
  .rw[Yb (by rw[e];decide)];refine⟨Z,?_⟩;have ea:Tb s q k=0:=by
    unfold Tb;rw[Yb];rintro⟨h1,h2⟩
    simp_all
   rw[ea]at ih;exact ih
end
def ZA1{s:Zr}{q:Zc}:BD s q (Z7 q.Zg q.Atoms)=BD s q 1:=by
 unfold BD;congr 2;by_cases h:1<=Z7 q.Zg q.Atoms
 .rw[ZM.2 ⟨h,Int.le_refl _⟩,ZM.2 ⟨Int.le_refl _,h⟩]
 .have e1:Ak (Z7 q.Zg q.Atoms) 1 (Z7 q.Zg q.Atoms)≠true:=λhh=>h (ZM.1 hh).1
  have e2:Ak 1 1 (Z7 q.Zg q.Atoms)≠true:=λhh=>h (ZM.1 hh).2
  simp_all
def Z0d{s:Zr}{q:Zc}(h:Vq s)(hq:AS q):y8 s q=some (.own 0,[.arr ZV 1 true ((oV s q).map ic)]):=by
 refine X8.1.2.2.2.2 _ _ _ ⟨_,Ue q hq,_,Kp h hq _,?_⟩;rw[ZA1];unfold oV;rcases ft (BD s q 1)with e|e
 .obtain⟨c,h1,h2⟩:=nY h hq e;rw[Ya e,Ya e];exact N9 c 0 (Yc _)
 .simp_all
def ZpW(n:Int):LW n=some (I (Jb n),[]):=by
 apply X8.2.1.2.2;unfold Jb;by_cases h0:n<0
 .simp_all
 rw[Yb h0,Yb h0];apply X8.2.1.2.1;rw[Ya Sm];refine⟨_,Gb _,?_⟩;rw[show Xi 0=0 from by decide];by_cases h1:n<=0
 .simp_all
 rw[Yb h1,Yb h1,show w (0+1)=1 from by decide];apply X8.2.1.2.1;rw[Ya Sm];refine⟨_,Gb _,?_⟩;rw[show Xi 1=1 from by decide];by_cases h1:n<=1
 .simp_all
 rw[Yb h1,Yb h1,show w (1+1)=2 from by decide];apply X8.2.1.2.1;rw[Ya Sm];refine⟨_,Gb _,?_⟩;rw[show Xi 2=4 from by decide];by_cases h1:n<=4
 .simp_all
 rw[Yb h1,Yb h1,show w (2+1)=3 from by decide];apply X8.2.1.2.1;rw[Ya Sm];refine⟨_,Gb _,?_⟩;rw[show Xi 3=16 from by decide];by_cases h1:n<=16
 .simp_all
 rw[Yb h1,Yb h1,show w (3+1)=4 from by decide];apply X8.2.1.2.1;rw[Ya Sm];refine⟨_,Gb _,?_⟩;rw[show Xi 4=64 from by decide];by_cases h1:n<=64
 .simp_all
 rw[Yb h1,Yb h1,show w (4+1)=5 from by decide];apply X8.2.1.2.1;rw[Ya Sm];refine⟨_,Gb _,?_⟩;rw[show Xi 5=256 from by decide];by_cases h1:n<=256
 .simp_all
 rw[Yb h1,Yb h1,show w (5+1)=6 from by decide];apply X8.2.1.2.1;rw[Ya Sm];refine⟨_,Gb _,?_⟩;rw[show Xi 6=1024 from by decide];by_cases h1:n<=1024
 .simp_all
 rw[Yb h1,Yb h1,show w (6+1)=7 from by decide];apply X8.2.1.2.1;rw[Ya Sm];refine⟨_,Gb _,?_⟩;rw[show Xi 7=4096 from by decide];by_cases h1:n<=4096
 .simp_all
 rw[Yb h1,Yb h1,show w (7+1)=8 from by decide];simp[X8.2.1.2.1]
theorem Oa{α:Type}{x:List α}{i:Nat}(h:i<x.length)(f:α->Int):(x.take (i+1)).map f=(x.take i).map f++[f x[i]]:=by
 grind [List.take_add_one,List.getElem?_eq_getElem]
def oW(x y:WL)(hx:x.length<=1000)(hl:y.length=x.length):∀i,i<=x.length->fS x y ((x.take i).map Jb) ((y.take i).map Jb) i=some (.tup [.agg ((⟨x.map Jb,y.map Jb⟩:Box).c.map .t),Bo true],[]):=by
 refine down x.length ?_ ?_
 .apply X8.2.2.1.2;rw[Ap,Yr,<-hl,Yr];rfl
 .intro i hi ih;have hj:i<y.length:=by omega
  have DH:w ((i:Int)+1)=((i+1:Nat):Int):=by rw[show((i+1:Nat):Int)=(i:Int)+1 by omega];exact ZF Z Z
  apply X8.2.2.1.2;rw[Ao];refine⟨Z,x[i],by rw[Yj,Yf hi],_,ZpW _,by simp;omega,y[i],by rw[Yj,Yf hj],_,ZpW _,by simp;omega,?_⟩
  grind [Oa]
theorem oX(x y:WL)(h0:0<x.length)(hx:x.length<=1000)(hl:y.length=x.length):zC x y 0=some (.tup [.agg ((⟨x.map Jb,y.map Jb⟩:Box).c.map .t),Bo true],[]):=by
 have b:=oW x y hx hl 1 h0;apply X8.2.2.1.1;obtain⟨a,x,rfl⟩:=List.exists_cons_of_ne_nil (List.ne_nil_of_length_pos h0);obtain⟨c,y,rfl⟩:=List.exists_cons_of_ne_nil (List.ne_nil_of_length_pos (Z:0<y.length));rw[Ya Om];refine⟨Sm,a,rfl,_,ZpW _,c,rfl,_,ZpW _,?_⟩;rw[show w (0+1)=1 from by decide];simpa using b
def fx(xs:WL)(v:Int):Int:=Ua (λx=>decide (v=x)) xs 0
def ZpX(v x:Zw):Bool:=decide (v.Name=x.Name/\v.Column=x.Column/\v.Into=x.Into/\v.IntoColumn=x.IntoColumn)
def oY(s:Zr)(a b:Zd)(v:Int):Bool:=(decide (a.Name=b.Name) && decide (fx a.Vars v=fx b.Vars v)) || s.Inclusions.any (ZpX ⟨a.Name,fx a.Vars v,b.Name,fx b.Vars v⟩)
def Ob(s:Zr)(q:Zc)(k:Nat)(v:Int)(l:V2):Bool:=l.any λa=>has (Bb q a).Vars v && oY s (Bb q a) (Bb q k) v
def oZ(q:Zc)(c:Int)(k:Nat):WL:=(Bb q k).Vars.filter (has (XH q c))
def Ib(s:Zr)(q:Zc)(c:Int)(k:Nat):Bool:=if Aj (At c k) 1=1 then false else match oZ q c k with
 |[v]=>Ob s q k v (ZD c 0 q.Atoms.length)
 |_=>false
section
variable{s:Zr}{q:Zc}(c:Ctx s q)
include c
theorem atv{i:Nat}(h:i<q.Atoms.length):Le (Bb q i).Vars:=by have:=c.vars3 h;omega
theorem ZA2{k:Nat}(hk:k<q.Atoms.length)(v:Int):dF (Bb q k) v=some (I (fx (Bb q k).Vars v),[]):=by
 have h3:=c.vars3 hk;have l:∀i,i<=(Bb q k).Vars.length->dG (Bb q k) v i=some (I (Ua (λx=>decide (v=x)) ((Bb q k).Vars.drop i) i),[]):=by
  refine down _ ?_ ?_
  .apply Wa.1.1.1.1;rw[Ap,Ym];rfl
  .intro i hi ih;apply Wa.1.1.1.1;rw[Ao,wS hi Z,Zrd _ hi];refine⟨Z,_,gE hi,?_⟩
   grind
 exact Wa.1.1.1.2 _ _ _ (l 0 (Yc _))
theorem Oc{v:WL}{want:Zw}{mask i k:Int}{R:Bool}(hR:LH s q v mask i (w (k+1))=some (Bo R,[])):∀j,j<=s.Inclusions.length->dI s q v want mask i k j=some (Bo ((s.Inclusions.drop j).any (ZpX want) || R),[]):=by
 have hx:=c.le.x;refine down _ ?_ ?_
 .simp_all [Wa.1.1.2.2,Ym]
 .intro j hj ih;apply Wa.1.1.2.2;rw[Ao,wS hj Z,Yh hj,Iw];refine⟨Z,_,gE hj,?_⟩;by_cases e:s.Inclusions[j].Name=want.Name/\s.Inclusions[j].Column=want.Column/\s.Inclusions[j].Into=want.Into/\s.Inclusions[j].IntoColumn=want.IntoColumn
  .rw[Ya e,show ZpX want s.Inclusions[j]=true from decide_eq_true ⟨e.1.symm,e.2.1.symm,e.2.2.1.symm,e.2.2.2.symm⟩];rfl
  .rw[Yb e,show ZpX want s.Inclusions[j]=false from decide_eq_false λh=>e ⟨h.1.symm,h.2.1.symm,h.2.2.1.symm,h.2.2.2.symm⟩,Fh];exact ih
theorem Od{cc:Int}(cd:AX cc){i:Nat}(hi:i<q.Atoms.length)(v:Int):∀k,k<=q.Atoms.length->LH s q [v] cc i k=some (Bo (Ob s q i v (ZD cc k (q.Atoms.length-k))),[]):=by
 have hn4:=c.n4;refine down _ ?_ ?_
 .apply Wa.1.1.2.1;rw[Ap,DY];rfl
 .intro k hk ih;apply Wa.1.1.2.1;rw[Ao,show q.Atoms.length-k=(q.Atoms.length-(k+1))+1 by omega,ZD];refine⟨Z,?_⟩;rcases ft (Z1 cc k)with e|e
  .rw[Yb (λhc=>by rw[(Gd cd Z).1 hc]at e;cases e),e,Ya rfl,Ob,Iw];refine⟨Z,_,NT hk,v,rfl,_,Qn _ _ (atv c hk),?_⟩;rcases ft (has (Bb q k).Vars v)with e2|e2
   .rw[e2,Ya rfl,Yl,oY];refine⟨_,ZA2 c hk v,Z,_,NT hi,_,ZA2 c hi v,?_⟩;have cont:=Oc c (v:=[v]) (want:=⟨(Bb q k).Name,fx (Bb q k).Vars v,(Bb q i).Name,fx (Bb q i).Vars v⟩) (mask:=cc) (i:=i) (k:=k) (by rw[wS hk Z];exact ih) 0 (Yc _);rw[Yq]at cont;by_cases en:(Bb q k).Name=(Bb q i).Name
    .rw[Ya en];by_cases ef:fx (Bb q k).Vars v=fx (Bb q i).Vars v
     .simp_all
     .rw[Yb ef,decide_eq_false ef,Bool.and_false,Fh];exact cont
    .rw[Yb en,decide_eq_false en,Gy,Fh];exact cont
   .rw[e2,Yb Sm,Gy,Fh,wS hk Z];exact ih
  .grind [Gd,wS]
end
def ZA3{n:Int}:∀{vs c:WL},W9 n c vs=true->vs.Nodup/\∀v∈vs,v ∉ c
 |[],_,_=>⟨Y2,λv hv=>by cases hv⟩
 |x::xs,c,h=>by
  simp only[W9,Yd,Bool.not_eq_true']at h;obtain⟨h1,h2⟩:=ZA3 h.2
  grind [Q1,List.nodup_cons]
def Z0e{A B:WL}(hB:B.Nodup)(h:∀x,x∈A↔x∈B){v:Int}(hA:A=[v]):B=[v]:=by
 subst hA;have hall:∀x∈B,x=v:=λx hx=>by simpa using(h x).2 hx
 match B,hB,h v with
 |[],_,hv=>exact absurd (hv.1 Om) Om
 |[x],_,_=>rw[hall x Om]
 |x::y::r,hn,_ =>
  simp_all
theorem Z0f{α:Type}(p:α->Bool){l:List α}(h:l.Nodup):(l.filter p).Nodup:=List.Pairwise.filter p h
def ZMt(m:Int)(qa:List Zd)(k:Nat):(XC m qa k).Nodup:=by
 unfold XC
 grind [List.range,Z0f,List.nodup_range]
section
variable{s:Zr}{q:Zc}(c:Ctx s q)
include c
theorem Z0g{k:Nat}(hk:k<q.Atoms.length)(cc x:Int):x∈oZ q cc k↔x∈Vd q cc (Ac 1 k):=by
 have hA:Bb q k=q.Atoms[k]:=by unfold Bb;rw[DZ,Yf hk];rfl
 have hok:WE q.Zg (Bb q k)=true:=by
  have hv:=c.vq;simp only[Z3,Yd,Yn]at hv
  simp_all
 have e:has (XH q (Ac 1 k)) x=has (Bb q k).Vars x:=by
  rw[show has (XH q (Ac 1 k)) x=Bg q.Atoms (Ac 1 k) x from aX c.vq _ _,hA];unfold Bg;rcases ft (Ak x 0 3)with ei|ei
  .rw[ei,Yl,MS _ c.n4.2 hk]
   grind [ZM]
  .rw[ei,Gy];refine(Bool.eq_false_iff.2 λhh=>?_).symm;rw[<-hA]at hh;simp only[WE,Yd]at hok;have h1:=ZM.1 (vL hok.2 x (Q1.1 hh));have h2:=K0 c.vq
   grind [ZM]
 unfold oZ Vd
 grind [Q1]
theorem ZA4{got:Int}(h1:1<=got)(h2:got<2 ^ q.Atoms.length){k:Nat}(hk:k<q.Atoms.length):w9 s q got k=some (Bo (Ib s q got k),[]):=by
 have h16:=NW Z h2 c.n4.2;have hn4:=c.n4;have hA:Bb q k=q.Atoms[k]:=by unfold Bb;rw[DZ,Yf hk];rfl
 have hnA:(oZ q got k).Nodup:=by
  have hv:=c.vq;simp only[Z3,Yd,Yn]at hv;have hok:=hv.1.2 _ (Ye hk);rw[<-hA]at hok;simp only[WE,Yd]at hok;exact Z0f _ (ZA3 hok.2).1
 have hnB:(Vd q got (Ac 1 k)).Nodup:=Z0f _ (ZMt _ _ _);have wn:w ((q.Atoms.length:Int)-1)=(q.Atoms.length:Int)-1:=ZF Z Z;have hf:MQ q.Atoms got:=Zzq c.vq (ZM.2 ⟨Z,by rw[Jt c.vq];omega⟩);refine Wa.1.2.1.1 _ _ _ _ _ ⟨_,Kp c.le c.lq got,?_⟩;rw[N8 c h1 h2,Ya rfl];refine⟨_,ZH _ _ _,?_⟩;rw[wn,ZM.2 ⟨Z,Z⟩,Ya rfl];refine⟨Z,?_⟩;unfold Ib;by_cases eb:Aj (At got k) 1=1
 .simp_all
 rw[Yb eb,Yb eb];refine⟨_,Zzs q c.lq c.vq got (Ac 1 k) hf (ZzV c hk),?_⟩
 match hS:oZ q got k with
 |[v] =>
  have hB:=Z0e hnB (Z0g c hk got) hS;rw[hB,Ya (by rfl)];have:=Od c h16 hk v 0 (Yc _)
  exact this
 |[] =>
  rw[Yb];intro h;obtain⟨v,hv⟩:=List.length_eq_one_iff.1 (by exact_mod_cast h:(Vd q got (Ac 1 k)).length=1);have:=Z0e hnA (λx=>(Z0g c hk got x).symm) hv
  simp_all
 |a::b::r =>
  rw[Yb];intro h;obtain⟨v,hv⟩:=List.length_eq_one_iff.1 (by exact_mod_cast h:(Vd q got (Ac 1 k)).length=1);have:=Z0e hnA (λx=>(Z0g c hk got x).symm) hv
  simp_all
end
def Fc(s:Zr)(q:Zc):Nat->Int->Int->Bool
 |0,_,left=>decide (left=0)
 |f+1,got,left=>if left=0 then true else(ZD left 0 4).any λi=>Ib s q got i && Fc s q f (Au got (Ac 1 i)) (ZA left (Ac 1 i))
theorem ZA5(s:Zr)(q:Zc)(f:Nat)(g:Int):Fc s q f g 0=true:=by
 cases f<;>rfl
def o7:∀(n:Fin 5) (g:Fin 16) (i:Fin 4),g.1<2 ^ n.1->i.1<n.1->1<=Au (g.1:Int) (Ac 1 i.1)/\Au (g.1:Int) (Ac 1 i.1)<2 ^ n.1:=by decide +kernel
def o8:∀(n:Fin 5) (i:Fin 4),i.1<n.1->1<=Ac 1 (i.1:Int)/\Ac 1 (i.1:Int)<2 ^ n.1/\Au 0 (Ac 1 (i.1:Int))=Ac 1 (i.1:Int):=by decide +kernel
def o9:∀(m:Fin 16) (i:Fin 4),Z1 (m.1:Int) i.1=true->Aj (Ac 1 (i.1:Int)) m.1=Ac 1 (i.1:Int):=by decide +kernel
def ZMu(k:Nat):((2:Int) ^ k)=(((2:Nat) ^ k:Nat):Int):=by push_cast;rfl
def Oe{n:Nat}(hn:n<=4){g:Int}(h:AX g)(hg:g<2 ^ n){i:Nat}(hi:i<n):1<=Au g (Ac 1 i)/\Au g (Ac 1 i)<2 ^ n:=by
 obtain⟨a,rfl⟩:=m16 h;have e:=ZMu n;exact o7 ⟨n,Z⟩ a ⟨i,Z⟩ (by simp only;omega) hi
def pC{n:Nat}(hn:n<=4){i:Nat}(hi:i<n):1<=Ac 1 (i:Int)/\Ac 1 (i:Int)<2 ^ n/\Au 0 (Ac 1 (i:Int))=Ac 1 (i:Int):=o8 ⟨n,Z⟩ ⟨i,Z⟩ hi
section
variable{s:Zr}{q:Zc}(c:Ctx s q)
include c
end
def Uk(l:WL)(u:Int):Int:=l.foldl (λu x=>Au u (Ac 1 x)) u
def ZMv(l:WL)(u x:Int):Uk (l++[x]) u=Au (Uk l u) (Ac 1 x):=by unfold Uk;rw[List.foldl_append];rfl
def WkR(o:WL)(mask c:Int)(b:Bool)(r:Rs):Prop :=
 (c=mask/\r=some (.own 0,[.arr 3 1 true (o.map ic)]))\/
 (c≠mask/\∃y:WL,(0<(y.length:Int)↔b=true)/\r=some (.own 1,[.arr 3 1 true (o.map ic),.arr 3 1 true (y.map ic)]))
def pD(s:Zr)(q:Zc)(o:WL)(mask:Int)(ho:o.length<=1000)(hp:∀x∈o,0<=x):∀i,i<=o.length->∀u r,(if Uk (o.drop i) u=mask then some (AV.own 0,[Ax.arr 3 1 true (o.map ic)])=some r else Ka o s q mask (Uk (o.drop i) u) 0=some r)->dJ o s q mask u i=some r:=by
 refine down _ ?_ ?_
 .intro u r hr;rw[Ym]at hr;apply Wa.1.2.1.2;rw[Ap];exact hr
 .intro i hi ih u r hr;rw[Yh hi]at hr;apply Wa.1.2.1.2;rw[Ao,wS hi Z];exact⟨Z,_,gE hi,by have:=hp _ (Ye hi);omega,ih _ _ hr⟩
def pE{s:Zr}{q:Zc}{o:WL}{mask:Int}{b:Bool}(ho:o.length<=1000)(hp:∀x∈o,0<=x)(h:Uk o 0≠mask->∃y:WL,(0<(y.length:Int)↔b=true)/\Ka o s q mask (Uk o 0) 0=some (.own 1,[.arr 3 1 true (o.map ic),.arr 3 1 true (y.map ic)])):WkR o mask (Uk o 0) b (QZ o s q mask):=by
 by_cases e:Uk o 0=mask
 .refine .inl ⟨e,Wa.1.2.2.2.1 _ _ _ _ _ (pD s q o mask ho hp 0 (Yc _) 0 _ ?_)⟩
  simp_all
 .obtain⟨y,h1,h2⟩:=h e;refine .inr ⟨e,y,h1,Wa.1.2.2.2.1 _ _ _ _ _ (pD s q o mask ho hp 0 (Yc _) 0 _ ?_)⟩
  simp_all
section
variable{s:Zr}{q:Zc}(c:Ctx s q)
include c
theorem AbB{f:Nat}{mask used:Int}(hm:AX mask)(co:mask<2 ^ q.Atoms.length)(hu:AX used)(cn:1<=used)(cc:used<2 ^ q.Atoms.length)(hs:Aj used mask=used)(cp:used≠mask)(hp:Xe (ZA mask used)<=f+1)(o:WL)(ho:o.length+f+1<=1000)(cd:∀x∈o,0<=x)(cl:Uk o 0=used)
  (ih:∀(p:WL) (u:Int),p.length+f<=1000->(∀x∈p,0<=x)->Uk p 0=u->AX u->1<=u->u<2 ^ q.Atoms.length->Aj u mask=u->Xe (ZA mask u)<=f->WkR p mask u (Fc s q f u (ZA mask u)) (QZ p s q mask)) :
  ∀i,i<=q.Atoms.length->∃y:WL,(0<(y.length:Int)↔((ZD (ZA mask used) i (q.Atoms.length-i)).any λi=>Ib s q used i && Fc s q f (Au used (Ac 1 i)) (ZA (ZA mask used) (Ac 1 i)))=true)/\Ka o s q mask used i=some (.own 1,[.arr 3 1 true (o.map ic),.arr 3 1 true (y.map ic)]):=by
 have hn4:=c.n4;have Dh:AX (ZA mask used):=by
  obtain⟨a,rfl⟩:=m16 hm;obtain⟨u,rfl⟩:=m16 hu;exact(NZ a u hs).1
 refine down _ ?_ ?_
 .refine⟨[],by rw[DY];simp[ZD],Wa.1.2.2.1 _ _ _ _ _ _ _ ?_⟩;rw[Ap]
 .intro i hi oE;have hb:Z1 (ZA mask used) i=(Z1 mask i && !Z1 used i)/\(Z1 mask i=true->Aj (Au used (Ac 1 i)) mask=Au used (Ac 1 i))/\AX (Au used (Ac 1 i))/\ZA mask (Au used (Ac 1 i))=ZA (ZA mask used) (Ac 1 i):=by
   obtain⟨a,rfl⟩:=m16 hm;obtain⟨u,rfl⟩:=m16 hu;exact ZAk a u ⟨i,Z⟩ hs
  rw[show q.Atoms.length-i=(q.Atoms.length-(i+1))+1 by omega,ZD,hb.1];rcases ft (Z1 mask i)with e|e
  .have e1:Aj (At mask i) 1=1:=of_decide_eq_true e;rw[e,Yl];have skip:Ib s q used i=false->∀r,Ka o s q mask used ((i+1:Nat):Int)=some r->Ka o s q mask used i=some r:=by
    intro ee r hr;apply Wa.1.2.2.1;rw[Ao,Ya e1,wS hi Z]
    simp_all [ZA4]
   rcases ft (Z1 used i)with e2|e2
   .have ee:Ib s q used i=false:=by unfold Ib;rw[Ya (of_decide_eq_true e2)]
    grind
   .rw[e2,Ya (by rfl),Iw];rcases ft (Ib s q used i)with ee|ee
    .rw[ee,Yl];have hleft:Z1 (ZA mask used) i=true:=by rw[hb.1,e,e2];rfl
     have hpn:Xe (ZA mask (Au used (Ac 1 i)))<=f:=by
      rw[hb.2.2.2];obtain⟨a,ha⟩:=m16 Dh;rw[ha]at hp hleft|-;have:=(n9 a ⟨i,Z⟩ hleft).2;simp only at this;omega
     have hor:=Oe hn4.2 hu cc hi;have rcl:=ih (o++[(i:Int)]) (Au used (Ac 1 i)) (by simp;omega) (by intro x hx;rcases Yi.1 hx with h|h;exact cd x h;simp at h;omega) (by rw[ZMv,cl]) hb.2.2.1 hor.1 hor.2 (hb.2.1 e) hpn;rw[hb.2.2.2]at rcl
     have stp:∀r,((∃v2:WL,QZ (o++[(i:Int)]) s q mask=some (.own 0,[.arr 3 1 true (v2.map ic)])/\(if 0<(v2.length:Int)then some (AV.own 1,[Ax.arr 3 1 true (o.map ic),.arr 3 1 true (v2.map ic)])=some r else Ka o s q mask used ((i+1:Nat):Int)=some r))\/
       (∃v3 v4:WL,QZ (o++[(i:Int)]) s q mask=some (.own 1,[.arr 3 1 true (v3.map ic),.arr 3 1 true (v4.map ic)])/\(if 0<(v4.length:Int)then some (AV.own 1,[Ax.arr 3 1 true (o.map ic),.arr 3 1 true (v4.map ic)])=some r else Ka o s q mask used ((i+1:Nat):Int)=some r)))->Ka o s q mask used i=some r:=by
      intro r hr;apply Wa.1.2.2.1;rw[Ao,Ya e1,wS hi Z];refine⟨Z,_,ZA4 c cn cc hi,?_⟩
      grind
     rcases rcl with⟨r0,r1⟩|⟨r0,y,r1,r2⟩
     .have hz:ZA (ZA mask used) (Ac 1 i)=0:=by
       rw[<-hb.2.2.2];obtain⟨a,ha⟩:=m16 hm;obtain⟨u,hu'⟩:=m16 hb.2.2.1;have:=(NZ a u (by rw[<-ha,<-hu'];exact hb.2.1 e)).2
       simp_all
      rw[hz,ZA5,Bool.true_or];refine⟨o++[(i:Int)],Om,stp _ (.inl ⟨_,r1,?_⟩)⟩;rw[Ya Om]
     .rcases ft (Fc s q f (Au used (Ac 1 i)) (ZA (ZA mask used) (Ac 1 i)))with e5|e5
      .grind
      .grind
    .grind
  .have e1:¬Aj (At mask i) 1=1:=of_decide_eq_false e;obtain⟨y,h1,h2⟩:=oE;rw[e,Gy,Yb Sm]
   grind [Wa.1.2.2.1,wS]
theorem ZMw{mask:Int}(hm:AX mask)(cc:mask<2 ^ q.Atoms.length):∀(f:Nat),f<=5->∀(p:WL) (u:Int),p.length+f<=1000->(∀x∈p,0<=x)->Uk p 0=u->AX u->1<=u->u<2 ^ q.Atoms.length->Aj u mask=u->Xe (ZA mask u)<=f->WkR p mask u (Fc s q f u (ZA mask u)) (QZ p s q mask):=by
 intro f
 induction f with
 |zero =>
  intro _ p u hp hpos hou hu hu1 hu2 hs hpc;subst hou;refine pE Z hpos λhne=>?_
  exfalso;obtain⟨a,ha⟩:=m16 hm;obtain⟨w,hw⟩:=m16 hu;rw[ha,hw]at hs hpc hne;have k:=NZ a w hs;obtain⟨z,hz⟩:=m16 k.1;have k2:=k.2;rw[hz]at hpc k2;by_cases h:z.1=0
  .omega
  .grind [ZzU]
 |succ f ih =>
  intro hf p u hp hpos hou hu hu1 hu2 hs hpc;subst hou;refine pE Z hpos λhne=>?_
  have Dh:AX (ZA mask (Uk p 0))/\(Uk p 0=mask↔ZA mask (Uk p 0)=0):=by
   obtain⟨a,rfl⟩:=m16 hm;obtain⟨u,hu'⟩:=m16 hu;rw[hu']at hs|-;exact NZ a u hs
  have hlt:ZA mask (Uk p 0)<2 ^ q.Atoms.length:=by
   have:ZA mask (Uk p 0)<=mask:=by
    obtain⟨a,rfl⟩:=m16 hm;obtain⟨u,hu'⟩:=m16 hu
    simp_all [ZAh]
   omega
  have b:=AbB c hm cc hu hu1 hu2 hs hne hpc p Z hpos rfl (λy u a1 a2 a3 a4 a5 a6 a7 a8=>ih Z y u a1 a2 a3 a4 a5 a6 a7 a8) 0 (Yc _);rw[Fc,Yb (λh=>hne (Dh.2.2 h)),ZzT Dh.1.1 hlt c.n4.2];exact b
def Tc(s:Zr)(q:Zc)(m b:Int)(i:Nat):Int:=if Fc s q 4 (Ac 1 i) (ZA m (Ac 1 i))=true then(if b<VF s q i then VF s q i else b)else b
def lbV(s:Zr)(q:Zc)(m:Int):Int:=(ZD m 0 q.Atoms.length).foldl (Tc s q m) 0
theorem ZMx{m:Int}(h1:1<=m)(h2:m<2 ^ q.Atoms.length)(le:BD s q m=true){i:Nat}(hi:i<q.Atoms.length):∃y:WL,P9 s q m i=some (.own 0,[.arr 3 1 true (y.map ic)])/\(0<(y.length:Int)↔(Z1 m i && Fc s q 4 (Ac 1 i) (ZA m (Ac 1 i)))=true):=by
 have hn4:=c.n4;have h16:=NW Z h2 hn4.2;have wn:w ((q.Atoms.length:Int)-1)=(q.Atoms.length:Int)-1:=ZF Z Z;have stp:∀r,(if Aj (At m i) 1=0 then some (AV.own 0,[Ax.arr 3 1 true (([]:WL).map ic)])=some r else((∃v3:WL,QZ [(i:Int)] s q m=some (.own 0,[.arr 3 1 true (v3.map ic)])/\some (AV.own 0,[Ax.arr 3 1 true (v3.map ic)])=some r)\/(∃v4 v5:WL,QZ [(i:Int)] s q m=some (.own 1,[.arr 3 1 true (v4.map ic),.arr 3 1 true (v5.map ic)])/\some (AV.own 0,[Ax.arr 3 1 true (v5.map ic)])=some r)))->P9 s q m i=some r:=by
  intro r hr;refine Wa.1.2.2.2.2 _ _ _ _ _ ⟨_,Kp c.le c.lq m,?_⟩;rw[le,Ya rfl];refine⟨_,ZH _ _ _,?_⟩
  grind [ZM]
 rcases ft (Z1 m i)with e|e
 .have e1:¬Aj (At m i) 1=0:=λhc=>by rw[(Gd h16 Z).1 hc]at e;cases e
  have hsh:=pC hn4.2 hi;have hpm:=ZAj h16;have hpl:Xe (ZA m (Ac 1 i))<=4:=by
   obtain⟨a,rfl⟩:=m16 h16;have:=(n9 a ⟨i,Z⟩ e).2
   grind
  have hsub:Aj (Ac 1 (i:Int)) m=Ac 1 i:=by
   obtain⟨a,rfl⟩:=m16 h16;exact o9 a ⟨i,Z⟩ e
  have wk:=ZMw c h16 h2 4 Z [(i:Int)] (Ac 1 i) Om Om hsh.2.2 (NW Z hsh.2.1 hn4.2) hsh.1 hsh.2.1 hsub hpl;rw[e,Yl];rcases wk with⟨r0,r1⟩|⟨r0,y,r1,r2⟩
  .have hz:ZA m (Ac 1 i)=0:=by
    obtain⟨a,ha⟩:=m16 h16;obtain⟨u,hu'⟩:=m16 (NW Z hsh.2.1 hn4.2:AX (Ac 1 (i:Int)));have:=(NZ a u (by rw[<-ha,<-hu'];exact hsub)).2
    simp_all
   grind [ZA5]
  .grind
 .refine⟨[],stp _ ?_,by rw[e];simp⟩
  grind [Gd]
theorem pF{m:Int}(h1:1<=m)(h2:m<2 ^ q.Atoms.length)(le:BD s q m=true):∀i,i<=q.Atoms.length->∀b,Rd s q m b i=some (I ((ZD m i (q.Atoms.length-i)).foldl (Tc s q m) b),[]):=by
 have hn4:=c.n4;refine down _ ?_ ?_
 .intro b;apply Wq.1.1.1.1;rw[Ap,DY];rfl
 .intro i hi ih b;obtain⟨y,y1,y2⟩:=ZMx c h1 h2 le hi;apply Wq.1.1.1.1;rw[Ao,wS hi Z,show q.Atoms.length-i=(q.Atoms.length-(i+1))+1 by omega,ZD];refine⟨_,y1,?_⟩;rcases ft (Z1 m i)with e|e
  .rw[e,Yl]at y2;rw[e,Ya rfl,Y6];rcases ft (Fc s q 4 (Ac 1 i) (ZA m (Ac 1 i)))with e5|e5
   .rw[Ya (y2.2 e5)];refine⟨_,_,_,_,NU c hi,?_⟩;have ee:Tc s q m b i=(if b<((Xw s q i).Rows.length:Int)then((Xw s q i).Rows.length:Int)else b):=by unfold Tc;rw[e5,Ya rfl];rfl
    rw[<-ee];exact ih _
   .rw[Yb (λh=>by rw[y2.1 h]at e5;cases e5)];have ee:Tc s q m b i=b:=by unfold Tc;rw[e5,Yb Sm]
    rw[ee];exact ih _
  .simp_all
end
def lbF(s:Zr)(q:Zc)(m:Int):Int:=if BD s q m=true then lbV s q m else -1
def ZMy{s:Zr}{q:Zc}(h:Vq s)(hq:AS q)(m:Int):xO s q m=some (I (lbF s q m),[]):=by
 refine Wq.1.1.1.2 _ _ _ _ ⟨_,Kp h hq m,?_⟩;unfold lbF;rcases ft (BD s q m)with e|e
 .obtain⟨c,h1,h2⟩:=nY h hq e;rw[Ya e,Ya e];exact pF c h1 h2 e 0 (Yc _) 0
 .simp_all
def Td(s:Zr)(q:Zc)(m:Nat):Int:=if Wt q.Atoms (m:Int)=true/\m≠0 then lbF s q m else 0
def Ic(s:Zr)(q:Zc)(k:Nat):WL:=(List.range k).map (Td s q)
def ZMz(s:Zr)(q:Zc)(k:Nat):Ic s q (k+1)=Ic s q k++[Td s q k]:=by
 unfold Ic;rw[DX,CE];rfl
def Z0h(s:Zr)(q:Zc)(k:Nat):(Ic s q k).length=k:=by simp[Ic]
def Gt(s:Zr)(q:Zc):WL:=if BD s q 1=true then Ic s q (2 ^ q.Atoms.length)else[]
section
variable{s:Zr}{q:Zc}(c:Ctx s q)
include c
theorem Of:∀k:Nat,k<=2 ^ q.Atoms.length->Re s q (Ic s q k) k=some (.own 0,[.arr ZV 1 true ((Ic s q (2 ^ q.Atoms.length)).map ic)]):=by
 have hf:=Jt c.vq;have hp:=HT q.Atoms.length;have h16:2 ^ q.Atoms.length<=16:=Nat.pow_le_pow_right (Z:0<2) (WZ c.vq).2;refine down _ ?_ ?_
 .refine Wq.1.1.2.1 _ _ _ _ _ ⟨_,Ue q c.lq,?_⟩
  grind
 .intro k hk ih;have DH:w ((k:Int)+1)=((k+1:Nat):Int):=by rw[show((k+1:Nat):Int)=(k:Int)+1 by omega];exact ZF Z Z
  have hr:Ak (k:Int) 0 (Z7 q.Zg q.Atoms)=true:=ZM.2 ⟨Z,by rw[hf];omega⟩;have ec:Wm q.Zg q.Atoms k=(decide ((k:Int)≠0) && Wt q.Atoms k):=by unfold Wm;rw[c.vq,hr,Yl,Yl]
  have hl:=Z0h s q k;refine Wq.1.1.2.1 _ _ _ _ _ ⟨_,Ue q c.lq,?_⟩;rw[Ya (by rw[hf];omega)];refine⟨_,HS q c.lq k,?_⟩;rw[DH,ec];rw[ZMz]at ih;rcases ft (decide ((k:Int)≠0) && Wt q.Atoms k)with e|e
  .rw[Ya e];refine⟨_,ZMy c.le c.lq k,Z,?_⟩;simp only[Yd,decide_eq_true_eq]at e;have ea:Td s q k=lbF s q k:=by unfold Td;rw[Ya ⟨e.2,Z⟩]
   rw[ea]at ih;exact ih
  .rw[Yb (by rw[e];decide)];refine⟨Z,?_⟩;have ea:Td s q k=0:=by
    unfold Td;rw[Yb];rintro⟨h1,h2⟩
    simp_all
   rw[ea]at ih;exact ih
end
def Z0i{s:Zr}{q:Zc}(h:Vq s)(hq:AS q):dO s q=some (.own 0,[.arr ZV 1 true ((Gt s q).map ic)]):=by
 refine Wq.1.1.2.2 _ _ _ ⟨_,Ue q hq,_,Kp h hq _,?_⟩;rw[ZA1];unfold Gt;rcases ft (BD s q 1)with e|e
 .obtain⟨c,h1,h2⟩:=nY h hq e;rw[Ya e,Ya e];exact Of c 0 (Yc _)
 .simp_all
def ZM0{s:Zr}{q:Zc}(h:Vq s)(hq:AS q):(Gt s q).length<=16:=by
 unfold Gt;rcases ft (BD s q 1)with e|e
 .obtain⟨c,_,_⟩:=nY h hq e;rw[Ya e,Z0h];exact Nat.pow_le_pow_right (Z:0<2) (WZ c.vq).2
 .simp_all
def ZM1{s:Zr}{q:Zc}(e:BD s q 1=true):(Gt s q).length=2 ^ q.Atoms.length/\(oV s q).length=2 ^ q.Atoms.length:=by
 unfold Gt oV;rw[Ya e,Ya e,Z0h,ZA0];exact⟨rfl,rfl⟩
def okB(s:Zr)(q:Zc):Bool:=BD s q 1 && Wm q.Zg q.Atoms (Z7 q.Zg q.Atoms)
def pG(s:Zr)(q:Zc):Box:=if okB s q=true then⟨(Gt s q).map Jb,(oV s q).map Jb⟩else⟨[],[]⟩
def ZM2{s:Zr}{q:Zc}(h:Vq s)(hq:AS q):fR s q=some (.tup [.agg ((pG s q).c.map .t),Bo (okB s q)],[])/\(pG s q).Low.length<=17/\(pG s q).High.length<=17:=by
 have l1:=ZM0 h hq;unfold pG okB;rcases ft (BD s q 1)with e|e
 .have hl:=ZM1 e;have h1:1<=2 ^ q.Atoms.length:=Nat.one_le_two_pow;rcases ft (Wm q.Zg q.Atoms (Z7 q.Zg q.Atoms))with e2|e2
  .refine⟨X8.2.2.2.1 _ _ _ ⟨_,Z0i h hq,_,Z0d h hq,?_⟩,?_⟩
   .rw[Ap,e,Yl];refine⟨_,Ue q hq,_,HS q hq _,?_⟩
    grind [oX]
   .grind
  .simp_all [X8.2.2.2.1,Z0i,Z0d,Yl,Ue,HS]
 .have e0:Gt s q=[]:=by unfold Gt;rw[Yb (by rw[e];decide)]
  simp_all [X8.2.2.2.1,Z0i,Z0d,Gy]
end
