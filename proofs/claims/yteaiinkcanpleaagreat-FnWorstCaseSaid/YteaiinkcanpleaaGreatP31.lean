/-
  Parts of the proofs for this seat: LI LJ LK LL LM LN LO LP LR LT LU LW LX LY.
-/
import Derived.Test.YteaiinkcanpleaaGreatP30
set_option linter.all false
set_option maxRecDepth 100000
set_option maxHeartbeats 4000000
namespace Go.Proofs.YteaiinkcanpleaaGreat
open Go.AM
noncomputable section
theorem ZOj{a b c:WL}(h1:Xv a b<0)(h2:Xv b c<0):Xv a c<0:=by
 grind [lY,Int.lt_or_eq_of_le,Ku,M7]
def ZCn:∀{l:WA} {p:Option (WL)},Kv lZ p l=true->Gv l/\∀q,p=some q->∀x∈l,Xv q x<0
 |[],p,_=>⟨List.Pairwise.nil,λq _ x hx=>by cases hx⟩
 |a::l,p,h=>by
  simp only[Kv,Yg]at h;obtain⟨h1,h2⟩:=ZCn h.2;have h3:=h2 a rfl;refine⟨Y2.2 ⟨h3,h1⟩,λq hq x hx=>?_⟩;subst hq;have h4:Xv q a<0:=by simpa[BO,lZ]using h.1
  grind [ZOj]
def ZCo{t:Zs}(h:Xd t=true):H9 t.Rows=t.Rows:=by
 unfold Xd at h;simp only[Yg]at h;exact Zq1 (Z1v _) (ZCn h.2.2).1 λx=>Zq2 _ _
def Tb(n:Int):WL:=if n=1 then[0]else if n=2 then[0,1]else[0,1,2]
def ZCp{t:Zs}(h:Xd t=true){r:WL}(hr:r∈t.Rows):(r.length:Int)=t.Arity:=by
 unfold Xd at h;simp only[Yg]at h;have h1:=Yp.1 h.2.1 r hr;unfold Gq at h1
 simp_all
def ZOk{n:Int}(h:Al n 1 3=true){r:WL}(hr:(r.length:Int)=n):XN r (Tb n)=r:=by
 have h':=ZP.1 h
 match r with
 |[a] =>
  obtain rfl:n=1:=by simpa using hr.symm
  rfl
 |[a,b] =>
  obtain rfl:n=2:=by simpa using hr.symm
  rfl
 |[a,b,c] =>
  obtain rfl:n=3:=by simpa using hr.symm
  rfl
 |[]=>simp at hr;omega
 |_::_::_::_::_=>simp at hr;omega
def ZOl{t:Zs}(h:Xd t=true):Gz t.Rows (Tb t.Arity)=t.Rows:=by
 unfold Gz
 have:XZ t.Rows (Tb t.Arity)=t.Rows:=by
  unfold XZ;refine(EY λr hr=>ZOk (VB h) (ZCp h hr)).trans (List.map_id _)
 rw[this,ZCo h]
def ZOm{t:Zs}(h:Xd t=true):(ZO t).Groups[((((ZO t).Groups.length:Int)-1)).toNat]?=some (grp t.Rows (Tb t.Arity)):=by
 have h':=ZP.1 (VB h)
 have:t.Arity=1\/t.Arity=2\/t.Arity=3:=by omega
 unfold ZO Vq Tb;rcases this with e|e|e<;>simp[e]
def ZOn{t:Zs}(h:Xd t=true):0<(ZO t).Groups.length/\(ZO t).Groups.length<=7:=by
 have:=S4 (VB h);simpa[ZO]using this
def Z19{t:Zs}(hT:Xd t=true):DJ (ZO t):=by
 have h7:=S4 (VB hT);have h8:=KV hT;refine⟨by simp[ZO];omega,λg hg=>?_⟩;obtain⟨c,hc,rfl⟩:=Yn.1 hg;have hc3:=(Z12 (VB hT) c hc).1;have hg:=Z13 t.Rows c;refine⟨by simp only[grp];omega,⟨by simp only[grp];omega,λr hr=>?_⟩,by simp only[grp,Ie,DL];omega⟩;have:=ZBV hr;omega
def row4{t:Zs}(h:Xd t=true):∀r∈t.Rows,r.length<=4:=λr hr=>by
 have:=ZCp h hr
 grind [ZP,VB]
def Abq{t:Zs}(h:CC t)(hv:Xd t=true)(a:V6)(b:Int):∀i,i<=t.Rows.length->∀acc:WA,acc.length<=i->(∀x∈acc,x.length<=4)->Ia acc (t.Rows.drop i)=t.Rows->cY a b t.Name t.Arity acc t.Rows i=some (.tup [.agg [.t (.str t.Name),I t.Arity,.own 0],Bo true],[.arr 32 1 true (t.Rows.map AF)]):=by
 have h8:=KV hv;refine down _ ?_ ?_
 .intro acc ha h4 he;apply Gc.2.1.1;rw[Ym]at he;have he:acc=t.Rows:=he;subst he;rw[Ao];have:=Zqq t h
  simp_all
 .intro i hi ih acc ha h4 he;apply Gc.2.1.1;rw[Yi hi]at he;have hr4:=row4 hv _ (Yf hi);have hp:=Zq4 acc t.Rows[i] false;rw[An,An,wS hi Z];refine⟨Z,_,gE hi,_,ZBC Z h4 hr4,ih _ Z (λx hx=>?_) he⟩
  grind [ST]
def ZOo(row:WL)(hr:row.length<=4):Hg row=some (.own 0,[.arr 32 1 true ((WR [] row false).map AF)]):=by
 apply Xz.2.1.2.1;apply Xz.2.1.1.2;simp[WR];omega
def ZOp{t:Zs}(hv:Xd t=true):Hh t.Name t.Arity=some (Bo true,[]):=by
 unfold Xd at hv
 simp_all [Yg,Xp.2.2.2.2.2,Z0U,ZM,Xp.2.2.2.2.1]
def NL{t:Zs}(h:CC t)(hv:Xd t=true):w8 t.Name t.Arity t.Rows=some (.tup [.agg [.t (.str t.Name),I t.Arity,.own 0],Bo true],[.arr 32 1 true (t.Rows.map AF)]):=by
 have h8:=KV hv;apply Gc.2.1.2;apply Gc.1.2.2;have hp:=ZBF t.Rows;rw[ZCo hv]at hp;by_cases h0:t.Rows=[]
 .simp_all [ZOp]
 .have hl:0<t.Rows.length:=Y5.2 h0;rw[An,show w (0+1)=((0+1:Nat):Int) by decide];have hr4:=row4 hv _ (Yf hl);refine⟨Z,_,gE (i:=0) hl,_,ZOo _ hr4,Abq h hv _ _ (0+1) Z _ ?_ ?_ ?_⟩
  .exact Zq4 [] _ _
  .simp_all [ST]
  .have e:t.Rows=t.Rows[0]::t.Rows.drop (0+1):=by
    have:=Yi hl
    rwa [Yo]at this
   rw[e]at hp;exact hp.trans e.symm
def oB{t:Zs}(h:CC t)(hv:Xd t=true):w9 (ZO t)=some (.tup [.agg [.t (.str t.Name),I t.Arity,.own 0],Bo true],[.arr 32 1 true (t.Rows.map AF)]):=by
 have h7:=ZOn hv;apply Gc.2.2.1;rw[Ao,Xb (x:=((ZO t).Groups.length:Int)-1) ⟨Z,Z⟩];refine⟨Z,_,ZOm hv,_,_,_,_,?_,rfl⟩;rw[show(grp t.Rows (Tb t.Arity)).Values=t.Rows from ZOl hv];exact NL h hv
theorem Z1A{t:Zs}(h:CC t)(hv:Xd t=true):FQ (ZO t)=some (Bo true,[]):=by
 refine Gc.2.2.2 _ _ ⟨_,_,_,_,oB h hv,?_⟩;rw[Ya rfl];refine⟨_,Z15 h hv,true,?_,rfl⟩;have:=ZCf (ZO t) (ZO t) (Z19 hv) (Z19 hv)
 simp_all
def Qv(t:Zs)(cols:WL):WL:=(SO (Ie t.Rows cols)).reverse
theorem ZCq(rows:WA)(cols:WL):(Ie rows cols).length<=rows.length:=by
 unfold Ie;rw[DL];exact Z13 rows cols
theorem ZOq(l:WL):(SO l).length=l.length:=(rV _ _).length_eq
def Z1B(x:Int):∀(out:WL) (k:Nat),k<=out.length->(∀z∈out.drop k,z<x)->(k=0\/¬out.getD (k-1) 0<x)->out.take k++[x]++out.drop k=U1 x out
 |[],k,hk,_,_=>by
  have:k=0:=by simpa using hk
  subst this;rfl
 |y::ys,k,hk,h1,h2=>by
  unfold U1
  cases k with
  |zero =>
   rw[Yo]at h1;rw[Ya ⟨h1 y Om,λz hz=>h1 z (by simp[hz])⟩]
   rfl
  |succ k =>
   have hn:¬(y<x/\∀z∈ys,z<x):=by
    rintro⟨c1,c2⟩;rcases h2 with h2|h2
    .omega
    .apply h2;rw[Yc6]
     cases k with
     |zero=>exact c1
     |succ k =>
      have hk':k<ys.length:=by simp at hk;omega
      have:(y::ys).getD (k+1) 0=ys[k]:=by rw[List.getD_cons_succ,DN,Yd hk'];rfl
      rw[this];exact c2 _ (Yf hk')
   rw[Yb hn]
   have:=Z1B x ys k (by simpa using hk) (by simpa using h1) (by
    cases k with
    |zero=>exact .inl rfl
    |succ k =>
     right;rcases h2 with h2|h2
     .omega
     .simpa using h2)
   rw[<-this];rfl
def ZOr(x:Int)(l:WL):(U1 x l).length=l.length+1:=by simpa using(Zqv x l).length_eq
def ZOs{l out:WL}{i:Nat}(hi:i<l.length)(ho:out.length<=1000)(res:XS)(cc:FS (U1 l[i] out) l (w ((i:Int)+1))=some res):∀k,k<=out.length->(∀z∈out.drop k,z<l[i])->Ly out l i k=some res:=by
 intro k
 induction k with
 |zero =>
  intro hk hz;apply ZAr;rw[Ao];have e:=Z1B l[i] out 0 hk hz (.inl rfl)
  grind
 |succ k ih =>
  intro hk hz;have hk':k<out.length:=by omega
  apply ZAr;have hw:w (((k+1:Nat):Int)-1)=(k:Int):=by rw[Xb ⟨Z,Z⟩];omega
  rw[An,hw];refine⟨Z,_,Ib hk',Z,_,gE hi,?_⟩;by_cases c:out.getD k 0<l[i]
  .grind [List.drop_eq_getElem_cons,Nu]
  .rw[Yb c];have e:=Z1B l[i] out (k+1) hk hz (.inr (by rw[Yc6];exact c))
   grind
def ZOt(l:WL)(hl:l.length<=500):∀i,i<=l.length->∀out:WL,out.length<=i->FS out l i=some (.own 0,[.arr 3 1 true (((l.drop i).foldl (λo x=>U1 x o) out).map ic)]):=by
 refine down _ ?_ ?_
 .simp[j6.1.1,Ym]
 .intro i hi ih out ho;apply j6.1.1;rw[An,Yi hi];exact ZOs hi Z _ (by rw[wS hi Z];exact ih _ (by rw[ZOr];omega)) out.length (Yj _) Om
def NM{l:WL}(hl:l.length<=500):xL l=some (.own 0,[.arr 3 1 true ((SO l).reverse.map ic)]):=by
 have:=ZOt l hl 0 (Yc _) [] Om;apply j6.1.2;rw[<-Nf];exact this
def ZOu(rows:WA):Gz rows []=if rows=[]then[]else[[]]:=by
 unfold Gz;refine Zq1 (Z1v _) ?_ λx=>?_
 .split
  .exact List.Pairwise.nil
  .simp
 .rw[Zq2];unfold XZ
  cases rows with
  |nil=>simp
  |cons r rows=>simp[XN]
def ZOv(rows:WA):cnt (XZ rows []) []=rows.length:=by
 unfold cnt XZ;rw[List.filter_eq_self.2 (by intro x hx;obtain⟨r,_,rfl⟩:=Yn.1 hx;simp[XN])];simp
def ZOw(t:Zs):Qv t []=if t.Rows=[]then[]else[(t.Rows.length:Int)]:=by
 unfold Qv Ie;rw[ZOu];split
 .simp[SO]
 .rw[Yz,Dr,ZOv];simp[SO]
def ZOx{n:Int}(h:Al n 1 3=true){cols:WL}(hc:Vd n cols=true)(h0:cols≠[]):cols∈Vq n:=by
 have h':=ZP.1 h;have hl:=Z14 hc Z;have hn:n=1\/n=2\/n=3:=by omega
 match cols,h0 with
 |[a],_ =>
  simp only[Vd,VA,BO,EG,Bool.and_true,ZP]at hc
  have:a=0\/a=1\/a=2:=by omega
  rcases hn with rfl|rfl|rfl<;>rcases this with rfl|rfl|rfl<;>first|decide|omega
 |[a,b],_ =>
  simp only[Vd,VA,BO,EG,Bool.and_true,Yg,ZP,decide_eq_true_eq]at hc
  have:a=0\/a=1\/a=2:=by omega
  have:b=0\/b=1\/b=2:=by omega
  rcases hn with rfl|rfl|rfl<;>rcases ‹a=0\/a=1\/a=2› with rfl|rfl|rfl<;>rcases ‹b=0\/b=1\/b=2› with rfl|rfl|rfl<;>first|decide|omega
 |[a,b,c],_ =>
  simp only[Vd,VA,BO,EG,Bool.and_true,Yg,ZP,decide_eq_true_eq]at hc;have e:a=0/\b=1/\c=2/\n=3:=by omega
  obtain⟨rfl,rfl,rfl,rfl⟩:=e
  decide
 |_::_::_::_::_,_=>simp at hl;omega
def Abr{t:Zs}(hv:Xd t=true){cols:WL}(c:cols.length<=3):∀i,i<=(Vq t.Arity).length->cols∈(Vq t.Arity).drop i->dC (ZO t) cols i=some (.own 0,[.arr 3 1 true ((Qv t cols).map ic)]):=by
 have h7:=S4 (VB hv);have h8:=KV hv;have hgl:(ZO t).Groups.length=(Vq t.Arity).length:=by simp[ZO]
 refine down _ ?_ ?_
 .simp
 .intro i hi ih hm;have hg:(ZO t).Groups[((i:Nat):Int).toNat]?=some (grp t.Rows (Vq t.Arity)[i]):=by
   rw[Yh];unfold ZO;rw[rW,Yd hi];rfl
  have hc3:=(Z12 (VB hv) _ (Yf hi)).1;apply j6.2.1;rw[An,wS hi Z];refine⟨Z,_,hg,_,Gr _ _ (by simp only[grp];omega) Z,?_⟩;rw[show(grp t.Rows (Vq t.Arity)[i]).Columns=(Vq t.Arity)[i]from rfl];by_cases e:(Vq t.Arity)[i]=cols
  .rw[Ya (by rw[<-e];exact M8 _)];have hl:=ZCq t.Rows (Vq t.Arity)[i];refine⟨_,NM (by simp only[grp];omega),?_⟩;rw[<-e];rfl
  .grind [Ku,List.drop_eq_getElem_cons]
theorem oC{t:Zs}(hv:Xd t=true){cols:WL}(hc:Vd t.Arity cols=true):P4 (ZO t) cols=some (.own 0,[.arr 3 1 true ((Qv t cols).map ic)]):=by
 have hA:=ZP.1 (VB hv);have hl:=Z14 hc Z;apply j6.2.2;by_cases h0:cols=[]
 .subst h0;rw[Ya Om,ZOw];have e:(ZO t).RowCount=(t.Rows.length:Int):=rfl
  simp_all
 .have:=Y5.2 h0;rw[Ao];have:=Abr hv (cols:=cols) Z 0 (Yc _) (by rw[Yo];exact ZOx (VB hv) hc h0);simpa using this
def Z1C{t:Zs}(h:CC t)(hv:Xd t=true){cols:WL}(hc:Vd t.Arity cols=true):P8 (ZO t) cols=some (.own 0,[.arr 3 1 true ((Qv t cols).map ic)]):=by
 grind [Wo.1.2.2.1,Z1A,oC]
def GE(t:Zs)(cols:WL):Int:=(Qv t cols).getD 0 0
def ZOy{t:Zs}(h:CC t)(hv:Xd t=true){cols:WL}(hc:Vd t.Arity cols=true):dK (ZO t) cols=some (I (GE t cols),[]):=by
 refine Wo.2.2.2.2.1 _ _ _ ⟨_,Z1C h hv hc,?_⟩;unfold GE
 grind
def ZOz{t:Zs}(hv:Xd t=true){cols:WL}{x:Int}(hx:x∈Qv t cols):0<=x/\x<=8:=by
 have h8:=KV hv;unfold Qv at hx;rw[List.mem_reverse]at hx;obtain⟨g,_,rfl⟩:=Yn.1 ((rV _ _).mem_iff.1 hx);have h1:=ZBW (XZ t.Rows cols) g;have h2:=ZBX (XZ t.Rows cols) g
 grind [ZqC]
def Z1D{t:Zs}(hv:Xd t=true)(cols:WL):(Qv t cols).length<=8:=by
 have h8:=KV hv;unfold Qv
 grind [List.length_reverse,ZOq,ZCq]
def ZO0{t:Zs}(hv:Xd t=true)(cols:WL):0<=GE t cols/\GE t cols<=8:=by
 unfold GE
 cases e:Qv t cols with
 |nil=>exact⟨Om,Om⟩
 |cons a l=>exact ZOz hv (cols:=cols) (by rw[e];simp)
structure Ctx (s:Zq) (q:Zc):Prop where
 le:U5 s
 lq:AI q
 st:NH s=true
 qf:SP s.Zt q=true
def Bl(q:Zc)(i:Nat):Zg:=q.Atoms.getD i ⟨⟨#[]⟩,[]⟩
def Xy(s:Zq)(q:Zc)(i:Nat):Zs:=(Wv s.Zt (Bl q i).Name).getD ⟨⟨#[]⟩,0,[]⟩
def NN{q:Zc}{i:Nat}(h:i<q.Atoms.length):q.Atoms[((i:Nat):Int).toNat]?=some (Bl q i):=by
 unfold Bl
 simp_all
def ZO1{q:Zc}{i:Nat}(h:i<q.Atoms.length):Bl q i∈q.Atoms:=by
 unfold Bl
 simp_all
section
variable{s:Zq}{q:Zc}(c:Ctx s q)
include c
theorem Ctx.vd:Vk s.Zt=true:=by
 have:=c.st;unfold NH at this
 simp_all
theorem Ctx.tabs:s.ZN.Tables=s.Zt.Tables.map ZO:=by
 have:=c.st;unfold NH at this
 simp_all
theorem Ctx.vq:Zx q.Zh q.Atoms=true:=by
 have:=c.qf;unfold SP at this
 simp_all
theorem Ctx.n4:1<=q.Atoms.length/\q.Atoms.length<=4:=by
 have:=W1 c.vq;omega
theorem Ctx.look{i:Nat}(h:i<q.Atoms.length):Wv s.Zt (Bl q i).Name=some (Xy s q i)/\(Xy s q i).Arity=((Bl q i).Vars.length:Int):=by
 have hq:=c.qf;unfold SP at hq;simp only[Yg]at hq;have:=Yp.1 hq.2 _ (ZO1 h);unfold Zqr at this;unfold Xy
 grind
theorem Ctx.vt{i:Nat}(h:i<q.Atoms.length):Xd (Xy s q i)=true:=S6 (c.look h).1
theorem Ctx.lt{i:Nat}(h:i<q.Atoms.length):CC (Xy s q i):=ZCg c.le.d (c.look h).1
theorem oD(n:V6):∀i,i<=s.Zt.Tables.length->∀t,(s.Zt.Tables.drop i).find? (λt=>decide (t.Name=n))=some t->c9 s.ZN ⟨#[]⟩ 0 0 n i=some (.tup [.agg [.t (.str t.Name),I t.Arity,I (t.Rows.length:Int),.own 0],Bo true],[.arr 263 3 true ((ZO t).Groups.map ZF.c)]):=by
 have hl:s.ZN.Tables.length=s.Zt.Tables.length:=by rw[c.tabs,DL]
 have h6:=Z16 c.vd;refine down _ ?_ ?_
 .simp
 .intro i hi ih t ht;have hg:s.ZN.Tables[((i:Nat):Int).toNat]?=some (ZO s.Zt.Tables[i]):=by
   rw[Yh,c.tabs,rW,Yd hi];rfl
  rw[Yi hi,List.find?_cons]at ht;have hT:=Yf hi;apply W7.1.2.2.2.1;rw[An,wS hi Z];refine⟨Z,_,hg,?_⟩;have en:(ZO s.Zt.Tables[i]).Name=s.Zt.Tables[i].Name:=rfl;by_cases e:s.Zt.Tables[i].Name=n
  .rw[decide_eq_true e]at ht;cases ht;rw[Ya (by rw[en];exact e)];refine⟨_,Z1A (c.le.d.2 _ hT) (H6 c.vd hT),?_⟩;rw[Ya rfl];exact⟨_,_,_,_,oA _ (Z19 (H6 c.vd hT)),rfl⟩
  .simp_all
theorem Ctx.find{i:Nat}(h:i<q.Atoms.length):s.Zt.Tables.find? (λt=>decide (t.Name=(Bl q i).Name))=some (Xy s q i):=by
 have:=(c.look h).1;unfold Wv at this
 rwa [Ya c.vd]at this
theorem ZO2{i:Nat}(h:i<q.Atoms.length):xC s.ZN (Bl q i).Name=some (.tup [.agg [.t (.str (Xy s q i).Name),I (Xy s q i).Arity,I ((Xy s q i).Rows.length:Int),.own 0],Bo true],[.arr 263 3 true ((ZO (Xy s q i)).Groups.map ZF.c)]) :=
 W7.1.2.2.2.2 _ _ _ (oD c _ 0 (Yc _) _ (by rw[Yo];exact c.find h))
theorem NO{i:Nat}(h:i<q.Atoms.length):QA s q i=some (.agg [.t (.str (Xy s q i).Name),I (Xy s q i).Arity,I ((Xy s q i).Rows.length:Int),.own 0],[.arr 263 3 true ((ZO (Xy s q i)).Groups.map ZF.c)]) :=
 W7.2.1.1.1 _ _ _ _ ⟨Z,_,NN h,_,_,_,_,_,ZO2 c h,rfl⟩
end
def BF(s:Zq)(q:Zc)(m:Int):Bool:=NH s && (SP s.Zt q && Al m 1 (Z3 q.Zh q.Atoms))
def Ky{s:Zq}{q:Zc}(h:U5 s)(hq:AI q)(m:Int):Vx s q m=some (Bo (BF s q m),[]):=by
 refine XX.1.2.1.2 _ _ _ _ ⟨_,ZOh h,?_⟩;unfold BF;rcases ft (NH s)with e|e
 .rw[e,Ya rfl,Yk];refine⟨_,ZMS _ h.d _ hq,?_⟩
  simp_all
 .simp_all
theorem oE{s:Zq}{q:Zc}(h:U5 s)(hq:AI q){m:Int}(e:BF s q m=true):Ctx s q/\1<=m/\m<2 ^ q.Atoms.length:=by
 unfold BF at e;simp only[Yg]at e;have c:Ctx s q:=⟨h,hq,e.1,e.2.1⟩;have h1:=ZP.1 e.2.2;have h2:=(KR c.vq).2.1;unfold Z3 at h1
 grind
def VS(vars:WL):Nat->WL->WL
 |_,[]=>[]
 |k,v::vs=>if has vars v=true then(k:Int)::VS vars (k+1) vs else VS vars (k+1) vs
def Z1E(c:WL)(n:Int):∀(vs:WL) (k:Nat) (p:Option Int),(∀q,p=some q->q<k)->(k:Int)+vs.length<=n->VA n p (VS c k vs)=true
 |[],_,_,_,_=>rfl
 |v::vs,k,p,hp,hn=>by
  simp only[Yx]at hn;unfold VS;split
  .simp only[VA,Yg];refine⟨⟨ZP.2 ⟨Z,Z⟩,?_⟩,Z1E c n vs (k+1) (some k) (λq hq=>by cases hq;omega) Z⟩
   cases p with
   |none=>rfl
   |some q=>simpa[BO,EG]using hp q rfl
  .exact Z1E c n vs (k+1) p (λq hq=>by have:=hp q hq;omega) Z
def ZO3(vars:WL){n:Int}{vs:WL}(h:n=vs.length):Vd n (VS vars 0 vs)=true:=Z1E vars n vs 0 none (λq hq=>by cases hq) Z
def oF(a:Zg)(vars:WL)(ha:a.Vars.length<=1000)(hv:Le vars):∀i,i<=a.Vars.length->∀out:WL,out.length<=i->P2 a out vars i=some (.own 0,[.arr 3 1 true ((out++VS vars i (a.Vars.drop i)).map ic)]):=by
 refine down _ ?_ ?_
 .intro out ho;apply W7.2.2.2.2.1;rw[Ao,Ym];simp[VS]
 .intro i hi ih out ho;apply W7.2.2.2.2.1;rw[An,wS hi Z,Yi hi,VS];refine⟨Z,_,gE hi,_,Qq _ _ hv,?_⟩
  grind
def Z1F{a:Zg}{vars:WL}(ha:a.Vars.length<=1000)(hv:Le vars):Lw a vars=some (.own 0,[.arr 3 1 true ((VS vars 0 a.Vars).map ic)]):=W7.2.2.2.2.2 _ _ _ (by simpa using oF a vars ha hv 0 (Yc _) [] Om)
def Ctx.vars3{s:Zq}{q:Zc}(c:Ctx s q){i:Nat}(h:i<q.Atoms.length):(Bl q i).Vars.length<=3:=by
 have h1:=(c.look h).2;have h2:=ZP.1 (VB (c.vt h));omega
def Ctx.cols{s:Zq}{q:Zc}(c:Ctx s q){i:Nat}(h:i<q.Atoms.length)(cc:WL):Vd (Xy s q i).Arity (VS cc 0 (Bl q i).Vars)=true:=ZO3 cc (c.look h).2
def ZI(m:Int):Nat->Nat->V3
 |_,0=>[]
 |i,k+1=>if Zy m i=true then i::ZI m (i+1) k else ZI m (i+1) k
def ZCr(m:Int):∀(k i:Nat),Gn m i k=(ZI m i k).map λn:Nat=>(n:Int)
 |0,i=>rfl
 |k+1,i=>by
  rw[Z1h,ZCr m k (i+1),ZI];split<;>simp
def ZCs(m:Int):∀(a i b:Nat),ZI m i (a+b)=ZI m i a++ZI m (i+a) b
 |0,i,b=>by simp[ZI]
 |a+1,i,b=>by
  rw[show a+1+b=(a+b)+1 by omega,ZI,ZI,ZCs m a (i+1) b,show i+1+a=i+(a+1) by omega];split<;>rfl
def ZCt(m:Int):∀(k i:Nat),(∀j,i<=j->j<i+k->Zy m j=false)->ZI m i k=[]
 |0,_,_=>rfl
 |k+1,i,h=>by
  rw[ZI,h i Z Z,Yb Sm];exact ZCt m k (i+1) λj h1 h2=>h j Z Z
set_option maxRecDepth 100000 in
def oG:∀(a:Fin 16) (n i:Fin 5),a.1<2 ^ n.1->n.1<=i.1->Zy (a.1:Int) i.1=false:=by decide
def Z1G{m:Int}{n:Nat}(h0:0<=m)(hm:m<2 ^ n)(hn:n<=4):ZI m 0 4=ZI m 0 n:=by
 have h16:m<16:=by
  have:(2:Nat) ^ n<=2 ^ 4:=Nat.pow_le_pow_right Sm hn
  grind
 obtain⟨a,rfl⟩:=m16 ⟨h0,h16⟩;have ha:a.1<2 ^ n:=by
  grind
 have h4:ZI (a.1:Int) 0 4=ZI (a.1:Int) 0 n++ZI (a.1:Int) (0+n) (4-n):=by
  have:=ZCs (a.1:Int) n 0 (4-n)
  rwa [show n+(4-n)=4 by omega]at this
 rw[h4,ZCt (a.1:Int) (4-n) (0+n) λj h1 h2=>oG a ⟨n,Z⟩ ⟨j,Z⟩ ha (by simpa using h1),E0]
def NP{m:Int}:∀{k i j:Nat},j∈ZI m i k->i<=j/\j<i+k/\Zy m j=true
 |0,i,j,h=>by cases h
 |k+1,i,j,h=>by
  rw[ZI]at h;split at h
  .rcases Y1.1 h with rfl|h
   .simp_all
   .obtain⟨a,b,c⟩:=NP h;exact⟨Z,Z,c⟩
  .obtain⟨a,b,c⟩:=NP h;exact⟨Z,Z,c⟩
def NQ{m:Int}{n:Nat}(h0:0<=m)(hm:m<2 ^ n)(hn:n<=4):AU m:=by
 have:(2:Nat) ^ n<=2 ^ 4:=Nat.pow_le_pow_right Sm hn
 grind
def VC(s:Zq)(q:Zc)(i:Nat):Int:=((Xy s q i).Rows.length:Int)
def ZqI(s:Zq)(q:Zc)(l:V3)(n:Int):Int:=l.foldl (λa i=>a*VC s q i) n
def ZCu(m:Int):∀(k i:Nat),(ZI m i k).length<=k
 |0,_=>Yj _
 |k+1,i=>by
  rw[ZI];have:=ZCu m k (i+1)
  grind
def ZO4{s:Zq}{q:Zc}(c:Ctx s q){n:Int}{i:Nat}(hi:i<q.Atoms.length)(h0:0<=n)(h1:n<=4096):w (n*VC s q i)=n*VC s q i:=by
 have h8:=KV (c.vt hi);have hr:0<=VC s q i/\VC s q i<=8:=⟨by unfold VC;omega,by unfold VC;omega⟩;have h2:=Int.mul_nonneg h0 hr.1;have h3:=Int.mul_le_mul h1 hr.2 hr.1 Z
 grind [Xb]
section
variable{s:Zq}{q:Zc}(c:Ctx s q){m:Int}(h1:1<=m)(h2:m<2 ^ q.Atoms.length)
include c h1 h2
theorem Ctx.msk:VP m=(ZI m 0 q.Atoms.length).map λn:Nat=>(n:Int):=by
 unfold VP;rw[ZCr,Z1G Z h2 c.n4.2]
omit h1 h2 in
theorem oH:∀i,i<=q.Atoms.length->∀n,0<=n->n<=8 ^ i->P1 s q m n i=some (I (ZqI s q (ZI m i (q.Atoms.length-i)) n),[]):=by
 have hn4:=c.n4;have p8:∀i,i<=4->(8:Int) ^ i<=4096:=by
  intro i hi
  have:(8:Nat) ^ i<=8 ^ 4:=Nat.pow_le_pow_right Sm hi
  grind
 refine down _ ?_ ?_
 .intro n _ _;apply W7.2.2.1.2;rw[Ao,Dt];rfl
 .intro i hi ih n h0 hn;have h8:=KV (c.vt hi);have hr:0<=VC s q i/\VC s q i<=8:=⟨by unfold VC;omega,by unfold VC;omega⟩;have hp:=p8 i Z;have hpp:(8:Int) ^ (i+1)=8 ^ i*8:=Int.pow_succ 8 i;apply W7.2.2.1.2;rw[An,wS hi Z,show q.Atoms.length-i=(q.Atoms.length-(i+1))+1 by omega,ZI];refine⟨Z,?_⟩;by_cases e:Ah (Au m i) 1=1
  .rw[Ya e,Ya (by unfold Zy;exact decide_eq_true e)];refine⟨_,_,_,_,NO c hi,?_⟩;rw[show((Xy s q i).Rows.length:Int)=VC s q i from rfl,ZO4 c hi h0 Z];refine ih _ (Int.mul_nonneg h0 hr.1) ?_;rw[hpp];exact Int.mul_le_mul hn hr.2 hr.1 Z
  .rw[Yb e,Yb (by unfold Zy;simpa using e)]
   grind
theorem ZO5(le:BF s q m=true):dB s q m=some (I (ZqI s q (ZI m 0 q.Atoms.length) 1),[]):=by
 refine W7.2.2.2.1 _ _ _ _ ⟨_,Ky c.le c.lq m,?_⟩;rw[le,Ya rfl];exact oH c 0 (Yc _) 1 Z Om
end
def JN(s:Zq)(q:Zc)(i:Nat)(c:Int):Int:=if i<q.Atoms.length then GE (Xy s q i) (VS (XE q c) 0 (Bl q i).Vars)else 0
def CG(s:Zq)(q:Zc):Nat->Int->Int->Int
 |0,_,_=>1
 |f+1,used,left=>if left=0 then 1 else(ZI left 0 4).foldl (λb i=>bst b (JN s q i used*CG s q f (At used (Ac 1 i)) (Z4 left (Ac 1 i)))) (-1)
def ZCv{s:Zq}{q:Zc}(c:Ctx s q)(i:Nat)(cc:Int):0<=JN s q i cc/\JN s q i cc<=8:=by
 unfold JN;split
 .exact ZO0 (c.vt ‹_›) _
 .omega
set_option maxRecDepth 100000 in
def oI:∀(l:Fin 16) (i:Fin 4),Zy (l.1:Int) i.1=true->AU (Z4 l.1 (Ac 1 i.1))/\Xa (Z4 l.1 (Ac 1 i.1))+1=Xa l.1:=by decide
set_option maxRecDepth 100000 in
theorem Z1H:∀l:Fin 16,l.1≠0->1<=Xa l.1/\ZI (l.1:Int) 0 4≠[]:=by decide
def ZCw:∀(l u:Fin 16),Z4 (l.1:Int) u.1<=l.1:=by decide +kernel
def NR:∀l:Fin 16,Z4 (l.1:Int) 0=l.1:=by decide
theorem NS:∀l:Fin 16,Ah 0 (l.1:Int)=0:=by decide
def ZCx{s:Zq}{q:Zc}(c:Ctx s q):∀(f:Nat) (cc cd:Int),AU cd->0<=CG s q f cc cd/\CG s q f cc cd<=8 ^ f
 |0,_,_,_=>⟨by simp[CG],by simp[CG]⟩
 |f+1,cc,cd,hl=>by
  unfold CG;have hp:(1:Int)<=8 ^ f:=by exact_mod_cast Nat.pos_of_ne_zero Om
  have e8:(8:Int) ^ (f+1)=8*8 ^ f:=by rw[Int.pow_succ,Int.mul_comm]
  split
  .omega
  .rename_i hne;obtain⟨a,rfl⟩:=m16 hl;refine ZB7 Z _ (λi=>JN s q i cc*CG s q f (At cc (Ac 1 i)) (Z4 (a.1:Int) (Ac 1 i))) _ (λi hi=>?_) Z (.inl (Z1H a Z).2);have hm:=NP hi;have h1:=ZCv c i cc;have h2:=ZCx c f (At cc (Ac 1 i)) (Z4 (a.1:Int) (Ac 1 i)) (oI a ⟨i,Z⟩ hm.2.2).1
   simp_all [Int.mul_nonneg,Int.mul_le_mul]
def ZO6{s:Zq}{q:Zc}(c:Ctx s q)(m:Int):Le (XE q m):=by
 have:=Gp q c.vq m;omega
def ZO7{s:Zq}{q:Zc}{i:Nat}(h:i<q.Atoms.length)(used:Int):JN s q i used=GE (Xy s q i) (VS (XE q used) 0 (Bl q i).Vars):=by
 unfold JN;rw[Ya h]
def Abs{f:Nat}(h:f<=4):(1:Int)<=8 ^ f/\(8:Int) ^ f<=4096:=by
 have h1:(8:Nat) ^ f<=8 ^ 4:=Nat.pow_le_pow_right Sm h
 grind
def GF(s:Zq)(q:Zc)(f:Nat)(c cc:Int)(i:Nat):Int:=JN s q i c*CG s q f (At c (Ac 1 i)) (Z4 cc (Ac 1 i))
def oJ{s:Zq}{q:Zc}(c:Ctx s q){f:Nat}(hf:f<=4){used left:Int}(hl:AU left){i:Nat}(hi:i<4)(hm:Zy left i=true):w (JN s q i used*CG s q f (At used (Ac 1 i)) (Z4 left (Ac 1 i)))=GF s q f used left i:=by
 obtain⟨a,rfl⟩:=m16 hl;have h1:=ZCv c i used;have h2:=ZCx c f (At used (Ac 1 i)) (Z4 (a.1:Int) (Ac 1 i)) (oI a ⟨i,hi⟩ hm).1;have h3:=Abs hf;have h4:=Int.mul_nonneg h1.1 h2.1;have h5:=Int.mul_le_mul h1.2 h2.2 h2.1 Z;exact Xb ⟨Z,Z⟩
def ZO8{s:Zq}{q:Zc}{f:Nat}{c left:Int}(h:left≠0):CG s q (f+1) c left=(ZI left 0 4).foldl (λb i=>bst b (GF s q f c left i)) (-1):=by
 rw[CG,Yb h];rfl
theorem ZCy{m:Int}(h:AU m):Xa m<=4:=by
 grind [m16,Z1e]
def NT:∀(m u:Fin 16),Ah (u.1:Int) m.1=u.1->AU (Z4 (m.1:Int) u.1)/\((u.1:Int)=m.1↔Z4 (m.1:Int) u.1=0):=by decide +kernel
def ZCz:∀(m u:Fin 16) (i:Fin 4),Ah (u.1:Int) m.1=u.1->(Zy (Z4 (m.1:Int) u.1) i.1=(Zy (m.1:Int) i.1 && !Zy (u.1:Int) i.1))/\(Zy (m.1:Int) i.1=true->Ah (At (u.1:Int) (Ac 1 i.1)) m.1=At (u.1:Int) (Ac 1 i.1))/\AU (At (u.1:Int) (Ac 1 i.1))/\Z4 (m.1:Int) (At (u.1:Int) (Ac 1 i.1))=Z4 (Z4 (m.1:Int) u.1) (Ac 1 i.1):=by decide +kernel
def oK{s:Zq}{q:Zc}(c:Ctx s q){f:Nat}(hf:f<=4){mask used:Int}(hm:AU mask)(cc:mask<2 ^ q.Atoms.length)(hu:AU used)(hs:Ah used mask=used)(ih:∀(u:Int),AU u->Ah u mask=u->Xa (Z4 mask u)<=f->P5 ((List.range q.Atoms.length).map λi=>ZO (Xy s q i)) q mask u=some (I (CG s q f u (Z4 mask u)),[]))(hp:Xa (Z4 mask used)<=f+1):∀i,i<=q.Atoms.length->∀b,P6 q ((List.range q.Atoms.length).map λi=>ZO (Xy s q i)) mask used b i=some (I ((ZI (Z4 mask used) i (q.Atoms.length-i)).foldl (λb i=>bst b (GF s q f used (Z4 mask used) i)) b),[]):=by
 have hn4:=c.n4;have De:AU (Z4 mask used):=by
  obtain⟨a,rfl⟩:=m16 hm;obtain⟨u,rfl⟩:=m16 hu;exact(NT a u hs).1
 refine down _ ?_ ?_
 .intro b;apply Wo.1.1.1.1;rw[Ao,Dt];rfl
 .intro i hi oL b;have hb:Zy (Z4 mask used) i=(Zy mask i && !Zy used i)/\(Zy mask i=true->Ah (At used (Ac 1 i)) mask=At used (Ac 1 i))/\AU (At used (Ac 1 i))/\Z4 mask (At used (Ac 1 i))=Z4 (Z4 mask used) (Ac 1 i):=by
   obtain⟨a,rfl⟩:=m16 hm;obtain⟨u,rfl⟩:=m16 hu;exact ZCz a u ⟨i,Z⟩ hs
  apply Wo.1.1.1.1;rw[An,wS hi Z,show q.Atoms.length-i=(q.Atoms.length-(i+1))+1 by omega,ZI,hb.1];refine⟨Z,?_⟩;by_cases e:Ah (Au mask i) 1=1
  .have e':Zy mask i=true:=decide_eq_true e;rw[Ya e,e',Yk];rcases ft (Zy used i)with e2|e2
   .grind [KU]
   .have hleft:Zy (Z4 mask used) i=true:=by rw[hb.1,e',e2];rfl
    rw[Ya ((KU hu Z).2 e2),e2,Ya (by rfl),Yv];have hg:((List.range q.Atoms.length).map λi=>ZO (Xy s q i))[((i:Nat):Int).toNat]?=some (ZO (Xy s q i)):=by
     simp_all
    have hpn:Xa (Z4 mask (At used (Ac 1 i)))<=f:=by
     rw[hb.2.2.2];obtain⟨a,ha⟩:=m16 De;rw[ha]at hp hleft|-;have:=(oI a ⟨i,Z⟩ hleft).2;simp only at this;omega
    have hd:((Qv (Xy s q i) (VS (XE q used) 0 (Bl q i).Vars))++[0])[0]?=some (JN s q i used):=by
     rw[ZO7 hi];unfold GE
     grind
    have hlen:=Z1D (c.vt hi) (VS (XE q used) 0 (Bl q i).Vars);have hvl:PS (Xs (pV used q.Atoms))=some (.own 0,[.arr 3 1 true ((XE q used).map ic)]):=by
     have:=ZAX (pV used q.Atoms) 0 Z [] Om;have e4:=ZAY q c.vq used;apply XX.1.2.2.2.1
     simp_all
    refine⟨Z,_,hg,_,NN hi,_,MR q used c.lq (H2 c.vq),_,hvl,_,Z1F (by have:=c.vars3 hi;omega) (ZO6 c used),_,oC (c.vt hi) (c.cols hi _),Z,_,hd,_,ih _ hb.2.2.1 (hb.2.1 e') hpn,?_⟩;rw[hb.2.2.2,oJ c hf De Z hleft];by_cases h1:b<0
    .rw[Ya h1,show bst b (GF s q f used (Z4 mask used) i)=GF s q f used (Z4 mask used) i by unfold bst;rw[Ya (.inl h1)]];exact oL _
    .rw[Yb h1];by_cases h2:GF s q f used (Z4 mask used) i<b
     .rw[Ya h2,show bst b (GF s q f used (Z4 mask used) i)=GF s q f used (Z4 mask used) i by unfold bst;rw[Ya (.inr h2)]];exact oL _
     .rw[Yb h2,show bst b (GF s q f used (Z4 mask used) i)=b by unfold bst;rw[Yb (by rintro(h|h);exact h1 h;exact h2 h)]];exact oL _
  .have e':Zy mask i=false:=decide_eq_false e
   simp_all
theorem ZO9{s:Zq}{q:Zc}(c:Ctx s q){mask:Int}(hm:AU mask)(cd:mask<2 ^ q.Atoms.length):∀(f:Nat),f<=5->∀(cc:Int),AU cc->Ah cc mask=cc->Xa (Z4 mask cc)<=f->P5 ((List.range q.Atoms.length).map λi=>ZO (Xy s q i)) q mask cc=some (I (CG s q f cc (Z4 mask cc)),[]):=by
 intro f;have key:∀cc,AU cc->Ah cc mask=cc->AU (Z4 mask cc)/\(cc=mask↔Z4 mask cc=0):=by
  intro cc hu hs;obtain⟨a,rfl⟩:=m16 hm;obtain⟨u,rfl⟩:=m16 hu;exact NT a u hs
 induction f with
 |zero =>
  intro _ cc hu hs hp;obtain⟨k1,k2⟩:=key cc hu hs;apply Wo.1.1.1.2;have h0:Z4 mask cc=0:=by
   obtain⟨a,ha⟩:=m16 k1
   grind [Z1H]
  rw[Ya (k2.2 h0)];rfl
 |succ f ih =>
  intro hf cc hu hs hp;obtain⟨k1,k2⟩:=key cc hu hs;apply Wo.1.1.1.2;by_cases h0:cc=mask
  .rw[Ya h0,CG,Ya (k2.1 h0)]
  have hne:Z4 mask cc≠0:=λhc=>h0 (k2.2 hc)
  rw[Yb h0,ZO8 hne];have hn4:=c.n4;have hlt:Z4 mask cc<2 ^ q.Atoms.length:=by
   have:Z4 mask cc<=mask:=by
    obtain⟨a,rfl⟩:=m16 hm;obtain⟨u,rfl⟩:=m16 hu;exact ZCw a u
   omega
  have:=oK c (f:=f) Z hm cd hu hs (ih Z) hp 0 (Yc _) (-1);rw[Nat.sub_zero,<-Z1G k1.1 hlt hn4.2]at this;exact this
def ZOA{s:Zq}{q:Zc}(c:Ctx s q){m:Int}(h1:1<=m)(h2:m<2 ^ q.Atoms.length)(le:BF s q m=true):dD s q m=some (I (CG s q 4 0 m),[]):=by
 have hn4:=c.n4;have h16:=NQ Z h2 c.n4.2;have e0:Z4 m 0=m:=by obtain⟨a,rfl⟩:=m16 h16;exact NR a
 have main:∀i,i<=q.Atoms.length->dE s q ((List.range i).map λi=>ZO (Xy s q i)) m i=some (I (CG s q 4 0 m),[]):=by
  refine down _ ?_ ?_
  .grind [Wo.1.1.2.1,ZO9,m16,NS,ZCy]
  .intro i hi ih;apply Wo.1.1.2.1;rw[An,wS hi Z];rw[DM,CV]at ih;exact⟨_,_,_,_,NO c hi,by simp;omega,ih⟩
 refine Wo.1.1.2.2 _ _ _ _ ⟨_,Ky c.le c.lq m,?_⟩
 grind
def ZC0(s:Zq)(q:Zc)(a b:Nat):Int:=Z10 (Qv (Xy s q a) (VS (Vb q (Ac 1 a) (Ac 1 b)) 0 (Bl q a).Vars)) (Qv (Xy s q b) (VS (Vb q (Ac 1 a) (Ac 1 b)) 0 (Bl q b).Vars))
def Z1I{s:Zq}{q:Zc}(c:Ctx s q){i:Nat}(h:i<q.Atoms.length):MQ q.Atoms (Ac 1 i):=by
 have hn4:=c.n4;have h1:(2:Nat) ^ i<2 ^ q.Atoms.length:=Nat.pow_lt_pow_right Sm h
 grind [ZqA,Int.toNat_natCast,Int.natCast_nonneg]
def ZOB{s:Zq}{q:Zc}(c:Ctx s q):BF s q 1=true/\BF s q (Z3 q.Zh q.Atoms)=true:=by
 have h1:=KR c.vq;have hn:=c.n4;have h2:(2:Nat) ^ 1<=2 ^ q.Atoms.length:=Nat.pow_le_pow_right Sm hn.1;have e:((2:Int) ^ q.Atoms.length)=(((2:Nat) ^ q.Atoms.length:Nat):Int):=by push_cast;rfl
 have hf:Z3 q.Zh q.Atoms=2 ^ q.Atoms.length-1:=by unfold Z3;rw[Ya c.vq,h1.2.1]
 unfold BF;rw[c.st,c.qf,hf,Yk,Yk,Yk,Yk]
 grind [ZP]
def ZC1{s:Zq}{q:Zc}(c:Ctx s q)(a b:Int):Le (Vb q a b):=by
 have:=Gp q c.vq a;have h2:=GN (has (XE q b)) (XE q a);unfold Vb;omega
def ZOC{s:Zq}{q:Zc}(c:Ctx s q){a b:Nat}(ha:a<q.Atoms.length)(hb:b<q.Atoms.length)(cc:a≠b):P9 s q a b=some (I (ZC0 s q a b),[]):=by
 have hn4:=c.n4;have l1:=Z1D (c.vt ha) (VS (Vb q (Ac 1 a) (Ac 1 b)) 0 (Bl q a).Vars);have l2:=Z1D (c.vt hb) (VS (Vb q (Ac 1 a) (Ac 1 b)) 0 (Bl q b).Vars);refine Wo.2.1.2.1 _ _ _ _ _ ⟨_,VN _ c.lq,_,Ky c.le c.lq _,?_⟩;rw[(ZOB c).2,Ya rfl,Xb (x:=(q.Atoms.length:Int)-1) ⟨Z,Z⟩];refine⟨_,ZM _ _ _,?_⟩;rw[show Al (a:Int) 0 ((q.Atoms.length:Int)-1)=true from ZP.2 ⟨Z,Z⟩,Ya rfl];refine⟨_,ZM _ _ _,?_⟩;rw[show Al (b:Int) 0 ((q.Atoms.length:Int)-1)=true from ZP.2 ⟨Z,Z⟩,Ya rfl,Ao];exact⟨Z,Z,_,Z1i q c.lq c.vq _ _ (Z1I c ha) (Z1I c hb),_,_,_,_,NO c ha,Z,_,NN ha,_,Z1F (by have:=c.vars3 ha;omega) (ZC1 c _ _),_,Z1C (c.lt ha) (c.vt ha) (c.cols ha _),_,_,_,_,NO c hb,Z,_,NN hb,_,Z1F (by have:=c.vars3 hb;omega) (ZC1 c _ _),_,Z1C (c.lt hb) (c.vt hb) (c.cols hb _),_,ZNN Z Z,rfl⟩
def small(k:Int)(r:WL):Prop:=∀x∈r,-k<=x/\x<=k
section
variable{full:Nat}(hf:1<=full/\full<=15)
include hf
theorem oM(minus:WL)(hm:minus.length<=1000)(hb:∀e∈minus,e<=full):∀i,i<=minus.length->∀r:WL,r.length=full->Rg r minus i=some (.own 0,[.arr 3 1 true ((KY (-1) (minus.drop i) r).map ic)]):=by
 refine down _ ?_ ?_
 .intro r hr;apply Wz.1.1.2.1;rw[Ao,Ym];rfl
 .intro i hi ih r hr;have he:=hb _ (Yf hi);apply Wz.1.1.2.1;rw[An,wS hi Z,Yi hi,KY];refine⟨Z,_,gE hi,?_⟩;by_cases c:0<minus[i]
  .rw[Ya c,Ya c,Xb (x:=minus[i]-1) ⟨Z,Z⟩];exact⟨Z,_,gD Z,ih _ (by rw[EH];exact hr)⟩
  .grind
theorem oN(cc minus:WL)(hm:minus.length<=1000/\cc.length<=900)(hb:∀e∈minus,e<=full)(hp:∀e∈cc,e<=full):∀i,i<=cc.length->∀r:WL,r.length=full->LA r cc minus i=some (.own 0,[.arr 3 1 true ((KY (-1) minus (KY 1 (cc.drop i) r)).map ic)]):=by
 refine down _ ?_ ?_
 .intro r hr;apply Wz.1.1.1;rw[Ao,Ym];simpa[KY]using oM hf minus hm.1 hb 0 (Yc _) r hr
 .intro i hi ih r hr;have he:=hp _ (Yf hi);apply Wz.1.1.1;rw[An,wS hi Z,Yi hi,KY];refine⟨Z,_,gE hi,?_⟩;by_cases c:0<cc[i]
  .rw[Ya c,Ya c,Xb (x:=cc[i]-1) ⟨Z,Z⟩];exact⟨Z,_,gD Z,ih _ (by rw[EH];exact hr)⟩
  .grind
end
def ZB(n:Int):Nat:=(Ac 1 n-1).toNat
def JO{n:Int}(h:Al n 1 4=true):w (Ac 1 n-1)=(ZB n:Int)/\1<=ZB n/\ZB n<=15:=by
 have h':=ZP.1 h
 have:n=1\/n=2\/n=3\/n=4:=by omega
 rcases this with rfl|rfl|rfl|rfl<;>decide
theorem ZqJ{n:Int}(h:Al n 1 4=true)(c minus:WL)(hm:minus.length<=1000/\c.length<=900)(hb:∀e∈minus,e<=ZB n)(hp:∀e∈c,e<=ZB n):FT n c minus=some (.own 0,[.arr 3 1 true ((V9 (ZB n) c minus).map ic)]):=by
 have h':=ZP.1 h;obtain⟨e,h1,h2⟩:=JO h;apply ZK2;rw[e,Yh];have:=oN (full:=ZB n) ⟨h1,h2⟩ c minus hm hb hp 0 (Yc _) (List.replicate (ZB n) 0) Om;exact⟨Z,Z,Z,ZBS Z,Z,by simpa[V9]using this⟩
def Abt(i j s:Int)(full:Nat):WL:=V9 full [s,At (At s (Ac 1 i)) (Ac 1 j)] [At s (Ac 1 i),At s (Ac 1 j)]
def JP(full:Nat)(i j:Int):Nat->Int->WA
 |0,_=>[]
 |f+1,s=>if Ah (Au s i) 1=0/\Ah (Au s j) 1=0 then Abt i j s full::JP full i j f (s+1)else JP full i j f (s+1)
def JQ(full:Nat)(i:Int):Nat->Int->WA
 |0,_=>[]
 |f+1,j=>JP full i j (full+1) 0++JQ full i f (j+1)
def JR(n full:Nat):Nat->Int->WA
 |0,_=>[]
 |f+1,i=>JQ full i f (i+1)++JR n full f (i+1)
def NU(full:Nat):Nat->Int->WA
 |0,_=>[]
 |f+1,i=>V9 full [(full:Int)-Ac 1 i] [(full:Int)]::NU full f (i+1)
def elem(n:Int):WA:=NU (ZB n) n.toNat 0++JR n.toNat (ZB n) n.toNat 0
theorem Z1J(full:Nat)(i j:Int):∀f s,(JP full i j f s).length<=f
 |0,_=>Yj _
 |f+1,s=>by
  unfold JP;have:=Z1J full i j f (s+1)
  grind
theorem Z1K{full:Nat}(hf:full<=15)(i:Int):∀f j,(JQ full i f j).length<=f*16
 |0,_=>by simp[JQ]
 |f+1,j=>by
  unfold JQ;have h1:=Z1K hf i f (j+1)
  grind [Z1J,List.length_append]
def ZC2{full:Nat}(hf:full<=15)(n:Nat):∀f i,f<=4->(JR n full f i).length<=f*64
 |0,_,_=>by simp[JR]
 |f+1,i,h=>by
  unfold JR;have h1:=ZC2 hf n f (i+1) Z
  grind [Z1K,List.length_append]
def ZC3(full:Nat):∀f i,(NU full f i).length=f
 |0,_=>rfl
 |f+1,i=>by unfold NU;rw[Yx,ZC3]
def ZqK(full:Nat)(a b:WL):(V9 full a b).length=full:=by unfold V9;rw[Z1s,Z1s,List.length_replicate]
theorem Z1L(full:Nat)(i j:Int):∀f s,∀r∈JP full i j f s,r.length=full
 |0,_,r,h=>by cases h
 |f+1,s,r,h=>by
  unfold JP at h;split at h
  .rcases Y1.1 h with rfl|h
   .exact ZqK _ _ _
   .exact Z1L full i j f (s+1) r h
  .exact Z1L full i j f (s+1) r h
theorem ZC4(full:Nat)(i:Int):∀f j,∀r∈JQ full i f j,r.length=full
 |0,_,r,h=>by cases h
 |f+1,j,r,h=>by
  unfold JQ at h;rcases Yl.1 h with h|h
  .grind [Z1L]
  .exact ZC4 full i f (j+1) r h
theorem ZC5(n full:Nat):∀f i,∀r∈JR n full f i,r.length=full
 |0,_,r,h=>by cases h
 |f+1,i,r,h=>by
  unfold JR at h;rcases Yl.1 h with h|h
  .grind [ZC4]
  .exact ZC5 n full f (i+1) r h
theorem ZC6(full:Nat):∀f i,∀r∈NU full f i,r.length=full
 |0,_,r,h=>by cases h
 |f+1,i,r,h=>by
  unfold NU at h;rcases Y1.1 h with rfl|h
  .exact ZqK _ _ _
  .exact ZC6 full f (i+1) r h
def ZOD{n:Int}:∀r∈elem n,r.length=ZB n:=by
 intro r h;rcases Yl.1 h with h|h
 .grind [ZC6]
 .grind [ZC5]
def ZC7{n:Int}(h:Al n 1 4=true):1<=(elem n).length/\(elem n).length<=300:=by
 have h':=ZP.1 h;obtain⟨_,h1,h2⟩:=JO h;have h3:=ZC2 h2 n.toNat n.toNat 0 Z;unfold elem;rw[Yu,ZC3];omega
instance (ss:WL):Decidable (dis ss):=by unfold dis;infer_instance
def oO:∀(n:Fin 5) (i j:Fin 4) (s:Fin 16),1<=n.1->i.1<j.1->j.1<n.1->s.1<=ZB n.1->Ah (Au (s.1:Int) i.1) 1=0->Ah (Au (s.1:Int) j.1) 1=0->dis ([(s.1:Int),At (At s.1 (Ac 1 i.1)) (Ac 1 j.1)]++[At s.1 (Ac 1 i.1),At s.1 (Ac 1 j.1)])/\At (At (s.1:Int) (Ac 1 i.1)) (Ac 1 j.1)<=ZB n.1/\At (s.1:Int) (Ac 1 i.1)<=ZB n.1/\At (s.1:Int) (Ac 1 j.1)<=ZB n.1:=by decide +kernel
def NV:∀(n:Fin 5) (i:Fin 4),1<=n.1->i.1<n.1->Z4 (ZB n.1:Int) (Ac 1 i.1)=(ZB n.1:Int)-Ac 1 i.1/\w ((ZB n.1:Int)-Ac 1 i.1)=(ZB n.1:Int)-Ac 1 i.1/\dis ([(ZB n.1:Int)-Ac 1 i.1]++[(ZB n.1:Int)])/\(ZB n.1:Int)-Ac 1 i.1<=ZB n.1:=by decide +kernel
def ZOE{n:Int}(h:Al n 1 4=true){i j s:Int}(hi:0<=i)(c:i<j)(hj:j<n)(hs:0<=s)(cc:s<=ZB n)(b1:Ah (Au s i) 1=0)(b2:Ah (Au s j) 1=0):dis ([s,At (At s (Ac 1 i)) (Ac 1 j)]++[At s (Ac 1 i),At s (Ac 1 j)])/\(∀e∈[s,At (At s (Ac 1 i)) (Ac 1 j)],e<=ZB n)/\(∀e∈[At s (Ac 1 i),At s (Ac 1 j)],e<=ZB n):=by
 have h':=ZP.1 h;obtain⟨_,h1,h2⟩:=JO h;have en:n=((⟨n.toNat,Z⟩:Fin 5).1:Int):=by simp only;omega
 have ei:i=((⟨i.toNat,Z⟩:Fin 4).1:Int):=by simp only;omega
 have ej:j=((⟨j.toNat,Z⟩:Fin 4).1:Int):=by simp only;omega
 have es:s=((⟨s.toNat,Z⟩:Fin 16).1:Int):=by simp only;omega
 have:=oO ⟨n.toNat,Z⟩ ⟨i.toNat,Z⟩ ⟨j.toNat,Z⟩ ⟨s.toNat,Z⟩ (by simp only;omega) (by simp only;omega) (by simp only;omega) (by rw[<-en];simp only;omega) (by rw[<-es,<-ei];exact b1) (by rw[<-es,<-ej];exact b2)
 grind
def ZOF{n:Int}(h:Al n 1 4=true){i:Int}(hi:0<=i)(hj:i<n):Z4 (ZB n:Int) (Ac 1 i)=(ZB n:Int)-Ac 1 i/\w ((ZB n:Int)-Ac 1 i)=(ZB n:Int)-Ac 1 i/\dis ([(ZB n:Int)-Ac 1 i]++[(ZB n:Int)])/\(ZB n:Int)-Ac 1 i<=ZB n:=by
 have h':=ZP.1 h;have en:n=((⟨n.toNat,Z⟩:Fin 5).1:Int):=by simp only;omega
 have ei:i=((⟨i.toNat,Z⟩:Fin 4).1:Int):=by simp only;omega
 have:=NV ⟨n.toNat,Z⟩ ⟨i.toNat,Z⟩ (by simp only;omega) (by simp only;omega)
 grind
def ZOG{n:Int}(h:Al n 1 4=true){i j:Int}(hi:0<=i)(c:i<j)(hj:j<n)(res:XS):∀(f:Nat) (s:Int) (x:WA),s+f=(ZB n:Int)+1->0<=s->x.length+f<=100000->Ri (x++JP (ZB n) i j f s) n (ZB n) i (w (j+1))=some res->Rj x n (ZB n) i j s=some res:=by
 obtain⟨_,h1,h2⟩:=JO h;intro f
 induction f with
 |zero =>
  intro s x hs h0 hx next
  apply Wz.1.2.2.1;rw[Ao]
  simpa[JP]using next
 |succ f ih =>
  intro s x hs h0 hx next
  apply Wz.1.2.2.1;rw[An,Xb (x:=s+1) ⟨Z,Z⟩];rw[JP]at next
  refine⟨Z,?_⟩;by_cases b1:Ah (Au s i) 1=0
  .rw[Ya b1];refine⟨Z,?_⟩;by_cases b2:Ah (Au s j) 1=0
   .rw[Ya b2];rw[Ya ⟨b1,b2⟩]at next
    obtain⟨g1,g2,g3⟩:=ZOE h hi c hj h0 Z b1 b2;refine⟨_,ZqJ h _ _ Om g3 g2,Z,?_⟩;refine ih (s+1) _ Z Z (by simp;omega) ?_;rw[EX];exact next
   .grind
  .grind
def ZOH{n:Int}(h:Al n 1 4=true){i:Int}(hi:0<=i)(c:i<n)(res:XS):∀(f:Nat) (j:Int) (x:WA),j+f=n->i<j->x.length+16*f<=90000->Rh (x++JQ (ZB n) i f j) n (ZB n) (w (i+1))=some res->Ri x n (ZB n) i j=some res:=by
 obtain⟨_,h1,h2⟩:=JO h;have h':=ZP.1 h;intro f
 induction f with
 |zero =>
  intro j x hj hij hx next
  apply Wz.1.2.1.2;rw[Ao]
  simpa[JQ]using next
 |succ f ih =>
  intro j x hj hij hx next
  apply Wz.1.2.1.2;rw[An];have hl:=Z1J (ZB n) i j (ZB n+1) 0;refine ZOG h hi hij Z res (ZB n+1) 0 x Z Z Z ?_;rw[Xb (x:=j+1) ⟨Z,Z⟩];refine ih (j+1) _ Z Z (by rw[Yu];omega) ?_;rw[EX];exact next
def ZOI{n:Int}(h:Al n 1 4=true):∀(f:Nat) (i:Int) (x:WA),i+f=n->0<=i->x.length+64*f<=80000->Rh x n (ZB n) i=some (.own 0,[.arr 32 1 true ((x++JR n.toNat (ZB n) f i).map AF)]):=by
 obtain⟨_,h1,h2⟩:=JO h;have h':=ZP.1 h;intro f
 induction f with
 |zero =>
  intro i x hi h0 hx;apply Wz.1.2.1.1;rw[Ao]
  simp[JR]
 |succ f ih =>
  intro i x hi h0 hx;apply Wz.1.2.1.1;rw[An,Xb (x:=i+1) ⟨Z,Z⟩];have hl:=Z1K h2 i f (i+1);refine ZOH h h0 Z _ f (i+1) x Z Z Z ?_;rw[Xb (x:=i+1) ⟨Z,Z⟩];have:=ih (i+1) (x++JQ (ZB n) i f (i+1)) Z Z (by rw[Yu];omega);rw[EX]at this;exact this
def ZOJ{n:Int}(h:Al n 1 4=true):∀(f:Nat) (i:Int) (x:WA),i+f=n->0<=i->x.length+f<=1000->dS x n (ZB n) i=some (.own 0,[.arr 32 1 true ((x++(NU (ZB n) f i++JR n.toNat (ZB n) n.toNat 0)).map AF)]):=by
 obtain⟨_,h1,h2⟩:=JO h;have h':=ZP.1 h;intro f
 induction f with
 |zero =>
  intro i x hi h0 hx;apply Wz.1.1.2.2;rw[Ao]
  exact ZOI h n.toNat 0 x Z Z Z
 |succ f ih =>
  intro i x hi h0 hx;obtain⟨g1,g2,g3,g4⟩:=ZOF h h0 (show i<n by omega);apply Wz.1.1.2.2;rw[An,Xb (x:=i+1) ⟨Z,Z⟩];refine⟨Z,?_⟩;rw[g2];refine⟨_,ZqJ h _ _ Om Om (by simpa using g4),Z,?_⟩;have:=ih (i+1) (x++[V9 (ZB n) [(ZB n:Int)-Ac 1 i] [(ZB n:Int)]]) Z Z (by simp;omega);rw[EX]at this;exact this
def ZOK{n:Int}(h:Al n 1 4=true):dR n=some (.own 0,[.arr 32 1 true ((elem n).map AF)]):=by
 have h':=ZP.1 h;refine Wz.1.2.2.2 _ _ ⟨_,ZM _ _ _,?_⟩;rw[h,Ya rfl,(JO h).1];refine⟨Z,?_⟩;have:=ZOJ h n.toNat 0 [] Z Z (by simp;omega);simpa[elem]using this
def ZqL(m:Int):WL:=(ZI m 0 3).map λn:Nat=>(n:Int)
def oP(m:Int):∀i,i<=3->∀out:WL,out.length<=i->Lo out m i=some (.own 0,[.arr 3 1 true ((out++(ZI m i (3-i)).map λn:Nat=>(n:Int)).map ic)]):=by
 refine down _ ?_ ?_
 .intro out ho;apply X3.2.2.1.2;rw[Ao];simp[ZI]
 .intro i hi ih out ho;apply X3.2.2.1.2;rw[An,wS (show i<3 from hi) Z,show 3-i=(3-(i+1))+1 by omega,ZI];refine⟨Z,?_⟩;by_cases e:Ah (Au m i) 1=1
  .rw[Ya e,Ya (show Zy m i=true from decide_eq_true e)]
   grind
  .rw[Yb e,Yb (by unfold Zy;simpa using e)];exact ih out Z
def oQ(m:Int):UM m=some (.own 0,[.arr 3 1 true ((ZqL m).map ic)]):=X3.2.2.2.1 _ _ (by simpa[ZqL]using oP m 0 Z [] Om)
def Z1M(m n:Int):∀(k i:Nat) (p:Option Int),(∀q,p=some q->q<i)->(∀j,j∈ZI m i k->(j:Int)<n)->VA n p ((ZI m i k).map λn:Nat=>(n:Int))=true
 |0,_,_,_,_=>rfl
 |k+1,i,p,hp,hn=>by
  rw[ZI]at hn|-;split
  .rename_i e;rw[Ya e]at hn;simp only[Yz,VA,Yg];have h1:=hn i Om;refine⟨⟨ZP.2 ⟨Z,Z⟩,?_⟩,Z1M m n k (i+1) (some i) (λq hq=>by cases hq;omega) (λj hj=>hn j (by simp[hj]))⟩
   cases p with
   |none=>rfl
   |some q=>simpa[BO,EG]using hp q rfl
  .rename_i e;rw[Yb e]at hn;exact Z1M m n k (i+1) p (λq hq=>by have:=hp q hq;omega) hn
structure NW (m:Int) (n:Nat):Prop where
 h0:0<=m
 hm:m<2 ^ n
 hn:1<=n/\n<=3
def NW.lt8{m:Int}{n:Nat}(h:NW m n):0<=m/\m<8:=by
 have:(2:Nat) ^ n<=2 ^ 3:=Nat.pow_le_pow_right Sm h.hn.2
 have e:((2:Int) ^ n)=(((2:Nat) ^ n:Nat):Int):=by push_cast;rfl
 have:=h.h0;have:=h.hm;omega
def NW.mem{m:Int}{n:Nat}(h:NW m n){j:Nat}(hj:j∈ZI m 0 3):j<n:=by
 obtain⟨_,h3,hb⟩:=NP hj;rcases DD j n with hl|hl
 .exact hl
 .exfalso;have h8:=h.lt8;have hn:=h.hn;have em:m=((⟨m.toNat,Z⟩:Fin 16).1:Int):=by simp only;omega
  have:=oG ⟨m.toNat,Z⟩ ⟨n,Z⟩ ⟨j,Z⟩ (by
   have e:((2:Int) ^ n)=(((2:Nat) ^ n:Nat):Int):=by push_cast;rfl
   have:=h.hm;have:=h.h0
   simp only;omega) hl
  rw[<-em]at this;rw[this]at hb;cases hb
def NW.ok{m:Int}{n:Nat}(h:NW m n):Vd n (ZqL m)=true:=Z1M m n 3 0 none (λq hq=>by cases hq) (λj hj=>by have:=h.mem hj;omega)
def Z1N(t:Zs)(a:Zg)(m:Nat):ZJ:=⟨Gy 0 (S2 m 0 a.Vars),Gy 0 a.Vars,Nx (GE t (ZqL m))⟩
def EU(t:Zs)(a:Zg):List ZJ:=if t.Rows=[]then[]else(List.range (2 ^ a.Vars.length-1)).map (Z1N t a)
def NX(l:List ZJ):XS:=(.own 0,[.arr 311 3 true (l.map ZJ.c)])
section
variable{t:Zs}{a:Zg}(h:CC t)(hv:Xd t=true)(ha:t.Arity=(a.Vars.length:Int))
include h hv ha
omit h in
theorem ar3:1<=a.Vars.length/\a.Vars.length<=3:=by have:=ZP.1 (VB hv);omega
omit h in
theorem ZC8:w (Ac 1 (ZO t).Arity-1)=((2 ^ a.Vars.length-1:Nat):Int)/\(2:Nat) ^ a.Vars.length<=8/\2<=(2:Nat) ^ a.Vars.length:=by
 have h3:=ar3 hv ha;have h1:(2:Nat) ^ a.Vars.length<=2 ^ 3:=Nat.pow_le_pow_right Sm h3.2;have h2:(2:Nat) ^ 1<=2 ^ a.Vars.length:=Nat.pow_le_pow_right Sm h3.1;have e:((2:Int) ^ a.Vars.length)=(((2:Nat) ^ a.Vars.length:Nat):Int):=by push_cast;rfl
 rw[show(ZO t).Arity=t.Arity from rfl,ha,ZqA Z Z,Yh,e,Xb ⟨Z,Z⟩];omega
omit h in
theorem setOf{m:Nat}(hm:m<2 ^ a.Vars.length-1):NW m a.Vars.length:=by
 have e:((2:Int) ^ a.Vars.length)=(((2:Nat) ^ a.Vars.length:Nat):Int):=by push_cast;rfl
 exact⟨Z,Z,ar3 hv ha⟩
theorem oS:∀m,m<=2 ^ a.Vars.length-1->dM (ZO t) a ((List.range m).map (Z1N t a)) m=some (NX ((List.range (2 ^ a.Vars.length-1)).map (Z1N t a))):=by
 have h3:=ar3 hv ha;obtain⟨f1,f2,f3⟩:=ZC8 hv ha;refine down _ ?_ ?_
 .refine QD.1.1.2 _ _ _ _ _ ⟨by rw[show(ZO t).Arity=t.Arity from rfl];omega,?_⟩;rw[f1,Ao];rfl
 .intro m hm ih;have hs:=setOf hv ha hm;refine QD.1.1.2 _ _ _ _ _ ⟨by rw[show(ZO t).Arity=t.Arity from rfl];omega,?_⟩;rw[f1,An,wS hm Z];rw[DM,CV]at ih;exact⟨_,nJ Z,_,ZNL Z,_,oQ _,_,ZOy h hv (by rw[ha];exact hs.ok),_,ZNK _,by simp;omega,ih⟩
theorem ZOL:dL (ZO t) a=some (NX (EU t a)):=by
 have e:(ZO t).RowCount=(t.Rows.length:Int):=rfl;refine QD.1.2.1 _ _ _ ⟨_,Z1A h hv,?_⟩;rw[Ya rfl];unfold EU;by_cases h1:t.Rows=[]
 .rw[Ya (by rw[e,h1];rfl),Ya h1];rfl
 .have:=Y5.2 h1;rw[Yb (by rw[e];omega),Yb h1,Ya (show(a.Vars.length:Int)=(ZO t).Arity from ha.symm)];exact oS h hv ha 0 (Yc _)
omit h in
theorem ZC9:(EU t a).length<=7/\(t.Rows≠[]->0<(EU t a).length):=by
 obtain⟨f1,f2,f3⟩:=ZC8 hv ha;unfold EU
 grind
end
def NY(s:Zq)(q:Zc):V3->List ZJ->List ZJ
 |[],acc=>acc
 |i::l,acc=>if EU (Xy s q i) (Bl q i)=[]then[]else NY s q l (acc++EU (Xy s q i) (Bl q i))
def EV(s:Zq)(q:Zc)(m:Int):List ZJ:=NY s q (ZI m 0 q.Atoms.length) []
section
variable{s:Zq}{q:Zc}(c:Ctx s q)
include c
theorem oT{i:Nat}(h:i<q.Atoms.length):dL (ZO (Xy s q i)) (Bl q i)=some (NX (EU (Xy s q i) (Bl q i))):=ZOL (c.lt h) (c.vt h) (c.look h).2
theorem oU{m:Int}(cc:AU m):∀i,i<=q.Atoms.length->∀acc:List ZJ,acc.length<=7*i->Re s q acc m i=some (NX (NY s q (ZI m i (q.Atoms.length-i)) acc)):=by
 have hn4:=c.n4;refine down _ ?_ ?_
 .intro acc ha;apply QD.1.2.2;rw[Ao,Dt];rfl
 .intro i hi ih acc hacc;have hlen:=ZC9 (c.vt hi) (c.look hi).2;apply QD.1.2.2;rw[An,wS hi Z,show q.Atoms.length-i=(q.Atoms.length-(i+1))+1 by omega,ZI];refine⟨Z,?_⟩;by_cases e:Ah (Au m i) 1=0
  .rw[Ya e,Yb (by unfold Zy;rw[e];decide)];exact ih acc Z
  .have e1:Zy m i=true:=by
    rcases ft (Zy m i)with e1|e1
    .exact e1
    .grind [KU]
   rw[Yb e,Ya e1,NY];refine⟨_,_,_,_,NO c hi,Z,_,NN hi,_,oT c hi,?_⟩;by_cases e:EU (Xy s q i) (Bl q i)=[]
   .rw[Ya (by rw[e];rfl),Ya e];rfl
   .have:=Y5.2 e
    grind
theorem Z1O{m:Int}(cc:AU m)(le:BF s q m=true):dN s q m=some (NX (EV s q m)):=by
 refine QD.2.1.1 _ _ _ _ ⟨_,Ky c.le c.lq m,?_⟩;rw[le,Ya rfl];exact oU c cc 0 (Yc _) [] Om
theorem ZCA:∀(l:V3) (cc:List ZJ),(∀i∈l,i<q.Atoms.length)->(NY s q l cc).length<=cc.length+7*l.length
 |[],cc,_=>by simp[NY]
 |i::l,cc,h=>by
  have hi:=h i Om;have hlen:=ZC9 (c.vt hi) (c.look hi).2;unfold NY;split
  .simp
  .have:=ZCA l (cc++EU (Xy s q i) (Bl q i)) (λj hj=>h j (by simp[hj]))
   grind
theorem ZCB(m:Int):(EV s q m).length<=28:=by
 have h0:(EV s q m).length<=([]:List ZJ).length+7*(ZI m 0 q.Atoms.length).length:=ZCA c (ZI m 0 q.Atoms.length) [] (λi hi=>by have:=NP hi;omega);have h1:=ZCu m q.Atoms.length 0;have h2:([]:List ZJ).length=0:=rfl;have:=c.n4;omega
end
def Ih(m:Int):Nat->WL->Int->Int
 |_,[],x=>x
 |i,v::vs,x=>Ih m (i+1) vs (if Al v 0 3=true/\Ah (Au m v) 1=1 then At x (Ac 1 i)else x)
def QT(l:List ZJ)(c:WL):List ZJ:=l.map λy=>⟨Ih y.From 0 c 0,Ih y.To 0 c 0,y.Bits⟩
def oV(m:Int)(vars:WL)(h4:vars.length<=4):∀i,i<=vars.length->∀x,Rf m vars x i=some (I (Ih m i (vars.drop i) x),[]):=by
 refine down _ ?_ ?_
 .intro x;apply QD.2.1.2;rw[Ao,Ym];rfl
 .intro i hi ih x;apply QD.2.1.2;rw[An,An,wS hi Z,Yi hi,Ih]
  simp_all [gE,ZM,ft,ZP]
theorem oW(m:Int){vars:WL}(h4:vars.length<=4):dO m vars=some (I (Ih m 0 vars 0),[]):=QD.2.2.1 _ _ _ (by simpa using oV m vars h4 0 (Yc _) 0)
theorem ZOM{l:List ZJ}{c:WL}{i:Nat}(h:i<l.length):QT (l.take (i+1)) c=QT (l.take i) c++[⟨Ih l[i].From 0 c 0,Ih l[i].To 0 c 0,l[i].Bits⟩]:=by
 unfold QT;rw[Y0 h,CV];rfl
theorem ZCC(l:List ZJ)(vars:WL):(QT l vars).length=l.length:=by simp[QT]
def ZON{l:List ZJ}{vars:WL}(h4:vars.length<=4)(hl:l.length<=1000):dP l vars=some (NX (QT l vars)):=by
 have main:∀i,i<=l.length->dQ (QT (l.take i) vars) l vars i=some (NX (QT l vars)):=by
  refine down _ ?_ ?_
  .apply QD.2.2.2.1;rw[Ao,Yq];rfl
  .intro i hi ih;apply QD.2.2.2.1
   grind [wS,ZOM,gE,oW,ZCC,List.length_take]
 exact QD.2.2.2.2 _ _ _ (by simpa[QT]using main 0 (Yc _))
def Q5(full:Nat)(y:ZJ):Option (WL):=if Al y.To 1 full=true/\0<=y.From/\Ah y.From y.To=y.From/\y.From≠y.To then some (V9 full [y.To] [y.From])else none
def NZ(full:Nat):List ZJ->WA->WL->Option (WA×WL)
 |[],r,l=>some (r,l)
 |y::ys,r,l=>match Q5 full y with
  |none=>none
  |some row=>NZ full ys (r++[row]) (l++[y.Bits])
def Ii(l:List ZJ)(n:Int):Option Program:=if Al n 1 4=true then(match NZ (ZB n) l (elem n) (List.replicate (elem n).length 0)with
 |none=>none
 |some (r,lm)=>if QS ⟨V9 (ZB n) [(ZB n:Int)] [],r,lm⟩=true then some ⟨V9 (ZB n) [(ZB n:Int)] [],r,lm⟩else none)else none
def oX(o:Option Program):XS:=match o with
 |none=>(.tup [.agg [.own 0,.own 1,.own 2],Bo false],[.arr 3 1 true (([]:WL).map ic),.arr 32 1 true (([]:WA).map AF),.arr 3 1 true (([]:WL).map ic)])
 |some p=>(.tup [.agg [.own 0,.own 1,.own 2],Bo true],[.arr 3 1 true (p.Objective.map ic),.arr 32 1 true (p.Rows.map AF),.arr 3 1 true (p.Limits.map ic)])
structure Tc (full:Nat) (rs:WA) (ls:WL) (k:Nat):Prop where
 r:rs.length<=300+k
 l:ls.length=rs.length
 row:∀x∈rs,x.length=full
def Tc.le{full k:Nat}{r:WA}{l:WL}(h:Tc full r l k)(hf:full<=15)(hk:k<=100):Ic ⟨V9 full [(full:Int)] [],r,l⟩ :=
 ⟨by rw[show(Program.Objective ⟨V9 full [(full:Int)] [],r,l⟩)=V9 full [(full:Int)] []from rfl,ZqK];omega,by have:=h.r;show r.length<=1000;omega,by have:=h.r;have:=h.l;show l.length<=1000;omega,λx hx=>by have:=h.row x hx;omega⟩
def Tc.add{full k:Nat}{r:WA}{l:WL}(h:Tc full r l k)(a b:WL)(c:Int):Tc full (r++[V9 full a b]) (l++[c]) (k+1) :=
 ⟨by have:=h.r;simp;omega,by simp[h.l],λx hx=>by
  rcases Yl.1 hx with hx|hx
  .exact h.row x hx
  .rw[List.mem_singleton.1 hx];exact ZqK _ _ _⟩
def ZOO{f t:Int}(h0:0<=f)(ht:0<=t/\t<=15)(h:Ah f t=f):f<=t:=by
 have e:Ah f t<=t:=by
  unfold Ah;have hb:(BitVec.ofInt 64 t).toNat=t.toNat:=by
   grind
  grind [Nat.and_le_right,ZE]
 omega
def epR(full:Nat)(o:Option (WA×WL)):XS:=match o with
 |none=>oX none
 |some (r,lm)=>oX (if QS ⟨V9 full [(full:Int)] [],r,lm⟩=true then some ⟨V9 full [(full:Int)] [],r,lm⟩else none)
section
variable{n:Int}(h:Al n 1 4=true)
include h
theorem oY(ys:List ZJ)(hy:ys.length<=60):∀i,i<=ys.length->∀(r:WA) (l:WL),Tc (ZB n) r l i->Rm (V9 (ZB n) [(ZB n:Int)] []) r l ys n (ZB n) i=some (epR (ZB n) (NZ (ZB n) (ys.drop i) r l)):=by
 obtain⟨_,h1,h2⟩:=JO h;refine down _ ?_ ?_
 .intro r l hb;apply Wz.2.2.1.2;rw[Ao,Ym];refine⟨_,ZBN (hb.le h2 Z),?_⟩;unfold NZ epR;rcases ft (QS ⟨V9 (ZB n) [(ZB n:Int)] [],r,l⟩)with e|e
  .rw[e,Ya rfl];simp only[e,if_true];rfl
  .rw[e,Yb Sm];simp only[e];rfl
 .intro i hi ih r l hb;apply Wz.2.2.1.2;rw[An,wS hi Z,Yi hi,NZ];refine⟨Z,_,gE hi,_,ZM _ _ _,?_⟩;rcases ft (Al ys[i].To 1 (ZB n))with e|e
  .have e':=ZP.1 e;rw[e,Ya rfl];refine⟨_,ZM _ _ _,?_⟩;by_cases c1:ys[i].From<0
   .rw[Yb (by rw[show Al ys[i].From 0 (ZB n)=false by simp[Al];omega];decide),show Q5 (ZB n) ys[i]=none from Ao];rfl
   by_cases c2:Ah ys[i].From ys[i].To=ys[i].From
   .have hle:=ZOO (show 0<=ys[i].From by omega) Z c2;rw[Ya (ZP.2 ⟨Z,Z⟩),Ya c2];by_cases c3:ys[i].From=ys[i].To
    .rw[Ya c3,show Q5 (ZB n) ys[i]=none from Yb (λhc=>hc.2.2.2 c3)];rfl
    rw[Yb c3,Ao,show Q5 (ZB n) ys[i]=some (V9 (ZB n) [ys[i].To] [ys[i].From])from Ya ⟨e,Z,c2,c3⟩];have hadd:=hb.add [ys[i].To] [ys[i].From] ys[i].Bits;have hr:=hb.r;have hl:=hb.l
    grind [ZqJ]
   .rw[Yb c2,show Q5 (ZB n) ys[i]=none from Yb (λhc=>c2 hc.2.2.1)];split<;>rfl
  .rw[e,Yb Sm,show Q5 (ZB n) ys[i]=none from Yb (by rw[e];simp)];rfl
theorem ZOP{ys:List ZJ}(hy:ys.length<=60):LC ys n=some (oX (Ii ys n)):=by
 have h':=ZP.1 h;obtain⟨e,h1,h2⟩:=JO h;have hel:=ZC7 h;refine ZAs _ _ _ ⟨_,ZM _ _ _,?_⟩;rw[h,Ya rfl,e];refine⟨Z,_,ZqJ h [(ZB n:Int)] [] Om Om Om,_,ZOK h,Z,Z,by rw[Yh];exact ZBS Z,Z,?_⟩;rw[Yh];have:=oY h ys hy 0 (Yc _) (elem n) (List.replicate (elem n).length 0) ⟨Z,Om,ZOD⟩;rw[Yo]at this;refine Ye this ?_;unfold Ii epR
 grind
omit h in
theorem ZCD{full:Nat}:∀(ys:List ZJ) (r:WA) (l:WL) (o:WA×WL),r≠[]->NZ full ys r l=some o->o.1≠[]
 |[],r,l,o,hr,h=>by cases h;exact hr
 |y::ys,r,l,o,hr,h=>by
  unfold NZ at h
  cases e:Q5 full y with
  |none=>rw[e]at h;cases h
  |some row=>rw[e]at h;exact ZCD ys _ _ o Om h
omit h in
theorem ZOQ{ys:List ZJ}{n:Int}{p:Program}(h:Ii ys n=some p):QS p=true/\p.Rows≠[]:=by
 unfold Ii at h;split at h
 .rename_i hn;split at h
  .cases h
  .rename_i r lm he;split at h
   .rename_i hp;cases h;have hel:=ZC7 hn;exact⟨hp,ZCD _ _ _ _ (λhc=>by rw[hc]at hel;simp at hel) he⟩
   .cases h
 .cases h
end
def N0{p:Program}(h:QS p=true):Ic p/\p.Objective≠[]:=by
 have:=Zq8 h;have h1:=this.o;have h2:=this.r;have h3:=this.l;exact⟨⟨Z,Z,Z,λr hr=>by have:=this.row r hr;omega⟩,λhc=>by rw[hc]at h1;simp at h1⟩
def GG(s:Zq)(q:Zc)(m:Int):Option Zb:=if EV s q m=[]then none else(match Ii (QT (EV s q m) (XE q m)) (XE q m).length with
 |none=>none
 |some p=>(S0 p).map Zv.Value)
def ZOR{o:Option Zv}{r:Rs}(h:Ans o r):∃P D:List Zb,r=some (.tup [.agg [I ((o.map Zv.Value).getD r0).Num,I ((o.map Zv.Value).getD r0).Den,.own 0,.own 1],Bo (o.map Zv.Value).isSome],[.arr 277 2 true (P.map Zb.c),.arr 277 2 true (D.map Zb.c)]):=by
 cases o with
 |none=>exact⟨[],[],h⟩
 |some d=>obtain⟨P,D,Cl⟩:=h;exact⟨P,D,Cl⟩
theorem ZOS{s:Zq}{q:Zc}(c:Ctx s q)(m:Int):Al ((XE q m).length:Int) 1 4=true\/(XE q m).length=0:=by
 have:=Gp q c.vq m
 grind [ZP]
theorem ZOT(ys:List ZJ):True/\LC ys 0=some (oX none)/\Ii ys 0=none:=by
 refine⟨trivial,ZAs _ _ _ ⟨_,ZM _ _ _,?_⟩,rfl⟩;rw[Yb Sm];rfl
section
variable{s:Zq}{q:Zc}(c:Ctx s q){m:Int}(h1:1<=m)(h2:m<2 ^ q.Atoms.length)(le:BF s q m=true)
include c h1 h2 le
omit h1 h2 le in
theorem oZ:LC (QT (EV s q m) (XE q m)) (XE q m).length=some (oX (Ii (QT (EV s q m) (XE q m)) (XE q m).length)):=by
 grind [ZOS,ZOP,ZCC,ZCB,ZOT]
theorem ZOU:eR s q m=some (oR (GG s q m)):=by
 have hq:=ZCB c m;have hv4:=Gp q c.vq m;have hMQ:MQ q.Atoms m:=⟨Z,h2⟩;have h16:=NQ Z h2 c.n4.2;have key:∃P D:List Zb,yM s q m=some (.tup [.agg [I ((GG s q m).getD r0).Num,I ((GG s q m).getD r0).Den,.own 0,.own 1],Bo (GG s q m).isSome],[.arr 277 2 true (P.map Zb.c),.arr 277 2 true (D.map Zb.c)]):=by
  unfold GG;by_cases e0:EV s q m=[]
  .rw[Ya e0];refine⟨[],[],XU.2.1.1.1 _ _ _ _ ⟨[],[],[],false,Wz.2.2.2.1 _ _ _ _ ⟨_,Z1O c h16 le,?_⟩,?_⟩⟩
   .simp_all
   .rw[Yb Sm];rfl
  .have hp:=Y5.2 e0;rw[Yb e0];have hE:=oZ c (m:=m);have hR:=ZON (l:=EV s q m) hv4 Z
   cases e1:Ii (QT (EV s q m) (XE q m)) (XE q m).length with
   |none =>
    rw[e1]at hE;refine⟨[],[],XU.2.1.1.1 _ _ _ _ ⟨[],[],[],false,Wz.2.2.2.1 _ _ _ _ ⟨_,Z1O c h16 le,?_⟩,?_⟩⟩
    .rw[Ao];exact⟨_,Zqm q c.lq c.vq m hMQ,_,hR,[],[],[],false,hE,rfl⟩
    .rw[Yb Sm];rfl
   |some p =>
    rw[e1]at hE;obtain⟨hok,hrows⟩:=ZOQ e1;obtain⟨hle,Ach⟩:=N0 hok;obtain⟨P,D,Cl⟩:=ZOR (ZNC hle hrows);refine⟨P,D,XU.2.1.1.1 _ _ _ _ ⟨p.Objective,p.Rows,p.Limits,true,Wz.2.2.2.1 _ _ _ _ ⟨_,Z1O c h16 le,?_⟩,?_⟩⟩
    .rw[Ao];exact⟨_,Zqm q c.lq c.vq m hMQ,_,hR,_,_,_,true,hE,rfl⟩
    .rw[Ya rfl];exact⟨_,_,_,_,Cl,rfl⟩
 obtain⟨P,D,Cl⟩:=key;exact XU.2.1.1.2 _ _ _ _ ⟨_,_,_,_,Cl,rfl⟩
end
theorem ZOV{s:Zq}{q:Zc}{m:Int}{r:Zb}(h:GG s q m=some r):vR r=true/\0<=r.Num:=by
 unfold GG at h;split at h
 .cases h
 split at h
 .cases h
 .rename_i p _
  cases e:S0 p with
  |none=>rw[e]at h;cases h
  |some d =>
   rw[e]at h;cases h;have:=ZND e;exact⟨this.v.vv,this.x⟩
def o7(s:Zq)(q:Zc)(l:V3):Bool:=l.any λi=>decide (VC s q i=0)
def Kz(s:Zq)(q:Zc)(m:Int):Int:=if o7 s q (ZI m 0 q.Atoms.length)=true then 0 else match GG s q m with
 |none=>4096
 |some r=>mG r
section
variable{s:Zq}{q:Zc}(c:Ctx s q)
include c
theorem o8{m:Int}(h1:1<=m)(h2:m<2 ^ q.Atoms.length)(le:BF s q m=true):∀i,i<=q.Atoms.length->eW s q m i=some (I (if o7 s q (ZI m i (q.Atoms.length-i))=true then 0 else match GG s q m with|none=>4096|some r=>mG r),[]):=by
 have hn4:=c.n4;refine down _ ?_ ?_
 .apply XB.1.1.1.1;rw[Ao,Dt,Yb (by simp[o7,ZI])];refine⟨_,_,ZOU c h1 h2 le,?_⟩
  grind [ZOV,ZNJ]
 .intro i hi ih;apply XB.1.1.1.1;rw[An,wS hi Z,show q.Atoms.length-i=(q.Atoms.length-(i+1))+1 by omega,ZI];refine⟨Z,?_⟩;by_cases e:Ah (Au m i) 1=1
  .rw[Ya e,Ya (show Zy m i=true from decide_eq_true e)];refine⟨_,_,_,_,NO c hi,?_⟩;have e0:o7 s q (i::ZI m (i+1) (q.Atoms.length-(i+1)))=(decide (VC s q i=0) || o7 s q (ZI m (i+1) (q.Atoms.length-(i+1)))):=rfl;rw[e0];by_cases e:VC s q i=0
   .rw[show((Xy s q i).Rows.length:Int)=VC s q i from rfl,Ya e,decide_eq_true e,Ya (by rfl)]
   .rw[show((Xy s q i).Rows.length:Int)=VC s q i from rfl,Yb e,decide_eq_false e,E1];exact ih
  .rw[Yb e,Yb (show ¬Zy m i=true by unfold Zy;simpa using e)];exact ih
theorem ZOW{m:Int}(h1:1<=m)(h2:m<2 ^ q.Atoms.length)(le:BF s q m=true):Rw s q m=some (I (Kz s q m),[]):=by
 refine XB.1.1.1.2 _ _ _ _ ⟨_,Ky c.le c.lq m,?_⟩;rw[le,Ya rfl];exact o8 c h1 h2 le 0 (Yc _)
end
def Z1P(P C:Int)(p e:Option Int):Int×Int :=
 let a:=if C<P then(C,2)else(P,1)
 let b:=match p with
  |some x=>if x<a.1 then(x,3)else a
  |none=>a
 match e with
 |some x=>if x<b.1 then(x,4)else b
 |none=>b
def ZqM(s:Zq)(q:Zc)(l:V3):Option Int:=match l with
 |[a,b]=>some (ZC0 s q a b)
 |_=>none
def ZqN(s:Zq)(q:Zc)(m:Int):Int×Int:=Z1P (ZqI s q (ZI m 0 q.Atoms.length) 1) (CG s q 4 0 m) (ZqM s q (ZI m 0 q.Atoms.length)) (if 1<(ZI m 0 q.Atoms.length).length then some (Kz s q m)else none)
def ZCE{m:Int}:∀{k i a b:Nat} {l:V3},ZI m i k=a::b::l->a<b
 |0,i,a,b,l,h=>by cases h
 |k+1,i,a,b,l,h=>by
  rw[ZI]at h;split at h
  .obtain⟨rfl,h2⟩:=List.cons.inj h
   have:b∈ZI m (i+1) k:=by rw[h2];simp
   have:=NP this;omega
  .exact ZCE h
section
variable{s:Zq}{q:Zc}(c:Ctx s q){m:Int}(h1:1<=m)(h2:m<2 ^ q.Atoms.length)(le:BF s q m=true)
include c h1 h2 le
theorem N1:eY s q m=some (.tup [I (ZqN s q m).1,I (ZqN s q m).2],[]):=by
 have h16:=NQ Z h2 c.n4.2;have hmem:∀i∈ZI m 0 q.Atoms.length,i<q.Atoms.length:=λi hi=>by have:=NP hi;omega
 have hne:=@ZCE m q.Atoms.length 0;have hE:=ZOW c h1 h2 le;have hM:=ZAU h16;rw[c.msk h1 h2]at hM;refine XB.1.2.1.2 _ _ _ _ ⟨_,Ky c.le c.lq m,?_⟩;rw[le,Ya rfl];refine⟨_,ZO5 c h1 h2 le,_,ZOA c h1 h2 le,?_⟩;unfold ZqN;generalize ZqI s q (ZI m 0 q.Atoms.length) 1=P;generalize CG s q 4 0 m=C;generalize ZI m 0 q.Atoms.length=l at hmem hne hM;have j1:∀(n r:Int),1<l.length->eZ s q (l.map λn:Nat=>(n:Int)) m n r=some (.tup [I (if Kz s q m<n then((Kz s q m,4):Int×Int)else(n,r)).1,I (if Kz s q m<n then((Kz s q m,4):Int×Int)else(n,r)).2],[]):=by
  grind [XB.1.1.2.1,List.length_map]
 have j1a:∀(n r x:Int),1<l.length->fA s q (l.map λn:Nat=>(n:Int)) m n r x false=some (.tup [I (if Kz s q m<n then((Kz s q m,4):Int×Int)else(n,r)).1,I (if Kz s q m<n then((Kz s q m,4):Int×Int)else(n,r)).2],[]):=by
  grind [XB.1.1.2.2,List.length_map]
 have j1b:∀(n r:Int),fB s q (l.map λn:Nat=>(n:Int)) m n r false=some (.tup [I (match(if 1<l.length then some (Kz s q m)else none:Option Int)with|some x=>if x<n then((x,4):Int×Int)else(n,r)|none=>(n,r)).1,I (match(if 1<l.length then some (Kz s q m)else none:Option Int)with|some x=>if x<n then((x,4):Int×Int)else(n,r)|none=>(n,r)).2],[]):=by
  intro n r;apply XB.1.2.1.1
  grind
 by_cases two:l.length=2
 .obtain⟨a,b,rfl⟩:∃a b,l=[a,b]:=by
   match l,two with
   |[a,b],_=>exact⟨a,b,rfl⟩
  .have hab:=hne rfl;have hPB:=ZOC c (hmem a Om) (hmem b Om) (show a≠b by omega);unfold Z1P ZqM;simp only[Yx,Df];rw[Ya (show(1:Nat)<0+1+1 by decide)];simp only;by_cases cP:C<P
   .rw[Ya cP];simp only[Ya cP];refine⟨_,hM,?_⟩
    simp_all
   .rw[Yb cP];simp only[Yb cP];refine⟨_,hM,?_⟩
    simp_all
 .have hp:ZqM s q l=none:=by
   unfold ZqM
   grind
  unfold Z1P;rw[hp];simp only;by_cases cP:C<P
  .grind
  .grind
end
open Classical in
def Td(s:Zq)(q:Zc)(m:Int):Int×Int:=if BF s q m=true then ZqN s q m else(-1,0)
def ZOX{s:Zq}{q:Zc}(h:U5 s)(hq:AI q)(m:Int):eY s q m=some (.tup [I (Td s q m).1,I (Td s q m).2],[]):=by
 unfold Td;rcases ft (BF s q m)with e|e
 .grind [oE,N1]
 .simp_all [XB.1.2.1.2,Ky]
def ZOY{s:Zq}{q:Zc}(h:U5 s)(hq:AI q)(m:Int):yQ s q m=some (I (Td s q m).1,[]):=XB.1.2.2.1 _ _ _ _ ⟨_,_,ZOX h hq m,rfl⟩
def Te(s:Zq)(q:Zc)(m:Nat):Int:=if XY q.Atoms (m:Int)=true/\m≠0 then(Td s q m).1 else 0
def Ij(s:Zq)(q:Zc)(k:Nat):WL:=(List.range k).map (Te s q)
def ZOZ(s:Zq)(q:Zc)(k:Nat):Ij s q (k+1)=Ij s q k++[Te s q k]:=by
 unfold Ij;rw[DM,CV];rfl
def ZCF(s:Zq)(q:Zc)(k:Nat):(Ij s q k).length=k:=by simp[Ij]
def o9(s:Zq)(q:Zc):WL:=if BF s q 1=true then Ij s q (2 ^ q.Atoms.length)else[]
def N2{s:Zq}{q:Zc}(c:Ctx s q){m:Int}(h1:1<=m)(h2:m<2 ^ q.Atoms.length):BF s q m=true:=by
 have e1:=c.st;have e2:=c.qf;have h3:=(KR c.vq).2.1;unfold BF;rw[e1,e2,Yk,Yk];refine ZP.2 ⟨h1,?_⟩;unfold Z3;rw[Ya c.vq,h3];omega
section
variable{s:Zq}{q:Zc}(c:Ctx s q)
include c
theorem N3:∀k:Nat,k<=2 ^ q.Atoms.length->Rx s q (Ij s q k) k=some (.own 0,[.arr Z9 1 true ((Ij s q (2 ^ q.Atoms.length)).map ic)]):=by
 have hf:=Qs c.vq;have hp:=QJ q.Atoms.length;have h16:2 ^ q.Atoms.length<=16:=Nat.pow_le_pow_right (Z:0<2) (W1 c.vq).2;refine down _ ?_ ?_
 .refine XB.1.2.2.2.1 _ _ _ _ _ ⟨_,VN q c.lq,?_⟩
  grind
 .intro k hk ih;have CB:w ((k:Int)+1)=((k+1:Nat):Int):=by rw[show((k+1:Nat):Int)=(k:Int)+1 by omega];exact ZE Z Z
  have hr:Al (k:Int) 0 (Z3 q.Zh q.Atoms)=true:=ZP.2 ⟨Z,by rw[hf];omega⟩;have ec:XM q.Zh q.Atoms k=(decide ((k:Int)≠0) && XY q.Atoms k):=by unfold XM;rw[c.vq,hr,Yk,Yk]
  have hl:=ZCF s q k;refine XB.1.2.2.2.1 _ _ _ _ _ ⟨_,VN q c.lq,?_⟩;rw[Ya (by rw[hf];omega)];refine⟨_,Gm q c.lq k,?_⟩;rw[CB,ec];rw[ZOZ]at ih;rcases ft (decide ((k:Int)≠0) && XY q.Atoms k)with e|e
  .rw[Ya e];refine⟨_,ZOY c.le c.lq k,Z,?_⟩;simp only[Yg,decide_eq_true_eq]at e;have ea:Te s q k=(Td s q k).1:=by unfold Te;rw[Ya ⟨e.2,Z⟩]
   rw[ea]at ih;exact ih
  .rw[Yb (by rw[e];decide)];refine⟨Z,?_⟩;have ea:Te s q k=0:=by
    unfold Te;rw[Yb];rintro⟨h1,h2⟩
    simp_all
   rw[ea]at ih;exact ih
end
def ZCG{s:Zq}{q:Zc}:BF s q (Z3 q.Zh q.Atoms)=BF s q 1:=by
 unfold BF;congr 2;by_cases h:1<=Z3 q.Zh q.Atoms
 .rw[ZP.2 ⟨h,Int.le_refl _⟩,ZP.2 ⟨Int.le_refl _,h⟩]
 .have e1:Al (Z3 q.Zh q.Atoms) 1 (Z3 q.Zh q.Atoms)≠true:=λhh=>h (ZP.1 hh).1
  have e2:Al 1 1 (Z3 q.Zh q.Atoms)≠true:=λhh=>h (ZP.1 hh).2
  simp_all
def Z1Q{s:Zq}{q:Zc}(h:U5 s)(hq:AI q):yS s q=some (.own 0,[.arr Z9 1 true ((o9 s q).map ic)]):=by
 refine XB.1.2.2.2.2 _ _ _ ⟨_,VN q hq,_,Ky h hq _,?_⟩;rw[ZCG];unfold o9;rcases ft (BF s q 1)with e|e
 .obtain⟨c,h1,h2⟩:=oE h hq e;rw[Ya e,Ya e];exact N3 c 0 (Yc _)
 .simp_all
def ZqO(n:Int):LK n=some (I (JC n),[]):=by
 apply XB.2.1.2.2;unfold JC;by_cases h0:n<0
 .simp_all
 rw[Yb h0,Yb h0];apply XB.2.1.2.1;rw[Ya Sm];refine⟨_,Gk _,?_⟩;rw[show XJ 0=0 from by decide];by_cases h1:n<=0
 .simp_all
 rw[Yb h1,Yb h1,show w (0+1)=1 from by decide];apply XB.2.1.2.1;rw[Ya Sm];refine⟨_,Gk _,?_⟩;rw[show XJ 1=1 from by decide];by_cases h1:n<=1
 .simp_all
 rw[Yb h1,Yb h1,show w (1+1)=2 from by decide];apply XB.2.1.2.1;rw[Ya Sm];refine⟨_,Gk _,?_⟩;rw[show XJ 2=4 from by decide];by_cases h1:n<=4
 .simp_all
 rw[Yb h1,Yb h1,show w (2+1)=3 from by decide];apply XB.2.1.2.1;rw[Ya Sm];refine⟨_,Gk _,?_⟩;rw[show XJ 3=16 from by decide];by_cases h1:n<=16
 .simp_all
 rw[Yb h1,Yb h1,show w (3+1)=4 from by decide];apply XB.2.1.2.1;rw[Ya Sm];refine⟨_,Gk _,?_⟩;rw[show XJ 4=64 from by decide];by_cases h1:n<=64
 .simp_all
 rw[Yb h1,Yb h1,show w (4+1)=5 from by decide];apply XB.2.1.2.1;rw[Ya Sm];refine⟨_,Gk _,?_⟩;rw[show XJ 5=256 from by decide];by_cases h1:n<=256
 .simp_all
 rw[Yb h1,Yb h1,show w (5+1)=6 from by decide];apply XB.2.1.2.1;rw[Ya Sm];refine⟨_,Gk _,?_⟩;rw[show XJ 6=1024 from by decide];by_cases h1:n<=1024
 .simp_all
 rw[Yb h1,Yb h1,show w (6+1)=7 from by decide];apply XB.2.1.2.1;rw[Ya Sm];refine⟨_,Gk _,?_⟩;rw[show XJ 7=4096 from by decide];by_cases h1:n<=4096
 .simp_all
 rw[Yb h1,Yb h1,show w (7+1)=8 from by decide];simp[XB.2.1.2.1]
theorem N4{α:Type}{x:List α}{i:Nat}(h:i<x.length)(f:α->Int):(x.take (i+1)).map f=(x.take i).map f++[f x[i]]:=by
 grind [List.take_add_one,List.getElem?_eq_getElem]
def pC(x y:WL)(hx:x.length<=1000)(hl:y.length=x.length):∀i,i<=x.length->fD x y ((x.take i).map JC) ((y.take i).map JC) i=some (.tup [.agg ((⟨x.map JC,y.map JC⟩:Box).c.map .t),Bo true],[]):=by
 refine down x.length ?_ ?_
 .apply XB.2.2.1.2;rw[Ao,Yq,<-hl,Yq];rfl
 .intro i hi ih;have hj:i<y.length:=by omega
  have CB:w ((i:Int)+1)=((i+1:Nat):Int):=by rw[show((i+1:Nat):Int)=(i:Int)+1 by omega];exact ZE Z Z
  apply XB.2.2.1.2;rw[An];refine⟨Z,x[i],by rw[Yh,Yd hi],_,ZqO _,by simp;omega,y[i],by rw[Yh,Yd hj],_,ZqO _,by simp;omega,?_⟩
  grind [N4]
theorem pD(x y:WL)(h0:0<x.length)(hx:x.length<=1000)(hl:y.length=x.length):yU x y 0=some (.tup [.agg ((⟨x.map JC,y.map JC⟩:Box).c.map .t),Bo true],[]):=by
 have b:=pC x y hx hl 1 h0;apply XB.2.2.1.1;obtain⟨a,x,rfl⟩:=List.exists_cons_of_ne_nil (List.ne_nil_of_length_pos h0);obtain⟨c,y,rfl⟩:=List.exists_cons_of_ne_nil (List.ne_nil_of_length_pos (Z:0<y.length));rw[Ya Om];refine⟨Sm,a,rfl,_,ZqO _,c,rfl,_,ZqO _,?_⟩;rw[show w (0+1)=1 from by decide];simpa using b
def fx(xs:WL)(v:Int):Int:=Wt (λx=>decide (v=x)) xs 0
def ZqP(v x:Z8):Bool:=decide (v.Name=x.Name/\v.Column=x.Column/\v.Into=x.Into/\v.IntoColumn=x.IntoColumn)
def pE(s:Zq)(a b:Zg)(v:Int):Bool:=(decide (a.Name=b.Name) && decide (fx a.Vars v=fx b.Vars v)) || s.Inclusions.any (ZqP ⟨a.Name,fx a.Vars v,b.Name,fx b.Vars v⟩)
def N5(s:Zq)(q:Zc)(k:Nat)(v:Int)(l:V3):Bool:=l.any λa=>has (Bl q a).Vars v && pE s (Bl q a) (Bl q k) v
def pF(q:Zc)(c:Int)(k:Nat):WL:=(Bl q k).Vars.filter (has (XE q c))
def Ik(s:Zq)(q:Zc)(c:Int)(k:Nat):Bool:=if Ah (Au c k) 1=1 then false else match pF q c k with
 |[v]=>N5 s q k v (ZI c 0 q.Atoms.length)
 |_=>false
section
variable{s:Zq}{q:Zc}(c:Ctx s q)
include c
theorem atv{i:Nat}(h:i<q.Atoms.length):Le (Bl q i).Vars:=by have:=c.vars3 h;omega
theorem ZCH{k:Nat}(hk:k<q.Atoms.length)(v:Int):cU (Bl q k) v=some (I (fx (Bl q k).Vars v),[]):=by
 have h3:=c.vars3 hk;have l:∀i,i<=(Bl q k).Vars.length->cV (Bl q k) v i=some (I (Wt (λx=>decide (v=x)) ((Bl q k).Vars.drop i) i),[]):=by
  refine down _ ?_ ?_
  .apply XX.2.1.2.1;rw[Ao,Ym];rfl
  .intro i hi ih;apply XX.2.1.2.1;rw[An,wS hi Z,Sz _ hi];refine⟨Z,_,gE hi,?_⟩
   grind
 exact XX.2.1.2.2 _ _ _ (l 0 (Yc _))
theorem N6{v:WL}{want:Z8}{mask i k:Int}{R:Bool}(hR:Lv s q v mask i (w (k+1))=some (Bo R,[])):∀j,j<=s.Inclusions.length->cX s q v want mask i k j=some (Bo ((s.Inclusions.drop j).any (ZqP want) || R),[]):=by
 have hx:=c.le.x;refine down _ ?_ ?_
 .simp_all [XX.2.2.1.2,Ym]
 .intro j hj ih;apply XX.2.2.1.2;rw[An,wS hj Z,Yi hj,GM];refine⟨Z,_,gE hj,?_⟩;by_cases e:s.Inclusions[j].Name=want.Name/\s.Inclusions[j].Column=want.Column/\s.Inclusions[j].Into=want.Into/\s.Inclusions[j].IntoColumn=want.IntoColumn
  .rw[Ya e,show ZqP want s.Inclusions[j]=true from decide_eq_true ⟨e.1.symm,e.2.1.symm,e.2.2.1.symm,e.2.2.2.symm⟩];rfl
  .rw[Yb e,show ZqP want s.Inclusions[j]=false from decide_eq_false λh=>e ⟨h.1.symm,h.2.1.symm,h.2.2.1.symm,h.2.2.2.symm⟩,E1];exact ih
theorem N7{cc:Int}(cd:AU cc){i:Nat}(hi:i<q.Atoms.length)(v:Int):∀k,k<=q.Atoms.length->Lv s q [v] cc i k=some (Bo (N5 s q i v (ZI cc k (q.Atoms.length-k))),[]):=by
 have hn4:=c.n4;refine down _ ?_ ?_
 .apply XX.2.2.1.1;rw[Ao,Dt];rfl
 .intro k hk ih;apply XX.2.2.1.1;rw[An,show q.Atoms.length-k=(q.Atoms.length-(k+1))+1 by omega,ZI];refine⟨Z,?_⟩;rcases ft (Zy cc k)with e|e
  .rw[Yb (λhc=>by rw[(KU cd Z).1 hc]at e;cases e),e,Ya rfl,N5,GM];refine⟨Z,_,NN hk,v,rfl,_,Qq _ _ (atv c hk),?_⟩;rcases ft (has (Bl q k).Vars v)with e2|e2
   .rw[e2,Ya rfl,Yk,pE];refine⟨_,ZCH c hk v,Z,_,NN hi,_,ZCH c hi v,?_⟩;have cont:=N6 c (v:=[v]) (want:=⟨(Bl q k).Name,fx (Bl q k).Vars v,(Bl q i).Name,fx (Bl q i).Vars v⟩) (mask:=cc) (i:=i) (k:=k) (by rw[wS hk Z];exact ih) 0 (Yc _);rw[Yo]at cont;by_cases en:(Bl q k).Name=(Bl q i).Name
    .rw[Ya en];by_cases ef:fx (Bl q k).Vars v=fx (Bl q i).Vars v
     .simp_all
     .rw[Yb ef,decide_eq_false ef,Bool.and_false,E1];exact cont
    .rw[Yb en,decide_eq_false en,E2,E1];exact cont
   .rw[e2,Yb Sm,E2,E1,wS hk Z];exact ih
  .grind [KU,wS]
end
def ZCI{n:Int}:∀{vs c:WL},WG n c vs=true->vs.Nodup/\∀v∈vs,v ∉ c
 |[],_,_=>⟨Y8,λv hv=>by cases hv⟩
 |x::xs,c,h=>by
  simp only[WG,Yg,Bool.not_eq_true']at h;obtain⟨h1,h2⟩:=ZCI h.2
  grind [Ko,List.nodup_cons]
def Z1R{A B:WL}(hB:B.Nodup)(h:∀x,x∈A↔x∈B){v:Int}(hA:A=[v]):B=[v]:=by
 subst hA;have hall:∀x∈B,x=v:=λx hx=>by simpa using(h x).2 hx
 match B,hB,h v with
 |[],_,hv=>exact absurd (hv.1 Om) Om
 |[x],_,_=>rw[hall x Om]
 |x::y::r,hn,_ =>
  simp_all
theorem Z1S{α:Type}(p:α->Bool){l:List α}(h:l.Nodup):(l.filter p).Nodup:=List.Pairwise.filter p h
def ZPa(m:Int)(qa:List Zg)(k:Nat):(Xw m qa k).Nodup:=by
 unfold Xw
 grind [List.range,Z1S,List.nodup_range]
section
variable{s:Zq}{q:Zc}(c:Ctx s q)
include c
theorem Z1T{k:Nat}(hk:k<q.Atoms.length)(cc x:Int):x∈pF q cc k↔x∈Vb q cc (Ac 1 k):=by
 have hA:Bl q k=q.Atoms[k]:=by unfold Bl;rw[DN,Yd hk];rfl
 have hok:WO q.Zh (Bl q k)=true:=by
  have hv:=c.vq;simp only[Zx,Yg,Yp]at hv
  simp_all
 have e:has (XE q (Ac 1 k)) x=has (Bl q k).Vars x:=by
  rw[show has (XE q (Ac 1 k)) x=Bj q.Atoms (Ac 1 k) x from SB c.vq _ _,hA];unfold Bj;rcases ft (Al x 0 3)with ei|ei
  .rw[ei,Yk,ZAJ _ c.n4.2 hk]
   grind [ZP]
  .rw[ei,E2];refine(Bool.eq_false_iff.2 λhh=>?_).symm;rw[<-hA]at hh;simp only[WO,Yg]at hok;have h1:=ZP.1 (ZpU hok.2 x (Ko.1 hh));have h2:=QE c.vq
   grind [ZP]
 unfold pF Vb
 grind [Ko]
theorem ZCJ{got:Int}(h1:1<=got)(h2:got<2 ^ q.Atoms.length){k:Nat}(hk:k<q.Atoms.length):w7 s q got k=some (Bo (Ik s q got k),[]):=by
 have h16:=NQ Z h2 c.n4.2;have hn4:=c.n4;have hA:Bl q k=q.Atoms[k]:=by unfold Bl;rw[DN,Yd hk];rfl
 have hnA:(pF q got k).Nodup:=by
  have hv:=c.vq;simp only[Zx,Yg,Yp]at hv;have hok:=hv.1.2 _ (Yf hk);rw[<-hA]at hok;simp only[WO,Yg]at hok;exact Z1S _ (ZCI hok.2).1
 have hnB:(Vb q got (Ac 1 k)).Nodup:=Z1S _ (ZPa _ _ _);have wn:w ((q.Atoms.length:Int)-1)=(q.Atoms.length:Int)-1:=ZE Z Z;have hf:MQ q.Atoms got:=lV c.vq (ZP.2 ⟨Z,by rw[Qs c.vq];omega⟩);refine XX.2.2.2.1 _ _ _ _ _ ⟨_,Ky c.le c.lq got,?_⟩;rw[N2 c h1 h2,Ya rfl];refine⟨_,ZM _ _ _,?_⟩;rw[wn,ZP.2 ⟨Z,Z⟩,Ya rfl];refine⟨Z,?_⟩;unfold Ik;by_cases eb:Ah (Au got k) 1=1
 .simp_all
 rw[Yb eb,Yb eb];refine⟨_,Z1i q c.lq c.vq got (Ac 1 k) hf (Z1I c hk),?_⟩
 match hS:pF q got k with
 |[v] =>
  have hB:=Z1R hnB (Z1T c hk got) hS;rw[hB,Ya (by rfl)];have:=N7 c h16 hk v 0 (Yc _)
  exact this
 |[] =>
  rw[Yb];intro h;obtain⟨v,hv⟩:=List.length_eq_one_iff.1 (by exact_mod_cast h:(Vb q got (Ac 1 k)).length=1);have:=Z1R hnA (λx=>(Z1T c hk got x).symm) hv
  simp_all
 |a::b::r =>
  rw[Yb];intro h;obtain⟨v,hv⟩:=List.length_eq_one_iff.1 (by exact_mod_cast h:(Vb q got (Ac 1 k)).length=1);have:=Z1R hnA (λx=>(Z1T c hk got x).symm) hv
  simp_all
end
def EW(s:Zq)(q:Zc):Nat->Int->Int->Bool
 |0,_,left=>decide (left=0)
 |f+1,got,left=>if left=0 then true else(ZI left 0 4).any λi=>Ik s q got i && EW s q f (At got (Ac 1 i)) (Z4 left (Ac 1 i))
theorem ZCK(s:Zq)(q:Zc)(f:Nat)(g:Int):EW s q f g 0=true:=by
 cases f<;>rfl
def pG:∀(n:Fin 5) (g:Fin 16) (i:Fin 4),g.1<2 ^ n.1->i.1<n.1->1<=At (g.1:Int) (Ac 1 i.1)/\At (g.1:Int) (Ac 1 i.1)<2 ^ n.1:=by decide +kernel
def pH:∀(n:Fin 5) (i:Fin 4),i.1<n.1->1<=Ac 1 (i.1:Int)/\Ac 1 (i.1:Int)<2 ^ n.1/\At 0 (Ac 1 (i.1:Int))=Ac 1 (i.1:Int):=by decide +kernel
def pI:∀(m:Fin 16) (i:Fin 4),Zy (m.1:Int) i.1=true->Ah (Ac 1 (i.1:Int)) m.1=Ac 1 (i.1:Int):=by decide +kernel
def ZPb(k:Nat):((2:Int) ^ k)=(((2:Nat) ^ k:Nat):Int):=by push_cast;rfl
def N8{n:Nat}(hn:n<=4){g:Int}(h:AU g)(hg:g<2 ^ n){i:Nat}(hi:i<n):1<=At g (Ac 1 i)/\At g (Ac 1 i)<2 ^ n:=by
 obtain⟨a,rfl⟩:=m16 h;have e:=ZPb n;exact pG ⟨n,Z⟩ a ⟨i,Z⟩ (by simp only;omega) hi
def pJ{n:Nat}(hn:n<=4){i:Nat}(hi:i<n):1<=Ac 1 (i:Int)/\Ac 1 (i:Int)<2 ^ n/\At 0 (Ac 1 (i:Int))=Ac 1 (i:Int):=pH ⟨n,Z⟩ ⟨i,Z⟩ hi
section
variable{s:Zq}{q:Zc}(c:Ctx s q)
include c
end
def Uj(l:WL)(u:Int):Int:=l.foldl (λu x=>At u (Ac 1 x)) u
def ZPc(l:WL)(u x:Int):Uj (l++[x]) u=At (Uj l u) (Ac 1 x):=by unfold Uj;rw[List.foldl_append];rfl
def WkR(o:WL)(mask c:Int)(b:Bool)(r:Rs):Prop :=
 (c=mask/\r=some (.own 0,[.arr 3 1 true (o.map ic)]))\/
 (c≠mask/\∃y:WL,(0<(y.length:Int)↔b=true)/\r=some (.own 1,[.arr 3 1 true (o.map ic),.arr 3 1 true (y.map ic)]))
def pK(s:Zq)(q:Zc)(o:WL)(mask:Int)(ho:o.length<=1000)(hp:∀x∈o,0<=x):∀i,i<=o.length->∀u r,(if Uj (o.drop i) u=mask then some (AV.own 0,[AK.arr 3 1 true (o.map ic)])=some r else Kg o s q mask (Uj (o.drop i) u) 0=some r)->PW o s q mask u i=some r:=by
 refine down _ ?_ ?_
 .intro u r hr;rw[Ym]at hr;apply XX.2.2.2.2.1;rw[Ao];exact hr
 .intro i hi ih u r hr;rw[Yi hi]at hr;apply XX.2.2.2.2.1;rw[An,wS hi Z];exact⟨Z,_,gE hi,by have:=hp _ (Yf hi);omega,ih _ _ hr⟩
def pL{s:Zq}{q:Zc}{o:WL}{mask:Int}{b:Bool}(ho:o.length<=1000)(hp:∀x∈o,0<=x)(h:Uj o 0≠mask->∃y:WL,(0<(y.length:Int)↔b=true)/\Kg o s q mask (Uj o 0) 0=some (.own 1,[.arr 3 1 true (o.map ic),.arr 3 1 true (y.map ic)])):WkR o mask (Uj o 0) b (Q9 o s q mask):=by
 by_cases e:Uj o 0=mask
 .refine .inl ⟨e,Gc.1.1 _ _ _ _ _ (pK s q o mask ho hp 0 (Yc _) 0 _ ?_)⟩
  simp_all
 .obtain⟨y,h1,h2⟩:=h e;refine .inr ⟨e,y,h1,Gc.1.1 _ _ _ _ _ (pK s q o mask ho hp 0 (Yc _) 0 _ ?_)⟩
  simp_all
section
variable{s:Zq}{q:Zc}(c:Ctx s q)
include c
theorem Abu{f:Nat}{mask used:Int}(hm:AU mask)(co:mask<2 ^ q.Atoms.length)(hu:AU used)(cn:1<=used)(cc:used<2 ^ q.Atoms.length)(hs:Ah used mask=used)(cp:used≠mask)(hp:Xa (Z4 mask used)<=f+1)(o:WL)(ho:o.length+f+1<=1000)(cd:∀x∈o,0<=x)(cl:Uj o 0=used)
  (ih:∀(p:WL) (u:Int),p.length+f<=1000->(∀x∈p,0<=x)->Uj p 0=u->AU u->1<=u->u<2 ^ q.Atoms.length->Ah u mask=u->Xa (Z4 mask u)<=f->WkR p mask u (EW s q f u (Z4 mask u)) (Q9 p s q mask)) :
  ∀i,i<=q.Atoms.length->∃y:WL,(0<(y.length:Int)↔((ZI (Z4 mask used) i (q.Atoms.length-i)).any λi=>Ik s q used i && EW s q f (At used (Ac 1 i)) (Z4 (Z4 mask used) (Ac 1 i)))=true)/\Kg o s q mask used i=some (.own 1,[.arr 3 1 true (o.map ic),.arr 3 1 true (y.map ic)]):=by
 have hn4:=c.n4;have De:AU (Z4 mask used):=by
  obtain⟨a,rfl⟩:=m16 hm;obtain⟨u,rfl⟩:=m16 hu;exact(NT a u hs).1
 refine down _ ?_ ?_
 .refine⟨[],by rw[Dt];simp[ZI],XX.2.2.2.2.2 _ _ _ _ _ _ _ ?_⟩;rw[Ao]
 .intro i hi oL;have hb:Zy (Z4 mask used) i=(Zy mask i && !Zy used i)/\(Zy mask i=true->Ah (At used (Ac 1 i)) mask=At used (Ac 1 i))/\AU (At used (Ac 1 i))/\Z4 mask (At used (Ac 1 i))=Z4 (Z4 mask used) (Ac 1 i):=by
   obtain⟨a,rfl⟩:=m16 hm;obtain⟨u,rfl⟩:=m16 hu;exact ZCz a u ⟨i,Z⟩ hs
  rw[show q.Atoms.length-i=(q.Atoms.length-(i+1))+1 by omega,ZI,hb.1];rcases ft (Zy mask i)with e|e
  .have e1:Ah (Au mask i) 1=1:=of_decide_eq_true e;rw[e,Yk];have skip:Ik s q used i=false->∀r,Kg o s q mask used ((i+1:Nat):Int)=some r->Kg o s q mask used i=some r:=by
    intro ee r hr;apply XX.2.2.2.2.2;rw[An,Ya e1,wS hi Z]
    simp_all [ZCJ]
   rcases ft (Zy used i)with e2|e2
   .have ee:Ik s q used i=false:=by unfold Ik;rw[Ya (of_decide_eq_true e2)]
    grind
   .rw[e2,Ya (by rfl),GM];rcases ft (Ik s q used i)with ee|ee
    .rw[ee,Yk];have hleft:Zy (Z4 mask used) i=true:=by rw[hb.1,e,e2];rfl
     have hpn:Xa (Z4 mask (At used (Ac 1 i)))<=f:=by
      rw[hb.2.2.2];obtain⟨a,ha⟩:=m16 De;rw[ha]at hp hleft|-;have:=(oI a ⟨i,Z⟩ hleft).2;simp only at this;omega
     have hor:=N8 hn4.2 hu cc hi;have rcl:=ih (o++[(i:Int)]) (At used (Ac 1 i)) (by simp;omega) (by intro x hx;rcases Yl.1 hx with h|h;exact cd x h;simp at h;omega) (by rw[ZPc,cl]) hb.2.2.1 hor.1 hor.2 (hb.2.1 e) hpn;rw[hb.2.2.2]at rcl
     have stp:∀r,((∃v2:WL,Q9 (o++[(i:Int)]) s q mask=some (.own 0,[.arr 3 1 true (v2.map ic)])/\(if 0<(v2.length:Int)then some (AV.own 1,[AK.arr 3 1 true (o.map ic),.arr 3 1 true (v2.map ic)])=some r else Kg o s q mask used ((i+1:Nat):Int)=some r))\/
       (∃v3 v4:WL,Q9 (o++[(i:Int)]) s q mask=some (.own 1,[.arr 3 1 true (v3.map ic),.arr 3 1 true (v4.map ic)])/\(if 0<(v4.length:Int)then some (AV.own 1,[AK.arr 3 1 true (o.map ic),.arr 3 1 true (v4.map ic)])=some r else Kg o s q mask used ((i+1:Nat):Int)=some r)))->Kg o s q mask used i=some r:=by
      intro r hr;apply XX.2.2.2.2.2;rw[An,Ya e1,wS hi Z];refine⟨Z,_,ZCJ c cn cc hi,?_⟩
      grind
     rcases rcl with⟨r0,r1⟩|⟨r0,y,r1,r2⟩
     .have hz:Z4 (Z4 mask used) (Ac 1 i)=0:=by
       rw[<-hb.2.2.2];obtain⟨a,ha⟩:=m16 hm;obtain⟨u,hu'⟩:=m16 hb.2.2.1;have:=(NT a u (by rw[<-ha,<-hu'];exact hb.2.1 e)).2
       simp_all
      rw[hz,ZCK,Bool.true_or];refine⟨o++[(i:Int)],Om,stp _ (.inl ⟨_,r1,?_⟩)⟩;rw[Ya Om]
     .rcases ft (EW s q f (At used (Ac 1 i)) (Z4 (Z4 mask used) (Ac 1 i)))with e5|e5
      .grind
      .grind
    .grind
  .have e1:¬Ah (Au mask i) 1=1:=of_decide_eq_false e;obtain⟨y,h1,h2⟩:=oL;rw[e,E2,Yb Sm]
   grind [XX.2.2.2.2.2,wS]
theorem ZPd{mask:Int}(hm:AU mask)(cc:mask<2 ^ q.Atoms.length):∀(f:Nat),f<=5->∀(p:WL) (u:Int),p.length+f<=1000->(∀x∈p,0<=x)->Uj p 0=u->AU u->1<=u->u<2 ^ q.Atoms.length->Ah u mask=u->Xa (Z4 mask u)<=f->WkR p mask u (EW s q f u (Z4 mask u)) (Q9 p s q mask):=by
 intro f
 induction f with
 |zero =>
  intro _ p u hp hpos hou hu hu1 hu2 hs hpc;subst hou;refine pL Z hpos λhne=>?_
  exfalso;obtain⟨a,ha⟩:=m16 hm;obtain⟨w,hw⟩:=m16 hu;rw[ha,hw]at hs hpc hne;have k:=NT a w hs;obtain⟨z,hz⟩:=m16 k.1;have k2:=k.2;rw[hz]at hpc k2;by_cases h:z.1=0
  .omega
  .grind [Z1H]
 |succ f ih =>
  intro hf p u hp hpos hou hu hu1 hu2 hs hpc;subst hou;refine pL Z hpos λhne=>?_
  have De:AU (Z4 mask (Uj p 0))/\(Uj p 0=mask↔Z4 mask (Uj p 0)=0):=by
   obtain⟨a,rfl⟩:=m16 hm;obtain⟨u,hu'⟩:=m16 hu;rw[hu']at hs|-;exact NT a u hs
  have hlt:Z4 mask (Uj p 0)<2 ^ q.Atoms.length:=by
   have:Z4 mask (Uj p 0)<=mask:=by
    obtain⟨a,rfl⟩:=m16 hm;obtain⟨u,hu'⟩:=m16 hu
    simp_all [ZCw]
   omega
  have b:=Abu c hm cc hu hu1 hu2 hs hne hpc p Z hpos rfl (λy u a1 a2 a3 a4 a5 a6 a7 a8=>ih Z y u a1 a2 a3 a4 a5 a6 a7 a8) 0 (Yc _);rw[EW,Yb (λh=>hne (De.2.2 h)),Z1G De.1.1 hlt c.n4.2];exact b
def Tf(s:Zq)(q:Zc)(m b:Int)(i:Nat):Int:=if EW s q 4 (Ac 1 i) (Z4 m (Ac 1 i))=true then(if b<VC s q i then VC s q i else b)else b
def lbV(s:Zq)(q:Zc)(m:Int):Int:=(ZI m 0 q.Atoms.length).foldl (Tf s q m) 0
theorem ZPe{m:Int}(h1:1<=m)(h2:m<2 ^ q.Atoms.length)(le:BF s q m=true){i:Nat}(hi:i<q.Atoms.length):∃y:WL,PX s q m i=some (.own 0,[.arr 3 1 true (y.map ic)])/\(0<(y.length:Int)↔(Zy m i && EW s q 4 (Ac 1 i) (Z4 m (Ac 1 i)))=true):=by
 have hn4:=c.n4;have h16:=NQ Z h2 hn4.2;have wn:w ((q.Atoms.length:Int)-1)=(q.Atoms.length:Int)-1:=ZE Z Z;have stp:∀r,(if Ah (Au m i) 1=0 then some (AV.own 0,[AK.arr 3 1 true (([]:WL).map ic)])=some r else((∃v3:WL,Q9 [(i:Int)] s q m=some (.own 0,[.arr 3 1 true (v3.map ic)])/\some (AV.own 0,[AK.arr 3 1 true (v3.map ic)])=some r)\/(∃v4 v5:WL,Q9 [(i:Int)] s q m=some (.own 1,[.arr 3 1 true (v4.map ic),.arr 3 1 true (v5.map ic)])/\some (AV.own 0,[AK.arr 3 1 true (v5.map ic)])=some r)))->PX s q m i=some r:=by
  intro r hr;refine Gc.1.2.1 _ _ _ _ _ ⟨_,Ky c.le c.lq m,?_⟩;rw[le,Ya rfl];refine⟨_,ZM _ _ _,?_⟩
  grind [ZP]
 rcases ft (Zy m i)with e|e
 .have e1:¬Ah (Au m i) 1=0:=λhc=>by rw[(KU h16 Z).1 hc]at e;cases e
  have hsh:=pJ hn4.2 hi;have hpm:=ZCy h16;have hpl:Xa (Z4 m (Ac 1 i))<=4:=by
   obtain⟨a,rfl⟩:=m16 h16;have:=(oI a ⟨i,Z⟩ e).2
   grind
  have hsub:Ah (Ac 1 (i:Int)) m=Ac 1 i:=by
   obtain⟨a,rfl⟩:=m16 h16;exact pI a ⟨i,Z⟩ e
  have wk:=ZPd c h16 h2 4 Z [(i:Int)] (Ac 1 i) Om Om hsh.2.2 (NQ Z hsh.2.1 hn4.2) hsh.1 hsh.2.1 hsub hpl;rw[e,Yk];rcases wk with⟨r0,r1⟩|⟨r0,y,r1,r2⟩
  .have hz:Z4 m (Ac 1 i)=0:=by
    obtain⟨a,ha⟩:=m16 h16;obtain⟨u,hu'⟩:=m16 (NQ Z hsh.2.1 hn4.2:AU (Ac 1 (i:Int)));have:=(NT a u (by rw[<-ha,<-hu'];exact hsub)).2
    simp_all
   grind [ZCK]
  .grind
 .refine⟨[],stp _ ?_,by rw[e];simp⟩
  grind [KU]
theorem pM{m:Int}(h1:1<=m)(h2:m<2 ^ q.Atoms.length)(le:BF s q m=true):∀i,i<=q.Atoms.length->∀b,PZ s q m b i=some (I ((ZI m i (q.Atoms.length-i)).foldl (Tf s q m) b),[]):=by
 have hn4:=c.n4;refine down _ ?_ ?_
 .intro b;apply W7.2.1.1.2;rw[Ao,Dt];rfl
 .intro i hi ih b;obtain⟨y,y1,y2⟩:=ZPe c h1 h2 le hi;apply W7.2.1.1.2;rw[An,wS hi Z,show q.Atoms.length-i=(q.Atoms.length-(i+1))+1 by omega,ZI];refine⟨_,y1,?_⟩;rcases ft (Zy m i)with e|e
  .rw[e,Yk]at y2;rw[e,Ya rfl,Yv];rcases ft (EW s q 4 (Ac 1 i) (Z4 m (Ac 1 i)))with e5|e5
   .rw[Ya (y2.2 e5)];refine⟨_,_,_,_,NO c hi,?_⟩;have ee:Tf s q m b i=(if b<((Xy s q i).Rows.length:Int)then((Xy s q i).Rows.length:Int)else b):=by unfold Tf;rw[e5,Ya rfl];rfl
    rw[<-ee];exact ih _
   .rw[Yb (λh=>by rw[y2.1 h]at e5;cases e5)];have ee:Tf s q m b i=b:=by unfold Tf;rw[e5,Yb Sm]
    rw[ee];exact ih _
  .simp_all
end
def lbF(s:Zq)(q:Zc)(m:Int):Int:=if BF s q m=true then lbV s q m else -1
def ZPf{s:Zq}{q:Zc}(h:U5 s)(hq:AI q)(m:Int):xE s q m=some (I (lbF s q m),[]):=by
 refine W7.2.1.2.1 _ _ _ _ ⟨_,Ky h hq m,?_⟩;unfold lbF;rcases ft (BF s q m)with e|e
 .obtain⟨c,h1,h2⟩:=oE h hq e;rw[Ya e,Ya e];exact pM c h1 h2 e 0 (Yc _) 0
 .simp_all
def Tg(s:Zq)(q:Zc)(m:Nat):Int:=if XY q.Atoms (m:Int)=true/\m≠0 then lbF s q m else 0
def Il(s:Zq)(q:Zc)(k:Nat):WL:=(List.range k).map (Tg s q)
def ZPg(s:Zq)(q:Zc)(k:Nat):Il s q (k+1)=Il s q k++[Tg s q k]:=by
 unfold Il;rw[DM,CV];rfl
def Z1U(s:Zq)(q:Zc)(k:Nat):(Il s q k).length=k:=by simp[Il]
def GH(s:Zq)(q:Zc):WL:=if BF s q 1=true then Il s q (2 ^ q.Atoms.length)else[]
section
variable{s:Zq}{q:Zc}(c:Ctx s q)
include c
theorem N9:∀k:Nat,k<=2 ^ q.Atoms.length->P0 s q (Il s q k) k=some (.own 0,[.arr Z9 1 true ((Il s q (2 ^ q.Atoms.length)).map ic)]):=by
 have hf:=Qs c.vq;have hp:=QJ q.Atoms.length;have h16:2 ^ q.Atoms.length<=16:=Nat.pow_le_pow_right (Z:0<2) (W1 c.vq).2;refine down _ ?_ ?_
 .refine W7.2.1.2.2 _ _ _ _ _ ⟨_,VN q c.lq,?_⟩
  grind
 .intro k hk ih;have CB:w ((k:Int)+1)=((k+1:Nat):Int):=by rw[show((k+1:Nat):Int)=(k:Int)+1 by omega];exact ZE Z Z
  have hr:Al (k:Int) 0 (Z3 q.Zh q.Atoms)=true:=ZP.2 ⟨Z,by rw[hf];omega⟩;have ec:XM q.Zh q.Atoms k=(decide ((k:Int)≠0) && XY q.Atoms k):=by unfold XM;rw[c.vq,hr,Yk,Yk]
  have hl:=Z1U s q k;refine W7.2.1.2.2 _ _ _ _ _ ⟨_,VN q c.lq,?_⟩;rw[Ya (by rw[hf];omega)];refine⟨_,Gm q c.lq k,?_⟩;rw[CB,ec];rw[ZPg]at ih;rcases ft (decide ((k:Int)≠0) && XY q.Atoms k)with e|e
  .rw[Ya e];refine⟨_,ZPf c.le c.lq k,Z,?_⟩;simp only[Yg,decide_eq_true_eq]at e;have ea:Tg s q k=lbF s q k:=by unfold Tg;rw[Ya ⟨e.2,Z⟩]
   rw[ea]at ih;exact ih
  .rw[Yb (by rw[e];decide)];refine⟨Z,?_⟩;have ea:Tg s q k=0:=by
    unfold Tg;rw[Yb];rintro⟨h1,h2⟩
    simp_all
   rw[ea]at ih;exact ih
end
def Z1V{s:Zq}{q:Zc}(h:U5 s)(hq:AI q):dA s q=some (.own 0,[.arr Z9 1 true ((GH s q).map ic)]):=by
 refine W7.2.2.1.1 _ _ _ ⟨_,VN q hq,_,Ky h hq _,?_⟩;rw[ZCG];unfold GH;rcases ft (BF s q 1)with e|e
 .obtain⟨c,h1,h2⟩:=oE h hq e;rw[Ya e,Ya e];exact N9 c 0 (Yc _)
 .simp_all
def ZPh{s:Zq}{q:Zc}(h:U5 s)(hq:AI q):(GH s q).length<=16:=by
 unfold GH;rcases ft (BF s q 1)with e|e
 .obtain⟨c,_,_⟩:=oE h hq e;rw[Ya e,Z1U];exact Nat.pow_le_pow_right (Z:0<2) (W1 c.vq).2
 .simp_all
def ZPi{s:Zq}{q:Zc}(e:BF s q 1=true):(GH s q).length=2 ^ q.Atoms.length/\(o9 s q).length=2 ^ q.Atoms.length:=by
 unfold GH o9;rw[Ya e,Ya e,Z1U,ZCF];exact⟨rfl,rfl⟩
def okB(s:Zq)(q:Zc):Bool:=BF s q 1 && XM q.Zh q.Atoms (Z3 q.Zh q.Atoms)
def pN(s:Zq)(q:Zc):Box:=if okB s q=true then⟨(GH s q).map JC,(o9 s q).map JC⟩else⟨[],[]⟩
def ZPj{s:Zq}{q:Zc}(h:U5 s)(hq:AI q):fC s q=some (.tup [.agg ((pN s q).c.map .t),Bo (okB s q)],[])/\(pN s q).Low.length<=17/\(pN s q).High.length<=17:=by
 have l1:=ZPh h hq;unfold pN okB;rcases ft (BF s q 1)with e|e
 .have hl:=ZPi e;have h1:1<=2 ^ q.Atoms.length:=Nat.one_le_two_pow;rcases ft (XM q.Zh q.Atoms (Z3 q.Zh q.Atoms))with e2|e2
  .refine⟨XB.2.2.2.1 _ _ _ ⟨_,Z1V h hq,_,Z1Q h hq,?_⟩,?_⟩
   .rw[Ao,e,Yk];refine⟨_,VN q hq,_,Gm q hq _,?_⟩
    grind [pD]
   .grind
  .simp_all [XB.2.2.2.1,Z1V,Z1Q,Yk,VN,Gm]
 .have e0:GH s q=[]:=by unfold GH;rw[Yb (by rw[e];decide)]
  simp_all [XB.2.2.2.1,Z1V,Z1Q,E2]
end
