/-
  Parts of the proofs for this seat: IG IH IJ IK GH K.
-/
import Derived.Test.YtdioodopdlpinaaGreatP6
import Derived.Test.YtdioodopdlpinaaGreatP7
import Derived.Test.YtdioodopdlpinaaGreatP14
import Derived.Test.YtdioodopdlpinaaGreatP15
set_option linter.unusedSimpArgs false
set_option linter.unusedVariables false
set_option maxRecDepth 100000
set_option maxHeartbeats 4000000
namespace Go.Proofs.YtdioodopdlpinaaGreat
open Go.AM
noncomputable section
theorem Zcbt{M v c:Int}{x:List Zc}(hM:M≠0)(hv:0<=v/\v<=3):[offK 0 zE M v c x,offK 1 zE M v c x,offK 2 zE M v c x,offK 3 zE M v c x,offK 4 zE M v c x].filter sm=[⟨M,v,c,⟨x⟩⟩]:=by
 have h:v=0\/v=1\/v=2\/v=3:=by omega
 rcases h with rfl|rfl|rfl|rfl<;>simp[offK,offE,sm,zE,hM]
theorem Zcbu:∀(i:Fin 4) (a:Fin 16),1<=a.1->(a.1:Int)<shlI 1 (i.1:Nat)->andI (a.1:Int) (shlI 1 (i.1:Nat))≠a.1:=by decide
theorem Zcbv{qa:List Atom}{i:Nat}(hi:i<4):Z5 qa (shlI 1 i)=[]:=by
 cases h:Z5 qa (shlI 1 i)with
 |nil=>rfl
 |cons A l =>
  exfalso;obtain⟨h1,h2,h3,_⟩:=Zuu (qa:=qa) (M:=shlI 1 i) (A:=A) (by rw[h];simp);have h16:M16 (shlI 1 (i:Nat)):=(f_shl ⟨i,hi⟩ ⟨0,by omega⟩).2;obtain⟨a,rfl⟩:=m16 (x:=A) (by omega);exact Zcbu ⟨i,hi⟩ a (by omega) h2 h3
theorem flat_ne{E:List Za}(h:E≠[]):flat (E.map Za.c)=false:=by
 cases E with
 |nil=>exact absurd rfl h
 |cons e E=>simp[flat,Za.c,Zbk]
theorem Zcbw{qa:List Atom}{n:Int}(hv:Zx n qa=true){M A:Int}(hM:MQ qa M)(h:A∈Z5 qa M):Zhd M A=M-A:=by
 obtain⟨h1,h2,h3,_⟩:=Zuu h;have h16:=(hM.m16 hv).1;obtain⟨a,rfl⟩:=m16 (x:=A) (by omega);obtain⟨b,rfl⟩:=m16 h16;exact(f_diff a b h3).1
theorem l_copyT(fr:Bool)(out:List Za)(hl:out.length<=1000)(hs:∀e∈out,e.Plan.Steps.length<=1000):∀i,i<=out.length->Zsd fr out out.length i=some (.own 0,[.arr 206 4 fr (out.map Za.c)]):=by
 refine down _ ?_ ?_
 .refine Zbkb ?_;rw[if_neg (by omega)]
 .intro i hi ih;have h4:=Z6 (i:=i) (by omega);have hw:w ((i:Int)+1)=((i+1:Nat):Int):=by rw[show w ((i:Int)+1)=(i:Int)+1 from h4];simp
  refine Zbkb ?_;rw[if_pos (by omega),hw];refine⟨by omega,out[i],by rw[Yg];exact Yc hi,_,Zzf _ (hs _ (Yd hi)),?_⟩;rw[Yg]
  have:out.set i (⟨out[i].Mask,out[i].Order,out[i].Cost,(⟨out[i].Plan.Steps⟩:Plan)⟩:Za)=out:=Zut (Yc hi)
  rw[this];exact ih
theorem Inv.steps{m:Zb}{q:Ze}{sizes done:List Int}{out:List Za}(h:Inv m sizes q done out)(c:∀M∈done,M16 M):∀e∈out,e.Plan.Steps.length<=1000:=by
 intro e he;have hd:=h.only e he;have hh:=(h.held _ hd).len e (Ybe.2 ⟨he,by simp⟩);have:=Zeu (c _ hd);omega
theorem conn_16{n:Int}{qa:List Atom}(hv:Zx n qa=true):∀M∈Zy qa,M16 M:=by
 intro M hM;obtain⟨h1,h2,_⟩:=Zl7.1 hM;exact(MQ.m16 hv ⟨by omega,h2⟩).1
theorem Z82{m:Zb}{q:Ze}{sizes:List Int}(b:Base m q sizes){i:Nat}(hi:i<=(Zy q.Atoms).length):∀e∈Zbo m sizes q i,e.Plan.Steps.length<=1000 :=
 (Zp3 b i hi).steps λM hM=>conn_16 b.hv M (Y6 hM)
theorem i_table{m:Zb}{q:Ze}{sizes:List Int}(b:Base m q sizes):∀i,i<=(Zy q.Atoms).length->∀(cc:List (List Za)) (fr fr1:Bool),cc.length=2 ^ q.Atoms.length->(∀M∈(Zy q.Atoms).take i,cc[M.toNat]?=some (ofM (Zbo m sizes q i) M))->(i=(Zy q.Atoms).length->fr1=false)->
  Zjp m q fr cc fr1 (Zbo m sizes q i) (Zy q.Atoms) sizes (Zy q.Atoms).length i=some (.own 0,[.arr 206 4 false ((Zbo m sizes q (Zy q.Atoms).length).map Za.c)]):=by
 have hcl:=Zzm b.hv;refine down _ ?_ ?_
 .intro cc fr fr1 _ _ hf;rw[hf rfl];refine Zbj9 ?_;rw[if_neg (by omega)];exact l_copyT false _ (by have:=Zuw b (Yh (Zy q.Atoms).length);omega) (Z82 b (Yh _)) 0 (Ya _)
 .intro i hi ih cc fr fr1 htl hT hf;have h4:=Z6 (i:=i) (by omega);have hw:w ((i:Int)+1)=((i+1:Nat):Int):=by rw[show w ((i:Int)+1)=(i:Int)+1 from h4];simp
  obtain⟨c1,c2,c3,c4⟩:=Zp2 hi;have hinv:=Zp3 b i (by omega);have hstep:=Zbpk b hinv c1 c2 c3 c4 (Z81 (Zuv _) hi);have hheld:=Z80 b hinv c1 c2 c3 c4;have hnext:Zbo m sizes q (i+1)=Zbo m sizes q i++entM m sizes q (Zbo m sizes q i) (Zy q.Atoms)[i]:=by
   rw[Zbo];congr 2;simp[List.getD,hi]
  have hlen:=Zuw b (i:=i) (by omega);have h16:=(c1.m16 b.hv).1;have hpw:=Zg3 q.Atoms.length;have hMt:(Zy q.Atoms)[i].toNat<cc.length:=by have:=c1.1;have:=c1.2;omega
  have key:∀f1 E,E=entM m sizes q (Zbo m sizes q i) (Zy q.Atoms)[i]->Zjp m q f1 (cc.set (Zy q.Atoms)[i].toNat E) (fr1 && flat (E.map Za.c)) (Zbo m sizes q i++E) (Zy q.Atoms) sizes (Zy q.Atoms).length (w ((i:Int)+1))=some (.own 0,[.arr 206 4 false ((Zbo m sizes q (Zy q.Atoms).length).map Za.c)]):=by
   intro f1 E hE;subst hE;rw[hw,flat_ne hheld.ne,Bool.and_false,<-hnext];refine ih _ _ _ (by rw[Ych];exact htl) ?_ (λ_=>rfl);intro A hA;rw[Yy hi]at hA;rcases Yi.1 hA with hA|hA
   .have hne:A≠(Zy q.Atoms)[i]:=λh=>Z81 (Zuv _) hi (h▸hA)
    have hA0:=(Zl7.1 (Y6 hA)).1;have:=c1.1;rw[List.getElem?_set_ne (by omega),hT A hA,hnext,hstep.2.1 A hA]
   .rw[List.mem_singleton.1 hA,List.getElem?_set_self hMt,hnext,hstep.2.2]
  have hget:(Zy q.Atoms)[i]?=some (Zy q.Atoms)[i]:=Yc hi;generalize (Zy q.Atoms)[i]=M at *
  have hic:Zc5 q.Zg q.Atoms M=true:=by
   unfold Zc5;rw[b.hv,c3,Zg2 b.hv];have h1:=c1.1;have h2:=c1.2;simp[inR,c2,h1];omega
  have e1:(Zdc q M).map Prod.fst=Z5 q.Atoms M:=by
   unfold Zdc;rw[List.map_map];exact List.map_id _
  have e2:(Zdc q M).length=(Z5 q.Atoms M).length:=by unfold Zdc;rw[Yba]
  have hps:(Zdc q M).length<=100:=by rw[e2];have:=Z8s (qa:=q.Atoms) h16;omega
  have hok:∀p∈Zdc q M,Zbpe m q sizes (Zbo m sizes q i) cc M p.1 p.2:=by
   intro p hp;have o:=Z8z b hinv c1 c3 c4 p hp;unfold Zdc at hp;rw[Ys]at hp;obtain⟨A,hA,rfl⟩:=hp;have hd:=Zcbw b.hv c1 hA;obtain⟨q1,q2⟩:=Z8y c1 hA;refine⟨o,hd,?_,hT A (c4 A hA).1,hT _ (c4 A hA).2⟩;rw[hd];exact Zcay q b.hq b.hv A (M-A) q1 q2
  have hgo:∀a0 a1 a2 a3 a4:Za,((Zdc q M).foldl (oneJ m sizes M (Zbo m sizes q i)) [a0,a1,a2,a3,a4]).filter sm=entM m sizes q (Zbo m sizes q i) M->
    Zhi m q fr cc fr1 (Zbo m sizes q i) m q sizes M a0 a1 a2 a3 a4 (sm a0) (sm a1) (sm a2) (sm a3) (sm a4) (Zy q.Atoms) (Z5 q.Atoms M) sizes M (Zy q.Atoms).length i (Z5 q.Atoms M).length 0=some (.own 0,[.arr 206 4 false ((Zbo m sizes q (Zy q.Atoms).length).map Za.c)]):=by
   intro a0 a1 a2 a3 a4 hE;have:=i_splits b h16 c2 cc hMt (Zbo m sizes q i) (by omega) (Zdc q M) hps hok fr fr1 (Zy q.Atoms) (Zy q.Atoms).length i _ 0 (Ya _) a0 a1 a2 a3 a4 (λf1 E h=>key f1 E (by rw[Yj,hE]at h;exact h.symm));rw[e1,e2]at this;exact this
  refine Zbj9 ?_;rw[if_pos (by omega)];refine⟨by omega,M,by rw[Yg];exact hget,.inr ⟨Zeg M,Zcah h16,?_⟩⟩
  cases ho:oneB (ofI M)with
  |true =>
   obtain⟨j,hj4,ha,hMj⟩:=Z8t h16 ho;have hent:=Z8v (m:=m) (sizes:=sizes) (q:=q) (out:=Zbo m sizes q i) ha;have hE:=hheld;rw[hent]at hE;have hlen1:=hE.len _ (List.mem_singleton.2 rfl);have hmk:=hE.makes _ (List.mem_singleton.2 rfl);have hod:=hE.ord _ (List.mem_singleton.2 rfl);have hjl:j<q.Atoms.length:=by
    have h2:=c1.2;have e:shlI 1 (j:Nat)=2 ^ j:=by
     have:j=0\/j=1\/j=2\/j=3:=by omega
     rcases this with rfl|rfl|rfl|rfl<;>decide
    rw[hMj,e]at h2;have h3:(2:Int) ^ j<2 ^ q.Atoms.length:=h2;rw[<-Zg3,<-Zg3]at h3;exact(Nat.pow_lt_pow_iff_right (by omega)).1 (by omega:2 ^ j<2 ^ q.Atoms.length)
   have hvar:=Zm1 b.hv _ (Yd hjl);obtain⟨v,vs,hvs⟩:∃v vs,q.Atoms[j].Vars=v::vs:=by
    cases hh:q.Atoms[j].Vars with
    |nil=>rw[hh]at hvar;simp at hvar
    |cons v vs=>exact⟨v,vs,rfl⟩
   have hv3:0<=v/\v<=3:=by
    have:=Zv0 b.hv _ (Yd hjl) v (by rw[hvs];simp);have hn:=Zfy b.hv;simp[inR]at this;omega
   have hse:Zj7 m sizes q M (j:Int)=⟨M,v,Zb0 m.Scan (szAt sizes M) 0 (szAt sizes M),⟨[⟨1,j,0⟩]⟩⟩:=by
    simp[Zj7,Yc hjl,hvs]
   rw[hse]at hmk;have hcost:=Zbv.cost hmk b.hv (by simp) b.hsv;obtain⟨t,ht,hx⟩:=Zboz m b.hm q b.hq sizes b.hs M c2 zE zE zE zE zE [⟨1,j,0⟩] v (by omega) _ hcost;rw[show sm zE=false from rfl]at hx
   have hnx:=hgo _ _ _ _ _ (by
    have hsp:Zdc q M=[]:=by unfold Zdc;rw[hMj,Zcbv hj4];rfl
    rw[hsp,List.foldl_nil,hent,hse]
    exact Zcbt (c:=Zb0 m.Scan (szAt sizes M) 0 (szAt sizes M)) (x:=[⟨1,j,0⟩]) c2 hv3)
   rw[ha,if_pos (by simp)];refine⟨(j:Int),rfl,_,Zca1 _,by omega,q.Atoms[j],by rw[Yg];exact Yc hjl,v,by rw[hvs];rfl,?_⟩;rcases ht with rfl|rfl
   .exact .inl ⟨m,q,sizes,M,_,_,_,_,_,_,_,_,_,_,hx,.inr ⟨_,Z8d q b.hq M hic,hnx⟩⟩
   .exact .inr ⟨m,q,sizes,M,_,_,_,_,_,_,_,_,_,_,_,hx,.inr ⟨_,Z8d q b.hq M hic,hnx⟩⟩
  |false =>
   have hne:=Z8u h16 ho;rw[if_neg (by omega)];have hnx:=hgo zE zE zE zE zE (by rw[Z8w hne];rfl);rw[show sm zE=false from rfl]at hnx;exact .inr ⟨_,Z8d q b.hq M hic,hnx⟩
theorem Zcbx{m:Zb}{q:Ze}{sizes:List Int}(b:Base m q sizes)(ha:Zd3 m):Zn4 m q sizes=some (.own 0,[.arr 206 4 false ((Zbo m sizes q (Zy q.Atoms).length).map Za.c)]):=by
 have hf:=Zg2 b.hv;have hpw:=Zg3 q.Atoms.length;have h16:2 ^ q.Atoms.length<=16:=Nat.pow_le_pow_right (by omega:0<2) (Zcx b.hv).2;have hp1:1<=2 ^ q.Atoms.length:=Nat.one_le_two_pow;have e1:w (Zbd q.Zg q.Atoms+1)=2 ^ q.Atoms.length:=by rw[w_id (by omega) (by omega)];omega
 have hr:room=140737488355328:=rfl;refine Zb4i ⟨_,Z75 m b.hm,?_⟩;rw[if_pos (by simpa using ha)];refine⟨_,Zbof q b.hq sizes b.hs,?_⟩;rw[if_pos b.hsv];refine⟨_,Zjz q b.hq,?_⟩;rw[e1];have e2:((2:Int) ^ q.Atoms.length).toNat=2 ^ q.Atoms.length:=by omega
 rw[e2];refine⟨by omega,by omega,by rw[hr];omega,by omega,_,Zcaa q b.hq b.hv,?_⟩;refine i_table b 0 (Ya _) _ true true (by simp) (by simp) ?_;intro h;exfalso
 have:(1:Int)∈Zy q.Atoms:=by
  refine Zl7.2 ⟨by omega,?_,?_⟩
  .have:2 ^ 1<=2 ^ q.Atoms.length:=Nat.pow_le_pow_right (by omega) (Zcx b.hv).1
   omega
  .have h1:=Zur b.hv (true,false,false,false);rw[show toI (true,false,false,false)=1 from rfl]at h1;rw[h1];have key:∀a b c d e f:Bool,∀n:Fin 5,Zda ⟨a,b,c,d,e,f⟩ n.1 (true,false,false,false)=true:=by decide
   exact key _ _ _ _ _ _ ⟨q.Atoms.length,by have:=(Zcx b.hv).2;omega⟩
 rw[Yc3.1 h.symm]at this;cases this
def shOf(q:Ze)(M:Int):List (List Int):=(Z5 q.Atoms M).map λA=>Zg4 q A (M-A)
def Zev(q:Ze)(M:Int):Zbj:=⟨M,Z5 q.Atoms M,shOf q M⟩
def shapes(q:Ze):List Zbj:=(Zy q.Atoms).map (Zev q)
theorem Zcby{q:Ze}(hv:Zx q.Zg q.Atoms=true){M:Int}(c1:MQ q.Atoms M)(c2:M≠0)(c3:conn q.Atoms M=true):Zc5 q.Zg q.Atoms M=true:=by
 unfold Zc5;rw[hv,c3,Zg2 hv];have h1:=c1.1;have h2:=c1.2;simp[inR,c2,h1];omega
section
variable(q:Ze)(hq:LeQ q)(hv:Zx q.Zg q.Atoms=true)
include hq hv
theorem Zbpm{M:Int}(hM:MQ q.Atoms M){A:Int}(hA:A∈Z5 q.Atoms M):Zpa q A (w (M-A))=some (.own 0,[.arr 3 1 true ((Zg4 q A (M-A)).map ic)]):=by
 obtain⟨q1,q2⟩:=Z8y hM hA;have h16:=(q2.m16 hv).1;rw[w_id (by omega) (by omega)];exact Zca0 q hq hv A (M-A) q1 q2
theorem Zcbz(out:List Zbj)(c:out.length<=1000){i:Nat}(hi:i<(Zy q.Atoms).length)(r:AV×List Blk)(h:Zjw q (out++[Zev q (Zy q.Atoms)[i]]) (Zy q.Atoms) (w ((i:Int)+1))=some r) :
  ∀k,k<=(Z5 q.Atoms (Zy q.Atoms)[i]).length->Ztu q out (Zy q.Atoms) (Zy q.Atoms)[i] (Z5 q.Atoms (Zy q.Atoms)[i]) ((shOf q (Zy q.Atoms)[i]).take k) i k=some r:=by
 obtain⟨c1,c2,c3,c4⟩:=Zp2 hi;have hsl:=Z8s (qa:=q.Atoms) (c1.m16 hv).1;have hlen:(shOf q (Zy q.Atoms)[i]).length=(Z5 q.Atoms (Zy q.Atoms)[i]).length:=by simp[shOf]
 refine down _ ?_ ?_
 .refine Zbl2 ?_;rw[if_neg (by omega)];refine⟨by omega,?_⟩;rw[<-hlen,Y2];exact h
 .intro k hk ih;have h4:=Z6 (i:=k) (by omega);have hw:w ((k:Int)+1)=((k+1:Nat):Int):=by rw[show w ((k:Int)+1)=(k:Int)+1 from h4];simp
  refine Zbl2 ?_;rw[if_pos (by omega),hw];refine⟨by omega,_,by rw[Yg];exact Yc hk,by omega,_,by rw[Yg];exact Yc hi,_,Zbpm q hq hv c1 (Yd hk),?_,?_⟩
  .rw[Y5];omega
  .rw[Yy (by omega)]at ih;simpa[shOf]using ih
theorem Zcb0(out:List Zbj)(c:out.length<=1000){i:Nat}(hi:i<(Zy q.Atoms).length)(r:AV×List Blk)(h:Zjw q (out++[Zev q (Zy q.Atoms)[i]]) (Zy q.Atoms) (w ((i:Int)+1))=some r) :
  Zx9 q out (Zy q.Atoms) (Zy q.Atoms)[i] (Z5 q.Atoms (Zy q.Atoms)[i]) i 0=some r:=by
 obtain⟨c1,c2,c3,c4⟩:=Zp2 hi;refine Zb6u ?_;by_cases h0:(Z5 q.Atoms (Zy q.Atoms)[i]).length=0
 .rw[if_neg (by omega)];refine⟨by omega,?_⟩
  have:Zev q (Zy q.Atoms)[i]=⟨(Zy q.Atoms)[i],Z5 q.Atoms (Zy q.Atoms)[i],[]⟩:=by
   unfold Zev shOf;rw[Yc3.1 h0];rfl
  rw[<-this];exact h
 .rw[if_pos (by omega)];have hk:0<(Z5 q.Atoms (Zy q.Atoms)[i]).length:=by omega
  have:=Zcbz q hq hv out c hi r h 1 (by omega);refine⟨by omega,_,Yc hk,by omega,_,by rw[Yg];exact Yc hi,_,Zbpm q hq hv c1 (Yd hk),?_⟩;rw[show w ((0:Int)+1)=((1:Nat):Int)from by decide];have e:(shOf q (Zy q.Atoms)[i]).take 1=[Zg4 q (Z5 q.Atoms (Zy q.Atoms)[i])[0] ((Zy q.Atoms)[i]-(Z5 q.Atoms (Zy q.Atoms)[i])[0])]:=by
   rw[Yy (by simp[shOf];omega)];simp[shOf]
  rw[e]at this;exact this
theorem l_shapes:∀i,i<=(Zy q.Atoms).length->Zjw q ((shapes q).take i) (Zy q.Atoms) i=some (.own 0,[.arr 259 3 true ((shapes q).map Zbj.c)]):=by
 have hcl:=Zzm hv;have hlen:(shapes q).length=(Zy q.Atoms).length:=by simp[shapes]
 refine down _ ?_ ?_
 .refine Zbl1 ?_;rw[if_neg (by omega),<-hlen,Y2]
 .intro i hi ih;have h4:=Z6 (i:=i) (by omega);have hw:w ((i:Int)+1)=((i+1:Nat):Int):=by rw[show w ((i:Int)+1)=(i:Int)+1 from h4];simp
  obtain⟨c1,c2,c3,c4⟩:=Zp2 hi;refine Zbl1 ?_;rw[if_pos (by omega)];refine⟨by omega,_,by rw[Yg];exact Yc hi,_,Zcaf q hq _ (Zcby hv c1 c2 c3),?_⟩;refine Zcb0 q hq hv _ (by rw[Y5];omega) hi _ ?_;rw[hw];rw[Yy (by omega)]at ih;simpa[shapes]using ih
theorem Zcb1:Ztt q=some (.own 0,[.arr 259 3 true ((shapes q).map Zbj.c)]) :=
 Zb6v ⟨_,Zcac q hq hv,by simpa using l_shapes q hq hv 0 (Ya _)⟩
end
theorem f_one:∀a:Fin 16,1<=a.1->(andI (a.1:Int) (w ((a.1:Int)-1))=0↔oneB (ofI (a.1:Int))=true):=by decide
theorem Zbpn{α β:Type}(f:α->β):∀l:List α,l.zip (l.map f)=l.map λa=>(a,f a)
 |[]=>rfl
 |a::l=>by simp[Zbpn f l]
theorem s_table{m:Zb}{q:Ze}{sizes:List Int}(b:Base m q sizes):∀i,i<=(Zy q.Atoms).length->∀fr:Bool,∃fr',Zpi (shapes q) sizes m q fr (Zbo m sizes q i) i=some (.own 2,[.arr 259 3 true ((shapes q).map Zbj.c),.arr 3 1 true (sizes.map ic),.arr 206 4 fr' ((Zbo m sizes q (Zy q.Atoms).length).map Za.c)]):=by
 have hcl:=Zzm b.hv;have hlen:(shapes q).length=(Zy q.Atoms).length:=by simp[shapes]
 refine down _ ?_ ?_
 .intro fr;refine⟨fr,Z71 ?_⟩;rw[if_neg (by omega)]
 .intro i hi ih fr;have h4:=Z6 (i:=i) (by omega);have hw:w ((i:Int)+1)=((i+1:Nat):Int):=by rw[show w ((i:Int)+1)=(i:Int)+1 from h4];simp
  obtain⟨c1,c2,c3,c4⟩:=Zp2 hi;have hinv:=Zp3 b i (by omega);have hheld:=Z80 b hinv c1 c2 c3 c4;have hnext:Zbo m sizes q (i+1)=Zbo m sizes q i++entM m sizes q (Zbo m sizes q i) (Zy q.Atoms)[i]:=by
   rw[Zbo];congr 2;simp[List.getD,hi]
  have hol:=Zuw b (i:=i) (by omega);have h16:=(c1.m16 b.hv).1;have hget:(shapes q)[i]?=some (Zev q (Zy q.Atoms)[i]):=by
   unfold shapes;rw[Ycc,Yc hi];rfl
  rw[hnext]at ih;generalize (Zy q.Atoms)[i]=M at *
  have hz:=Zbl b.hsv c1;have h1:(andI M (w (M-1))=0↔oneB (ofI M)=true):=by
   have q1:=c1.1;obtain⟨a,rfl⟩:=m16 h16;exact f_one a (by omega)
  have hle:=hheld.le
  cases ho:oneB (ofI M)with
  |true =>
   obtain⟨j,hj4,ha,hMj⟩:=Z8t h16 ho;have hent:=Z8v (m:=m) (sizes:=sizes) (q:=q) (out:=Zbo m sizes q i) ha;have hjl:j<q.Atoms.length:=by
    have h2:=c1.2;have e:shlI 1 (j:Nat)=2 ^ j:=by
     have:j=0\/j=1\/j=2\/j=3:=by omega
     rcases this with rfl|rfl|rfl|rfl<;>decide
    rw[hMj,e]at h2;have h3:(2:Int) ^ j<2 ^ q.Atoms.length:=h2;rw[<-Zg3,<-Zg3]at h3;exact(Nat.pow_lt_pow_iff_right (by omega)).1 (by omega:2 ^ j<2 ^ q.Atoms.length)
   have hvar:=Zm1 b.hv _ (Yd hjl);obtain⟨v,vs,hvs⟩:∃v vs,q.Atoms[j].Vars=v::vs:=by
    cases hh:q.Atoms[j].Vars with
    |nil=>rw[hh]at hvar;simp at hvar
    |cons v vs=>exact⟨v,vs,rfl⟩
   have hse:Zj7 m sizes q M (j:Int)=⟨M,v,Zb0 m.Scan (szAt sizes M) 0 (szAt sizes M),⟨[⟨1,j,0⟩]⟩⟩:=by
    simp[Zj7,Yc hjl,hvs]
   rw[hent,hse]at ih;obtain⟨fr',hr⟩:=ih fr;refine⟨fr',Z71 ?_⟩;rw[if_pos (by omega)];refine⟨by omega,_,by rw[Yg];exact hget,?_⟩;have h1':andI (Zev q M).mask (w ((Zev q M).mask-1))=0:=h1.2 ho;rw[if_pos h1',hw];refine⟨_,Zcaj h16,(j:Int),by rw[show Zeg (Zev q M).mask=[(j:Int)]from ha];rfl,by omega,q.Atoms[j],by rw[Yg];exact Yc hjl,v,by rw[hvs];rfl,hz.1,_,hz.2,_,Zgy _ b.hm.1 _ _ _,_,Zca2 _,by omega,?_⟩
   exact hr
  |false =>
   have hne:=Z8u h16 ho;have ok:=Z8z b hinv c1 c3 c4;have hzip:(Zev q M).Z5.zip (Zev q M).shared=Zdc q M:=Zbpn _ _;have hsl:=Z8s (qa:=q.Atoms) h16;obtain⟨f1,hJ⟩:=Zcbm m b.hm b.hg sizes b.hcl q.Atoms fr (Zbo m sizes q i) (by omega) (Zev q M) hz h16 (by show 0<M;have:=c1.1;omega) (by simp[Zev,shOf]) (by show(Z5 q.Atoms M).length<=100;omega) (by rw[hzip];exact ok);rw[hzip]at hJ;have hent:=Z8w (m:=m) (sizes:=sizes) (q:=q) (out:=Zbo m sizes q i) hne;rw[hent]at ih hle;obtain⟨fr',hr⟩:=ih (fr && flat (((Zp1 m sizes M (Zbo m sizes q i) (Zdc q M)).filter sm).map Za.c));refine⟨fr',Z71 ?_⟩;rw[if_pos (by omega)];refine⟨by omega,_,by rw[Yg];exact hget,?_⟩;have h1':¬andI (Zev q M).mask (w ((Zev q M).mask-1))=0:=λh=>by have:=h1.1 h;rw[ho]at this;cases this
   rw[if_neg h1',hw];exact⟨_,_,hJ,by show(Zbo m sizes q i).length+((Zp1 m sizes M (Zbo m sizes q i) (Zdc q M)).filter sm).length<=68719476736;omega,hr⟩
theorem Zcb2{m:Zb}{q:Ze}{sizes:List Int}(b:Base m q sizes):∃fr',Zyc (shapes q) sizes m q=some (.own 2,[.arr 259 3 true ((shapes q).map Zbj.c),.arr 3 1 true (sizes.map ic),.arr 206 4 fr' ((Zbo m sizes q (Zy q.Atoms).length).map Za.c)]):=by
 obtain⟨fr',h⟩:=s_table b 0 (Ya _) true;exact⟨fr',Zb67 h⟩
theorem Zcb3(a b c:Int)(fr:Bool)(l:List Za)(hl:l.length<=1000):∀i,i<=l.length->∀best,Zn5 a b c best fr l l.length i=some (.agg (((l.drop i).foldl Zdt best).c.map .t),[.arr 206 4 fr (l.map Za.c)]):=by
 refine down _ ?_ ?_
 .intro best;refine Zbke ?_;rw[if_neg (by omega)];simp
 .intro i hi ih best;have h4:=Z6 (i:=i) (by omega);refine Zbke ?_;rw[if_pos (by omega),Yf hi,Y1];refine⟨by omega,l[i],by rw[Yg];exact Yc hi,?_⟩;rw[show w ((i:Int)+1)=((i+1:Nat):Int)from by rw[show w ((i:Int)+1)=(i:Int)+1 from h4];simp];by_cases e:l[i].Cost<best.Cost
  .rw[if_pos e,show Zdt best l[i]=l[i] by simp[Zdt,e]];exact ih _
  .rw[if_neg e,show Zdt best l[i]=best by simp[Zdt,e]];exact ih _
theorem Zcb4(fr:Bool)(l:List Za)(h0:l≠[])(hl:l.length<=1000):Zw2 fr l=some (.agg ((Zbh l).c.map .t),[.arr 206 4 fr (l.map Za.c)]):=by
 cases l with
 |nil=>exact absurd rfl h0
 |cons e l =>
  refine Zb4j ⟨e,rfl,?_⟩;have:=Zcb3 0 0 0 fr (e::l) hl 0 (Ya _) e;simpa[Zbh]using this
theorem l_best(l:List Za)(cc:Int)(hl:l.length<=1000)(cd:ofM l cc≠[])(hs:∀e∈l,e.Plan.Steps.length<=1000):∀i,i<=l.length->∀fr,Zn6 0 0 0 fr (ofM (l.take i) cc) cc l l.length i=some (.tup [.agg [I (Zbh (ofM l cc)).Mask,I (Zbh (ofM l cc)).Order,I (Zbh (ofM l cc)).Cost,.own 0],Bo true],[.arr 287 3 true ((Zbh (ofM l cc)).Plan.Steps.map Zc.c)]):=by
 refine down _ ?_ ?_
 .intro fr;refine Zbkf ?_;rw[if_neg (by omega),Y2];have h1:(ofM l cc).length≠0:=λh=>cd (Yc3.1 h)
  have h2:(ofM l cc).length<=l.length:=Ybv _ _;rw[if_neg (by omega)];have hmem:=Z8j cd;exact⟨_,Zcb4 fr _ cd (by omega),_,Zzf _ (hs _ (Ybe.1 hmem).1),rfl⟩
 .intro i hi ih fr;have h4:=Z6 (i:=i) (by omega);have hw:w ((i:Int)+1)=((i+1:Nat):Int):=by rw[show w ((i:Int)+1)=(i:Int)+1 from h4];simp
  rw[Zbo0 l cc hi]at ih;have h2:(ofM (l.take i) cc).length<=(l.take i).length:=Ybv _ _;rw[Y5]at h2;refine Zbkf ?_;rw[if_pos (by omega),hw];refine⟨by omega,l[i],by rw[Yg];exact Yc hi,?_⟩;by_cases e:l[i].Mask=cc
  .rw[if_pos e];rw[if_pos e]at ih;exact⟨by omega,ih false⟩
  .rw[if_neg e];rw[if_neg e,Ybm]at ih;exact ih fr
theorem Zcb5(l:List Za)(cc:Int)(hl:l.length<=1000)(cd:ofM l cc≠[])(hs:∀e∈l,e.Plan.Steps.length<=1000):Zse l cc=some (.tup [.agg [I (Zbh (ofM l cc)).Mask,I (Zbh (ofM l cc)).Order,I (Zbh (ofM l cc)).Cost,.own 0],Bo true],[.arr 287 3 true ((Zbh (ofM l cc)).Plan.Steps.map Zc.c)]) :=
 Zb4k (by simpa[ofM]using l_best l cc hl cd hs 0 (Ya _) true)
theorem Zcb6(l:List Za)(cc:Int)(hl:l.length<=1000)(cd:ofM l cc≠[])(hs:∀e∈l,e.Plan.Steps.length<=1000):Zt4 l cc=some (.tup [.agg [I (Zbh (ofM l cc)).Mask,I (Zbh (ofM l cc)).Order,I (Zbh (ofM l cc)).Cost,.own 0],Bo true],[.arr 287 3 true ((Zbh (ofM l cc)).Plan.Steps.map Zc.c)]):=by
 obtain⟨k1,k2⟩:=Zzj cd;have hmem:=Z8j cd;have:=hs _ (Ybe.1 hmem).1;refine Zb68 ⟨_,x_low l cc hl,?_⟩;rw[if_neg (by omega)];exact⟨k1,_,k2,by omega,rfl⟩
def tab(m:Zb)(q:Ze)(sizes:List Int):List Za:=Zbo m sizes q (Zy q.Atoms).length
def opt(m:Zb)(q:Ze)(sizes:List Int):Za:=Zbh (ofM (tab m q sizes) (Zbd q.Zg q.Atoms))
theorem full_MQ{q:Ze}(hv:Zx q.Zg q.Atoms=true):MQ q.Atoms (Zbd q.Zg q.Atoms):=by
 have:=Zg2 hv;have:=Z1o hv;exact⟨by omega,by omega⟩
theorem Zbpo{m:Zb}{q:Ze}{sizes:List Int}(b:Base m q sizes)(hc:Zc5 q.Zg q.Atoms (Zbd q.Zg q.Atoms)=true):Held m sizes q.Atoms (Zbd q.Zg q.Atoms) (ofM (tab m q sizes) (Zbd q.Zg q.Atoms)):=by
 refine(Zp3 b _ (Yh _)).held _ ?_;rw[Y2];have hp:=Z1o b.hv;have hq:=full_MQ b.hv;unfold Zc5 at hc;simp only[Ye]at hc;exact Zl7.2 ⟨by omega,hq.2,hc.2⟩
theorem Zcb7{m:Zb}{q:Ze}{sizes:List Int}(b:Base m q sizes)(ha:Zd3 m)(hc:Zc5 q.Zg q.Atoms (Zbd q.Zg q.Atoms)=true):Zsf m q sizes=some (.tup [.agg [I (opt m q sizes).Mask,I (opt m q sizes).Order,I (opt m q sizes).Cost,.own 0],Bo true],[.arr 287 3 true ((opt m q sizes).Plan.Steps.map Zc.c)]):=by
 have hl:=Zuw b (Yh (Zy q.Atoms).length);refine Zb4l (.inr ⟨_,_,Zcbx b ha,_,Zjz q b.hq,.inr ⟨_,_,_,_,Zcb5 _ _ (by omega) (Zbpo b hc).ne (Z82 b (Yh _)),rfl⟩⟩)
theorem Zcb8{m:Zb}{q:Ze}{sizes:List Int}(b:Base m q sizes)(ha:Zd3 m)(hc:Zc5 q.Zg q.Atoms (Zbd q.Zg q.Atoms)=true):Zw3 m q sizes=some (I (opt m q sizes).Cost,[]) :=
 Zb4m (.inr ⟨_,_,_,_,Zcb7 b ha hc,rfl⟩)
theorem Zcb9{m:Zb}{q:Ze}{l:List Int}(hl:l.length<=4294967296)(h:Zb8 l=true)(b:Base m q (Zc0 l))(ha:Zd3 m)(hc:Zc5 q.Zg q.Atoms (Zbd q.Zg q.Atoms)=true):Zw4 m q l=some (I (opt m q (Zc0 l)).Cost,[]):=by
 have hb:=Zboj l hl;rw[h,if_pos rfl]at hb;exact Zb4n (.inl ⟨_,hb,_,Zcb8 b ha hc,rfl⟩)
def LeR(r:Region):Prop:=Le r.Box.Low/\Le r.Box.High
theorem x_boxOk(q:Ze)(hq:LeQ q)(bx:Box)(hb:LeX bx):Zwu q bx=some (Bo (Zm0 q.Zg q.Atoms bx.Low bx.High),[]):=by
 have q5:=Zvz q.Zg q.Atoms;refine Zb3q ⟨_,Zb7u bx hb,?_⟩;unfold Zm0;rcases tf (Zhy bx.Low bx.High)with e|e
 .rw[e];simp
 .rw[e,if_pos rfl];refine⟨_,Zjz q hq,?_⟩;rw[show w (Zbd q.Zg q.Atoms+1)=Zbd q.Zg q.Atoms+1 from q5];simp
theorem Zcca(q:Ze)(hq:LeQ q)(r:Region)(hr:LeR r):Zrx q r=some (Bo (Zja q.Zg q.Atoms r.Plan.Steps r.Box.Low r.Box.High r.Percent),[]):=by
 refine Zb3v ⟨_,Zue q hq,?_⟩;unfold Zja;rcases tf (Zx q.Zg q.Atoms)with e|e
 .rw[e];simp
 rw[e,if_pos rfl];refine⟨_,x_boxOk q hq r.Box hr,?_⟩;rcases tf (Zm0 q.Zg q.Atoms r.Box.Low r.Box.High)with e2|e2
 .rw[e2];simp
 rw[e2,if_pos rfl];refine⟨_,Zb70 q r.Plan hq,_,Zjz q hq,?_⟩;by_cases e3:Zi9 q.Zg q.Atoms r.Plan.Steps=Zbd q.Zg q.Atoms
 .rw[if_pos e3];exact⟨_,Zca _ _ _,by simp[e3]⟩
 .rw[if_neg e3];simp[e3]
theorem Zccb(q:Ze)(hq:LeQ q)(r:Region)(hr:LeR r):Ztn q r=some (Bo (Zja q.Zg q.Atoms r.Plan.Steps r.Box.Low r.Box.High r.Percent),[]):=by
 have q5:=Zvz q.Zg q.Atoms;refine Zb6o ⟨_,Zb7v r.Box hr,?_⟩;unfold Zja Zm0;rcases tf (Zhy r.Box.Low r.Box.High)with e|e
 .rw[e];simp
 rw[e,if_pos rfl];refine⟨_,Zug q hq,?_⟩;rw[show w (Zbd q.Zg q.Atoms+1)=Zbd q.Zg q.Atoms+1 from q5];by_cases e4:(r.Box.Low.length:Int)=Zbd q.Zg q.Atoms+1
 .rw[if_pos e4];refine⟨_,Zb71 q r.Plan hq,?_⟩;by_cases e3:Zi9 q.Zg q.Atoms r.Plan.Steps=Zbd q.Zg q.Atoms
  .rw[if_pos e3];rcases tf (Zx q.Zg q.Atoms)with e1|e1
   .have e5:Zbd q.Zg q.Atoms=0:=by unfold Zbd;rw[e1];rfl
    rw[if_neg (by omega)];simp[e1]
   .have e5:=Z1o e1;rw[if_pos e5];exact⟨_,Zbu _ _ _,by simp[e1,e3,e4]⟩
  .rw[if_neg e3];simp[e3]
 .rw[if_neg e4];simp[e4]
def Zew(m:Zb)(q:Ze)(r:Region):Prop:=Zja q.Zg q.Atoms r.Plan.Steps r.Box.Low r.Box.High r.Percent=true/\Zc5 q.Zg q.Atoms (Zbd q.Zg q.Atoms)=true/\Zd3 m
theorem Zzn{l:List Int}(h:Zb8 l=true):l.length<=16:=by
 simp only[Zb8,Ye,decide_eq_true_eq]at h;omega
theorem class_le{a:Int}(h:0<=a/\a<=7):inR (Zcs a) 0 4096=true:=by
 have:a=0\/a=1\/a=2\/a=3\/a=4\/a=5\/a=6\/a=7:=by omega
 rcases this with rfl|rfl|rfl|rfl|rfl|rfl|rfl|rfl<;>decide
theorem base_of{m:Zb}(hm:LeM m)(ha:Zd3 m){q:Ze}(hq:LeQ q)(hv:Zx q.Zg q.Atoms=true){l:List Int}(h:Zb8 l=true)(hl:(l.length:Int)=Zbd q.Zg q.Atoms+1):Base m q (Zc0 l):=by
 have hll:(l.length:Int)<=16:=by simp only[Zb8,Ye,decide_eq_true_eq]at h;exact h.2
 have hc:=Zcbc h;refine⟨hm,ha.2.1,hq,hv,by simp[Zc0];omega,hc,?_⟩;unfold Zcu Zj3;rw[hv]
 have:(Zc0 l).all (λx=>inR x 0 4096)=true:=by
  rw[Yr];intro s hs;obtain⟨a,h1,rfl⟩:=hc s hs;exact class_le h1
 rw[this];simp[Zc0,hl]
theorem Z83{m:Zb}{q:Ze}{r:Region}(h:Zew m q r):Zx q.Zg q.Atoms=true/\Zb8 r.Box.Low=true/\Zb8 r.Box.High=true/\(r.Box.Low.length:Int)=Zbd q.Zg q.Atoms+1/\Zhy r.Box.Low r.Box.High=true/\inR r.Percent 100 1000=true/\Zi9 q.Zg q.Atoms r.Plan.Steps=Zbd q.Zg q.Atoms:=by
 have h1:=h.1;unfold Zja Zm0 at h1;simp only[Ye,decide_eq_true_eq]at h1;have h2:=h1.1.1.2.1;unfold Zhy at h2;simp only[Ye,decide_eq_true_eq]at h2;exact⟨h1.1.1.1,h2.1.1.2,h2.1.2,h1.1.1.2.2,h1.1.1.2.1,h1.2,h1.1.2⟩
theorem Zbpp{m:Zb}{q:Ze}{r:Region}(hm:LeM m)(hq:LeQ q)(h:Zew m q r):Base m q (Zc0 r.Box.Low):=by
 obtain⟨h1,h2,h3,h4,_⟩:=Z83 h;exact base_of hm h.2.2 hq h1 h2 h4
def Zzo(m:Zb)(q:Ze)(r:Region):Bool:=decide (w (100*Zfa m q.Zg q.Atoms r.Plan.Steps (Zc0 r.Box.High))<=w (r.Percent*(opt m q (Zc0 r.Box.Low)).Cost))
theorem Zccc{m:Zb}{q:Ze}{r:Region}(hm:LeM m)(hq:LeQ q)(hr:LeR r)(h:Zew m q r):Zw5 m q r=some (Bo (Zzo m q r),[]):=by
 obtain⟨h1,h2,h3,h4,_⟩:=Z83 h;have l1:=Zzn h2;have l2:=Zzn h3;exact Zb4o ⟨_,Zcaw m hm q hq r.Plan r.Box.High (by omega) h3,_,Zcb9 (by omega) h2 (Zbpp hm hq h) h.2.2 h.2.1,rfl⟩
theorem Zccd{m:Zb}{q:Ze}{r:Region}(hm:LeM m)(hq:LeQ q)(hr:LeR r)(h:Zew m q r):Zyi m q r=some (Bo (Zzo m q r),[]):=by
 obtain⟨h1,h2,h3,h4,_⟩:=Z83 h;have l1:=Zzn h2;have l2:=Zzn h3;have b:=Zbpp hm hq h;have hl:=Zuw b (Yh (Zy q.Atoms).length);have hs:=Zbok r.Box.Low (by omega);rw[h2,if_pos rfl]at hs;obtain⟨fr,ht⟩:=Zcb2 b;refine Zb7e ⟨_,Zcb1 q hq h1,_,hs,_,_,ht,_,Zug q hq,.inr ⟨_,_,_,_,Zcb6 _ _ (by omega) (Zbpo b h.2.1).ne (Z82 b (Yh _)),_,Zcax m hm q hq r.Plan r.Box.High (by omega) h3,?_⟩⟩;unfold Zzo opt tab;rw[Int.mul_comm]
open Classical in
def Zl8(m:Zb)(q:Ze)(r:Region):Bool:=decide (Zew m q r) && Zzo m q r
theorem Zcce{m:Zb}{q:Ze}{r:Region}(hm:LeM m)(hq:LeQ q)(hr:LeR r):Zrz m q r=some (Bo (@decide (Zew m q r) (Classical.propDecidable _)),[]):=by
 refine Zb3z ⟨_,Zcca q hq r hr,?_⟩;rcases tf (Zja q.Zg q.Atoms r.Plan.Steps r.Box.Low r.Box.High r.Percent)with e|e
 .rw[if_neg (by rw[e];simp)]
  have:¬Zew m q r:=λh=>by rw[h.1]at e;cases e
  simp[this]
 rw[if_pos e];refine⟨_,Zjz q hq,_,Zbn7 q hq _,?_⟩;rcases tf (Zc5 q.Zg q.Atoms (Zbd q.Zg q.Atoms))with e2|e2
 .rw[if_neg (by rw[e2];simp)]
  have:¬Zew m q r:=λh=>by rw[h.2.1]at e2;cases e2
  simp[this]
 rw[if_pos e2];refine⟨_,Z75 m hm,?_⟩;by_cases ha:Zd3 m
 .have:Zew m q r:=⟨e,e2,ha⟩
  simp[this,ha]
 .have:¬Zew m q r:=λh=>ha h.2.2
  simp[this,ha]
theorem Zccf{m:Zb}{q:Ze}{r:Region}(hm:LeM m)(hq:LeQ q)(hr:LeR r):Zw6 m q r=some (Bo (Zl8 m q r),[]):=by
 refine Zb4p ⟨_,Zcce hm hq hr,?_⟩;unfold Zl8;by_cases h:Zew m q r
 .rw[if_pos (by simp[h])];exact⟨_,Zccc hm hq hr h,by simp[h]⟩
 .rw[if_neg (by simp[h])];simp[h]
theorem Zccg{m:Zb}{q:Ze}{r:Region}(hm:LeM m)(hq:LeQ q)(hr:LeR r):Zt8 m q r=some (Bo (Zl8 m q r),[]):=by
 refine Zb7f ⟨_,Zbmn m hm,?_⟩;unfold Zl8;by_cases ha:Zd3 m
 .rw[if_pos (by simp[ha])];refine⟨_,Zug q hq,_,Zbn8 q hq _,?_⟩;rcases tf (Zc5 q.Zg q.Atoms (Zbd q.Zg q.Atoms))with e2|e2
  .rw[if_neg (by rw[e2];simp)]
   have:¬Zew m q r:=λh=>by rw[h.2.1]at e2;cases e2
   simp[this]
  rw[if_pos e2];refine⟨_,Zccb q hq r hr,?_⟩;rcases tf (Zja q.Zg q.Atoms r.Plan.Steps r.Box.Low r.Box.High r.Percent)with e|e
  .rw[if_neg (by rw[e];simp)]
   have:¬Zew m q r:=λh=>by rw[h.1]at e;cases e
   simp[this]
  rw[if_pos e];have h:Zew m q r:=⟨e,e2,ha⟩;exact⟨_,Zccd hm hq hr h,by simp[h]⟩
 .rw[if_neg (by simp[ha])]
  have:¬Zew m q r:=λh=>ha h.2.2
  simp[this]
def LeC(c:Zbn):Prop:=Le c.Entries/\∀e∈c.Entries,LeQ e.Ze/\LeR e.Region
def Zhs(l:List Zp)(e:Zp):Bool:=l.any λx=>decide (x.Used=e.Used)
def entOk(m:Zb)(c:Zbn)(i:Nat)(e:Zp):Bool:=inR e.Version 1 999 && (inR e.Used 1 c.Clock && (Zl8 m e.Ze e.Region && !Zhs (c.Entries.take i) e))
def okF(m:Zb)(c:Zbn):List Zp->Nat->Bool
 |[],_=>true
 |e::l,i=>entOk m c i e && okF m c l (i+1)
def Zp4(m:Zb)(c:Zbn):Bool:=inR c.Clock 0 1000000 && (decide ((c.Entries.length:Int)<=4) && okF m c c.Entries 0)
def idxU(e:Zp):List Zp->Nat->Int
 |[],_=>-1
 |x::l,i=>if x.Used=e.Used then(i:Int)else idxU e l (i+1)
theorem Zbpq(e:Zp):∀(l:List Zp) (i:Nat),decide (0<=idxU e l i)=Zhs l e
 |[],i=>by simp[idxU,Zhs]
 |x::l,i=>by
  have ih:=Zbpq e l (i+1);rw[idxU];unfold Zhs at ih|-;by_cases h:x.Used=e.Used
  .simp[h]
  .rw[if_neg h,ih];simp[h]
theorem l_idx(l:List Zp)(e:Zp)(hl:Le l):∀i,i<=l.length->Zsg l e l.length i=some (I (idxU e (l.drop i) i),[]):=by
 refine down _ ?_ ?_
 .refine Zbkg ?_;rw[if_neg (by omega)];simp[idxU]
 .intro i hi ih;have h4:=Z6 (i:=i) (by omega);refine Zbkg ?_;rw[if_pos (by omega),Yf hi,idxU];refine⟨by omega,l[i],by rw[Yg];exact Yc hi,_,Zb4q rfl,?_⟩;rw[show w ((i:Int)+1)=((i+1:Nat):Int)from by rw[show w ((i:Int)+1)=(i:Int)+1 from h4];simp];by_cases h:l[i].Used=e.Used
  .rw[if_pos (by simpa using h),if_pos h]
  .rw[if_neg (by simpa using h),if_neg h];exact ih
theorem Zcch(l:List Zp)(e:Zp)(hl:Le l):Zw7 l e=some (Bo (Zhs l e),[]):=by
 refine Zb4s ⟨_,Zb4r (l_idx l e hl 0 (Ya _)),?_⟩;rw[Yj,Zbpq]
theorem Zcci(m:Zb)(hm:LeM m)(c:Zbn)(hc:LeC c):∀i,i<=c.Entries.length->Zsh m c c.Entries c.Entries.length i=some (Bo (okF m c (c.Entries.drop i) i),[]):=by
 have hl:=hc.1;refine down _ ?_ ?_
 .refine Zbkh ?_;rw[if_neg (by omega)];simp[okF]
 .intro i hi ih;have h4:=Z6 (i:=i) (by omega);obtain⟨hq,hr⟩:=hc.2 _ (Yd hi);refine Zbkh ?_;rw[if_pos (by omega),Yf hi,okF,entOk];refine⟨by omega,c.Entries[i],by rw[Yg];exact Yc hi,_,Zca _ _ _,?_⟩;rcases tf (inR c.Entries[i].Version 1 999)with e|e
  .rw[e];simp
  rw[e,if_pos rfl];refine⟨_,Zca _ _ _,?_⟩;rcases tf (inR c.Entries[i].Used 1 c.Clock)with e2|e2
  .rw[e2];simp
  rw[e2,if_pos rfl];refine⟨_,Zccf hm hq hr,?_⟩;rcases tf (Zl8 m c.Entries[i].Ze c.Entries[i].Region)with e3|e3
  .rw[e3];simp
  rw[e3,if_pos rfl];refine⟨by omega,_,Zcch _ _ (by show(List.take _ _).length<=_;rw[Y5];omega),?_⟩;rw[Yg,show w ((i:Int)+1)=((i+1:Nat):Int)from by rw[show w ((i:Int)+1)=(i:Int)+1 from h4];simp];rcases tf (Zhs (c.Entries.take i) c.Entries[i])with e4|e4
  .rw[e4,if_neg (by simp),ih];simp
  .rw[e4];simp
theorem Zccj(m:Zb)(hm:LeM m)(c:Zbn)(hc:LeC c):Zw8 m c=some (Bo (Zp4 m c),[]):=by
 refine Zb4t ⟨_,Zca _ _ _,?_⟩;unfold Zp4;rcases tf (inR c.Clock 0 1000000)with e|e
 .rw[e];simp
 rw[e,if_pos rfl];by_cases h:4<(c.Entries.length:Int)
 .rw[if_pos h]
  have:¬(c.Entries.length:Int)<=4:=by omega
  simp[this]
 .rw[if_neg h];have h2:(c.Entries.length:Int)<=4:=by omega
  have:=Zcci m hm c hc 0 (Ya _);rw[Yj]at this;simpa[h2]using this
theorem Zcck(m:Zb)(c:Zbn)(hc:LeC c)(i:Nat)(hi:i<c.Entries.length)(e:Zp)(r:Bool)(hr:Zpj m c (w ((i:Int)+1))=some (Bo r,[])):∀k,k<=i->Zua m c e i k=some (Bo (!Zhs ((c.Entries.take i).drop k) e && r),[]):=by
 have hl:=hc.1;refine down _ ?_ ?_
 .refine Zbme ?_;rw[if_neg (by omega),hr,Ybo (by rw[Y5];omega)];simp[Zhs]
 .intro k hk ih;have h4:=Z6 (i:=k) (by omega);have hkl:k<(c.Entries.take i).length:=by rw[Y5];omega
  refine Zbme ?_;rw[if_pos (by omega),Yf hkl];refine⟨by omega,c.Entries[k],by rw[Yg];exact Yc (by omega),?_⟩;rw[show w ((k:Int)+1)=((k+1:Nat):Int)from by rw[show w ((k:Int)+1)=(k:Int)+1 from h4];simp];rw[List.getElem_take];by_cases h:c.Entries[k].Used=e.Used
  .rw[if_pos h];simp[Zhs,h]
  .rw[if_neg h,ih];simp[Zhs,h]
theorem Zccl(m:Zb)(hm:LeM m)(c:Zbn)(hc:LeC c):∀i,i<=c.Entries.length->Zpj m c i=some (Bo (okF m c (c.Entries.drop i) i && (inR c.Clock 0 1000000 && decide ((c.Entries.length:Int)<=4))),[]):=by
 have hl:=hc.1;refine down _ ?_ ?_
 .refine Zbmd ?_;rw[if_neg (by omega)];refine⟨_,Zbu _ _ _,?_⟩;rcases tf (inR c.Clock 0 1000000)with e|e
  .rw[e];simp
  .rw[e];simp[okF]
 .intro i hi ih;have h4:=Z6 (i:=i) (by omega);have hw:w ((i:Int)+1)=((i+1:Nat):Int):=by rw[show w ((i:Int)+1)=(i:Int)+1 from h4];simp
  obtain⟨hq,hr⟩:=hc.2 _ (Yd hi);refine Zbmd ?_;rw[if_pos (by omega),Yf hi,okF,entOk];refine⟨by omega,c.Entries[i],by rw[Yg];exact Yc hi,_,Zbu _ _ _,?_⟩;rcases tf (inR c.Entries[i].Version 1 999)with e|e
  .rw[e];simp
  rw[e,if_pos rfl];refine⟨_,Zbu _ _ _,?_⟩;rcases tf (inR c.Entries[i].Used 1 c.Clock)with e2|e2
  .rw[e2];simp
  rw[e2,if_pos rfl];refine⟨_,Zccg hm hq hr,?_⟩;rcases tf (Zl8 m c.Entries[i].Ze c.Entries[i].Region)with e3|e3
  .rw[e3];simp
  rw[e3,if_pos rfl];have:=Zcck m c hc i hi c.Entries[i] _ (by rw[hw];exact ih) 0 (Ya _);rw[Yj]at this;refine Yb this ?_;simp[Bool.and_assoc]
theorem Zccm(m:Zb)(hm:LeM m)(c:Zbn)(hc:LeC c):Zt9 m c=some (Bo (Zp4 m c),[]):=by
 have:=Zccl m hm c hc 0 (Ya _);rw[Yj]at this;refine Zb7g (Yb this ?_);unfold Zp4;rcases tf (inR c.Clock 0 1000000)with e|e<;>rw[e]<;>simp[Bool.and_comm]
structure Zzp (s:Z3):Prop where
 d:LeD s.Zm
 k:LeK s.Zv
 f:LeF s.Dependencies
 x:Le s.Inclusions
def Zl9(s:Z3):Bool:=Zco s.Zm && inR s.Zv.Version 1 999 && decide (s.Zm.Tables.map Zcp=s.Zv.Tables) && Zuo s.Zm s.Dependencies s.Inclusions
theorem Zbpr{d:Zm}(hv:Zco d=true):(d.Tables.map Zcp).length<=4294967296/\∀s∈d.Tables.map Zcp,LeS s:=by
 have h6:=tab_le hv;refine⟨by simp;omega,λs hs=>?_⟩;obtain⟨t,ht,rfl⟩:=Ys.1 hs;have hT:=Zhp hv ht;have h7:=Zun (Zgb hT);have h8:=Zyv hT;refine⟨by simp[Zcp];omega,λg hg=>?_⟩;obtain⟨c,hc,rfl⟩:=Ys.1 hg;have hc3:=(subs_col (Zgb hT) c hc).1;have hg:=Zbne t.Rows c;refine⟨by simp only[grp];omega,⟨by simp only[grp];omega,λr hr=>?_⟩,by simp only[grp,grpN,Yba];omega⟩;have:=Zbng hr;omega
theorem Zccn{s:Z3}(h:Zzp s):Zrp s=some (Bo (Zl9 s),[]):=by
 have hb:=Zb9d h.d s.Zv.Version;refine Zb29 ?_;unfold Zl9;unfold catF at hb;rcases tf (Zco s.Zm && inR s.Zv.Version 1 999)with e|e
 .rw[e]at hb|-;exact .inl ⟨_,_,hb,by simp⟩
 .rw[e]at hb|-;rw[if_pos rfl]at hb;rw[Yx];have hv:Zco s.Zm=true:=by simp only[Ye]at e;exact e.1
  by_cases e0:s.Zm.Tables=[]
  .rw[if_pos e0]at hb;refine .inl ⟨_,_,hb,?_⟩;rw[if_pos rfl];refine⟨_,Zb9j _ _,?_⟩;have q:Zee s.Zv.Version [] s.Zv=decide (s.Zm.Tables.map Zcp=s.Zv.Tables):=by simp[Zee,e0]
   rw[q];rcases tf (decide (s.Zm.Tables.map Zcp=s.Zv.Tables))with e2|e2
   .rw[e2];simp
   .rw[e2,if_pos rfl];exact⟨_,Zbnz h.d h.f h.x,by simp⟩
  .rw[if_neg e0]at hb;refine .inr ⟨_,_,_,hb,_,Zb9k _ _ _ (Zbpr hv),?_⟩;have q:Zee s.Zv.Version (s.Zm.Tables.map Zcp) s.Zv=decide (s.Zm.Tables.map Zcp=s.Zv.Tables):=by simp[Zee]
   rw[q];rcases tf (decide (s.Zm.Tables.map Zcp=s.Zv.Tables))with e2|e2
   .rw[e2];simp
   .rw[e2,if_pos rfl];exact⟨_,Zbnz h.d h.f h.x,by simp⟩
theorem Zcco{s:Z3}(h:Zzp s):Zs9 s=some (Bo (Zl9 s),[]):=by
 have hb:=Zb9f h.d s.Zv.Version;refine Zb5y ?_;unfold Zl9;unfold catF at hb;rcases tf (Zco s.Zm && inR s.Zv.Version 1 999)with e|e
 .rw[e]at hb|-;exact .inl ⟨_,_,hb,by simp⟩
 .rw[e]at hb|-;rw[if_pos rfl]at hb;rw[Yx];have hv:Zco s.Zm=true:=by simp only[Ye]at e;exact e.1
  by_cases e0:s.Zm.Tables=[]
  .rw[if_pos e0]at hb;refine .inl ⟨_,_,hb,?_⟩;rw[if_pos rfl];refine⟨_,Zb9p _ _,?_⟩;have q:Zee s.Zv.Version [] s.Zv=decide (s.Zm.Tables.map Zcp=s.Zv.Tables):=by simp[Zee,e0]
   rw[q];rcases tf (decide (s.Zm.Tables.map Zcp=s.Zv.Tables))with e2|e2
   .rw[e2];simp
   .rw[e2,if_pos rfl];exact⟨_,Zbn0 h.d h.f h.x,by simp⟩
  .rw[if_neg e0]at hb;refine .inr ⟨_,_,_,hb,_,Zb9q _ _ _ (Zbpr hv) h.k,?_⟩;have q:Zee s.Zv.Version (s.Zm.Tables.map Zcp) s.Zv=decide (s.Zm.Tables.map Zcp=s.Zv.Tables):=by simp[Zee]
   rw[q];rcases tf (decide (s.Zm.Tables.map Zcp=s.Zv.Tables))with e2|e2
   .rw[e2];simp
   .rw[e2,if_pos rfl];exact⟨_,Zbn0 h.d h.f h.x,by simp⟩
open Classical in
def Zzq(s:Zbw):Bool:=Zl9 s.Z3 && decide (Zd3 s.Zb) && Zp4 s.Zb s.Cache && inR s.Ratio 2 8 && inR s.Slack 0 100 && inR s.Queries 0 1000000 && inR s.Spent 0 1000000000000
open Classical in
theorem Zccp{s:Zbw}(h:Zzp s.Z3)(hm:LeM s.Zb)(hc:LeC s.Cache):Zw9 s=some (Bo (Zzq s),[]):=by
 refine Zb4u ⟨_,Zca _ _ _,?_⟩;unfold Zzq;rcases tf (inR s.Ratio 2 8)with e1|e1
 .rw[e1];simp
 rw[e1,if_pos rfl];refine⟨_,Zca _ _ _,?_⟩;rcases tf (inR s.Slack 0 100)with e2|e2
 .rw[e2];simp
 rw[e2,if_pos rfl];refine⟨_,Zca _ _ _,?_⟩;rcases tf (inR s.Queries 0 1000000)with e3|e3
 .rw[e3];simp
 rw[e3,if_pos rfl];refine⟨_,Zca _ _ _,?_⟩;rcases tf (inR s.Spent 0 1000000000000)with e4|e4
 .rw[e4];simp
 rw[e4,if_pos rfl];refine⟨_,Zccn h,?_⟩;rcases tf (Zl9 s.Z3)with e5|e5
 .rw[e5];simp
 rw[e5,if_pos rfl];refine⟨_,Z75 _ hm,?_⟩;rcases tf (decide (Zd3 s.Zb))with e6|e6
 .rw[e6];simp
 rw[e6,if_pos rfl];exact⟨_,Zccj _ hm _ hc,by simp⟩
open Classical in
theorem Zccq{s:Zbw}(h:Zzp s.Z3)(hm:LeM s.Zb)(hc:LeC s.Cache):Zyl s=some (Bo (Zzq s),[]):=by
 refine Zb7i ⟨_,Zcco h,?_⟩;unfold Zzq;rcases tf (Zl9 s.Z3)with e5|e5
 .rw[e5];simp
 rw[e5,if_pos rfl];refine⟨_,Zbmn _ hm,?_⟩;rcases tf (decide (Zd3 s.Zb))with e6|e6
 .rw[e6];simp
 rw[e6,if_pos rfl];refine⟨_,Zccm _ hm _ hc,?_⟩;rcases tf (Zp4 s.Zb s.Cache)with e7|e7
 .rw[e7];simp
 rw[e7,if_pos rfl];refine⟨_,Zbu _ _ _,?_⟩;rcases tf (inR s.Ratio 2 8)with e1|e1
 .rw[e1];simp
 rw[e1,if_pos rfl];refine⟨_,Zbu _ _ _,?_⟩;rcases tf (inR s.Slack 0 100)with e2|e2
 .rw[e2];simp
 rw[e2,if_pos rfl];refine⟨_,Zbu _ _ _,?_⟩;rcases tf (inR s.Queries 0 1000000)with e3|e3
 .rw[e3];simp
 rw[e3,if_pos rfl];exact⟨_,Zbu _ _ _,by simp⟩
def Z84:MFun:=⟨1,27,[.tmp 2],.r [.bx 1 0,.mq 2 false] [1] (.r [.mk' 3 1048576] [1,3] (.r [.ln 7 41 1,.m 8 3,.cl 9 4 [7,8],.m 3 9] [1,3] (.wc [.m 10 3,.bk 11 .lss 10 0] [1,11] 11 (.r [.mq 2 true] [2] .ret) (.r [.ln 12 41 1,.xl 13 6 [12],.cl 14 5 [13],.m 4 14] [1,4] (.r [.ln 15 41 1,.xl 16 6 [15],.o 5 (.al [.nil,.z,.nil,.nil,.nil,.z,.z,.z,.z,.z,.nil,.z,.z,.z,.z,.z,.nil,.z,.z,.z,.z,.z,.nil,.z,.z,.z,.z,.z,.nil,.z,.z,.z,.z,.z,.nil,.z,.nil,.z,.z,.z,.z]),.st 41 5 16] [1,4,5] (.r [.ln 17 41 5,.cl 18 7 [17],.m 6 18] [1,4,5,6] (.wc [.m 19 6,.m 20 4,.o 21 (.beq true (.s 19) (.s 20))] [1,5,21] 21 (.r [.mq 2 false] [2] .ret) (.seq (.seq (.drw [.ln 22 41 5,.ln 23 41 1,.xl 24 6 [23],.cl 25 8 [22,24],.nt 26 25] [[],[],[1],[0,2,2],[3]] [26]) (.cond (.s 26) (.r [.mq 2 false] [2] .ret) .skip)) (.r [.mq 2 true] [2] .ret)))))))))⟩
theorem Zccr:tbl 3=some Z84:=Zd Tryz.func3
def Zbps:MFun:=⟨2,24,[.tmp 4],.r [.bx 2 0,.mk' 4 0] [1,2] (.r [.fa 5 0 2,.ln 6 5 5,.m 7 1,.cl 8 9 [6,7],.m 1 8] [1,2] (.wc [.m 9 1,.bk 10 .lss 9 0] [1,2,10] 10 (.r [.mk' 4 (-1)] [4] .ret) (.r [.fa 11 5 2,.ln 12 30 11,.m 13 1,.cl 14 10 [12,13],.m 1 14] [1,2] (.wc [.m 15 1,.bk 16 .lss 15 0] [1,2,16] 16 (.r [.mk' 4 (-1)] [4] .ret) (.r [.fa 17 35 2,.ln 18 2 17,.m 19 1,.cl 20 11 [18,19],.m 1 20] [1] (.wc [.m 21 1,.bk 22 .lss 21 0] [1,22] 22 (.r [.mk' 4 (-1)] [4] .ret) (.r [.m 23 1,.m 4 23] [4] .ret)))))))⟩
theorem Zccs:tbl 4=some Zbps:=Zd Tryz.func4
def Zbpt:MFun:=⟨1,29,[.cell 2 (some 41)],.r [.bx 1 0,.o 2 (.al [.nil,.z,.nil,.nil,.nil,.z,.z,.z,.z,.z,.nil,.z,.z,.z,.z,.z,.nil,.z,.z,.z,.z,.z,.nil,.z,.z,.z,.z,.z,.nil,.z,.z,.z,.z,.z,.nil,.z,.nil,.z,.z,.z,.z])] [1,2] (.r [.o 3 (.al [.nil,.z,.nil,.nil,.nil,.z,.z,.z,.z,.z,.nil,.z,.z,.z,.z,.z,.nil,.z,.z,.z,.z,.z,.nil,.z,.z,.z,.z,.z,.nil,.z,.z,.z,.z,.z,.nil,.z,.nil,.z,.z,.z,.z])] [1,2,3] (.r [.fa 4 0 1,.ln 5 5 4,.cl 6 16 [5],.fa 7 0 3,.st 5 7 6] [1,2,3] (.r [.fa 8 5 1,.ln 9 30 8,.cl 10 17 [9],.fa 11 5 3,.st 30 11 10] [1,2,3] (.r [.fa 12 35 1,.ln 13 2 12,.cl 14 18 [13],.fa 15 35 3,.st 2 15 14] [1,2,3] (.r [.fa 16 37 1,.l 17 16,.fa 18 37 3,.st 1 18 17] [1,2,3] (.r [.fa 19 38 1,.l 20 19,.fa 21 38 3,.st 1 21 20] [1,2,3] (.r [.fa 22 39 1,.l 23 22,.fa 24 39 3,.st 1 24 23] [1,2,3] (.r [.fa 25 40 1,.l 26 25,.fa 27 40 3,.st 1 27 26] [2,3] (.r [.ln 28 41 3,.st 41 2 28] [2] .ret)))))))))⟩
theorem Zcct:tbl 6=some Zbpt:=Zd Tryz.func6
def Zbpu:MFun:=⟨2,43,[.tmp 4],.r [.bx 2 0,.bx 3 1,.mq 4 false] [2,3] (.wc [.fa 5 0 2,.ln 6 5 5,.fa 7 0 3,.ln 8 5 7,.cl 9 23 [6,8],.nt 10 9] [2,3,10] 10 (.r [.mq 4 false] [4] .ret) (.wc [.fa 11 5 2,.ln 12 30 11,.fa 13 5 3,.ln 14 30 13,.cl 15 24 [12,14],.nt 16 15] [2,3,16] 16 (.r [.mq 4 false] [4] .ret) (.wc [.fa 17 35 2,.ln 18 2 17,.fa 19 35 3,.ln 20 2 19,.cl 21 25 [18,20],.nt 22 21] [2,3,22] 22 (.r [.mq 4 false] [4] .ret) (.wc [.fa 23 37 2,.l 24 23,.fa 25 37 3,.l 26 25,.b 27 .neq 24 26] [2,3,27] 27 (.r [.mq 4 false] [4] .ret) (.wc [.fa 28 38 2,.l 29 28,.fa 30 38 3,.l 31 30,.b 32 .neq 29 31] [2,3,32] 32 (.r [.mq 4 false] [4] .ret) (.wc [.fa 33 39 2,.l 34 33,.fa 35 39 3,.l 36 35,.b 37 .neq 34 36] [2,3,37] 37 (.r [.mq 4 false] [4] .ret) (.wc [.fa 38 40 2,.l 39 38,.fa 40 40 3,.l 41 40,.b 42 .neq 39 41] [42] 42 (.r [.mq 4 false] [4] .ret) (.r [.mq 4 true] [4] .ret))))))))⟩
theorem Zccu:tbl 8=some Zbpu:=Zd Tryz.func8
def Zbpv:MFun:=⟨2,30,[.tmp 4],.r [.bx 2 0,.mk' 4 0] [1,2] (.r [.fa 5 0 2,.ln 6 1 5,.m 7 1,.cl 8 26 [6,7],.m 1 8] [1,2] (.wc [.m 9 1,.bk 10 .lss 9 0] [1,2,10] 10 (.r [.mk' 4 (-1)] [4] .ret) (.r [.fa 11 1 2,.ln 12 2 11,.m 13 1,.cl 14 27 [12,13],.m 1 14] [1,2] (.wc [.m 15 1,.bk 16 .lss 15 0] [1,2,16] 16 (.r [.mk' 4 (-1)] [4] .ret) (.r [.fa 17 3 2,.l 18 17,.m 19 1,.cl 20 28 [18,19],.m 1 20] [1,2] (.wc [.m 21 1,.bk 22 .lss 21 0] [1,2,22] 22 (.r [.mk' 4 (-1)] [4] .ret) (.r [.fa 23 4 2,.l 24 23,.m 25 1,.cl 26 29 [24,25],.m 1 26] [1] (.wc [.m 27 1,.bk 28 .lss 27 0] [1,28] 28 (.r [.mk' 4 (-1)] [4] .ret) (.r [.m 29 1,.m 4 29] [4] .ret)))))))))⟩
theorem Zccv:tbl 9=some Zbpv:=Zd Tryz.func9
def Zbpw:MFun:=⟨2,36,[.tmp 4],.r [.bx 2 0,.mk' 4 0] [1,2] (.r [.fa 5 0 2,.ln 6 6 5,.m 7 1,.cl 8 30 [6,7],.m 1 8] [1,2] (.wc [.m 9 1,.bk 10 .lss 9 0] [1,2,10] 10 (.r [.mk' 4 (-1)] [4] .ret) (.r [.fa 11 6 2,.ln 12 6 11,.m 13 1,.cl 14 30 [12,13],.m 1 14] [1,2] (.wc [.m 15 1,.bk 16 .lss 15 0] [1,2,16] 16 (.r [.mk' 4 (-1)] [4] .ret) (.r [.fa 17 12 2,.ln 18 6 17,.m 19 1,.cl 20 30 [18,19],.m 1 20] [1,2] (.wc [.m 21 1,.bk 22 .lss 21 0] [1,2,22] 22 (.r [.mk' 4 (-1)] [4] .ret) (.r [.fa 23 18 2,.ln 24 6 23,.m 25 1,.cl 26 30 [24,25],.m 1 26] [1,2] (.wc [.m 27 1,.bk 28 .lss 27 0] [1,2,28] 28 (.r [.mk' 4 (-1)] [4] .ret) (.r [.fa 29 24 2,.ln 30 6 29,.m 31 1,.cl 32 30 [30,31],.m 1 32] [1] (.wc [.m 33 1,.bk 34 .lss 33 0] [1,34] 34 (.r [.mk' 4 (-1)] [4] .ret) (.r [.m 35 1,.m 4 35] [4] .ret)))))))))))⟩
theorem Zccw:tbl 10=some Zbpw:=Zd Tryz.func10
def Zbpx:MFun:=⟨2,12,[.tmp 4],.r [.bx 2 0,.mk' 4 0] [1,2] (.r [.fa 5 1 2,.l 6 5,.m 7 1,.cl 8 31 [6,7],.m 1 8] [1] (.wc [.m 9 1,.bk 10 .lss 9 0] [1,10] 10 (.r [.mk' 4 (-1)] [4] .ret) (.r [.m 11 1,.m 4 11] [4] .ret)))⟩
theorem Zccx:tbl 11=some Zbpx:=Zd Tryz.func11
def Zbpy:MFun:=⟨1,21,[.cell 2 (some 5)],.r [.bx 1 0,.o 2 (.al [.nil,.z,.nil,.nil,.nil])] [1,2] (.r [.o 3 (.al [.nil,.z,.nil,.nil,.nil])] [1,2,3] (.r [.fa 4 0 1,.ln 5 1 4,.cl 6 37 [5],.fa 7 0 3,.st 1 7 6] [1,2,3] (.r [.fa 8 1 1,.ln 9 2 8,.cl 10 38 [9],.fa 11 1 3,.st 2 11 10] [1,2,3] (.r [.fa 12 3 1,.l 13 12,.cl 14 39 [13],.fa 15 3 3,.st 1 15 14] [1,2,3] (.r [.fa 16 4 1,.l 17 16,.cl 18 40 [17],.fa 19 4 3,.st 1 19 18] [2,3] (.r [.ln 20 5 3,.st 5 2 20] [2] .ret))))))⟩
theorem Zccy:tbl 16=some Zbpy:=Zd Tryz.func16
def Zbpz:MFun:=⟨1,25,[.cell 2 (some 30)],.r [.bx 1 0,.o 2 (.al [.z,.z,.z,.z,.z,.nil,.z,.z,.z,.z,.z,.nil,.z,.z,.z,.z,.z,.nil,.z,.z,.z,.z,.z,.nil,.z,.z,.z,.z,.z,.nil])] [1,2] (.r [.o 3 (.al [.z,.z,.z,.z,.z,.nil,.z,.z,.z,.z,.z,.nil,.z,.z,.z,.z,.z,.nil,.z,.z,.z,.z,.z,.nil,.z,.z,.z,.z,.z,.nil])] [1,2,3] (.r [.fa 4 0 1,.ln 5 6 4,.cl 6 41 [5],.fa 7 0 3,.st 6 7 6] [1,2,3] (.r [.fa 8 6 1,.ln 9 6 8,.cl 10 41 [9],.fa 11 6 3,.st 6 11 10] [1,2,3] (.r [.fa 12 12 1,.ln 13 6 12,.cl 14 41 [13],.fa 15 12 3,.st 6 15 14] [1,2,3] (.r [.fa 16 18 1,.ln 17 6 16,.cl 18 41 [17],.fa 19 18 3,.st 6 19 18] [1,2,3] (.r [.fa 20 24 1,.ln 21 6 20,.cl 22 41 [21],.fa 23 24 3,.st 6 23 22] [2,3] (.r [.ln 24 30 3,.st 30 2 24] [2] .ret)))))))⟩
theorem Zccz:tbl 17=some Zbpz:=Zd Tryz.func17
def Zbp0:MFun:=⟨1,12,[.cell 2 (some 2)],.r [.bx 1 0,.o 2 (.al [.z,.nil])] [1,2] (.r [.o 3 (.al [.z,.nil])] [1,2,3] (.r [.fa 4 0 1,.l 5 4,.fa 6 0 3,.st 1 6 5] [1,2,3] (.r [.fa 7 1 1,.l 8 7,.cl 9 42 [8],.fa 10 1 3,.st 1 10 9] [2,3] (.r [.ln 11 2 3,.st 2 2 11] [2] .ret))))⟩
theorem Zcc0:tbl 18=some Zbp0:=Zd Tryz.func18
def Zbp1:MFun:=⟨2,29,[.tmp 4],.r [.bx 2 0,.bx 3 1,.mq 4 false] [2,3] (.wc [.fa 5 0 2,.ln 6 1 5,.fa 7 0 3,.ln 8 1 7,.cl 9 50 [6,8],.nt 10 9] [2,3,10] 10 (.r [.mq 4 false] [4] .ret) (.wc [.fa 11 1 2,.ln 12 2 11,.fa 13 1 3,.ln 14 2 13,.cl 15 51 [12,14],.nt 16 15] [2,3,16] 16 (.r [.mq 4 false] [4] .ret) (.wc [.fa 17 3 2,.l 18 17,.fa 19 3 3,.l 20 19,.cl 21 52 [18,20],.nt 22 21] [2,3,22] 22 (.r [.mq 4 false] [4] .ret) (.wc [.fa 23 4 2,.l 24 23,.fa 25 4 3,.l 26 25,.cl 27 53 [24,26],.nt 28 27] [28] 28 (.r [.mq 4 false] [4] .ret) (.r [.mq 4 true] [4] .ret)))))⟩
theorem Zcc1:tbl 23=some Zbp1:=Zd Tryz.func23
def Zbp2:MFun:=⟨2,35,[.tmp 4],.r [.bx 2 0,.bx 3 1,.mq 4 false] [2,3] (.wc [.fa 5 0 2,.ln 6 6 5,.fa 7 0 3,.ln 8 6 7,.cl 9 54 [6,8],.nt 10 9] [2,3,10] 10 (.r [.mq 4 false] [4] .ret) (.wc [.fa 11 6 2,.ln 12 6 11,.fa 13 6 3,.ln 14 6 13,.cl 15 54 [12,14],.nt 16 15] [2,3,16] 16 (.r [.mq 4 false] [4] .ret) (.wc [.fa 17 12 2,.ln 18 6 17,.fa 19 12 3,.ln 20 6 19,.cl 21 54 [18,20],.nt 22 21] [2,3,22] 22 (.r [.mq 4 false] [4] .ret) (.wc [.fa 23 18 2,.ln 24 6 23,.fa 25 18 3,.ln 26 6 25,.cl 27 54 [24,26],.nt 28 27] [2,3,28] 28 (.r [.mq 4 false] [4] .ret) (.wc [.fa 29 24 2,.ln 30 6 29,.fa 31 24 3,.ln 32 6 31,.cl 33 54 [30,32],.nt 34 33] [34] 34 (.r [.mq 4 false] [4] .ret) (.r [.mq 4 true] [4] .ret))))))⟩
theorem Zcc2:tbl 24=some Zbp2:=Zd Tryz.func24
def Zbp3:MFun:=⟨2,16,[.tmp 4],.r [.bx 2 0,.bx 3 1,.mq 4 false] [2,3] (.wc [.fa 5 0 2,.l 6 5,.fa 7 0 3,.l 8 7,.b 9 .neq 6 8] [2,3,9] 9 (.r [.mq 4 false] [4] .ret) (.wc [.fa 10 1 2,.l 11 10,.fa 12 1 3,.l 13 12,.cl 14 55 [11,13],.nt 15 14] [15] 15 (.r [.mq 4 false] [4] .ret) (.r [.mq 4 true] [4] .ret)))⟩
theorem Zcc3:tbl 25=some Zbp3:=Zd Tryz.func25
def Zbp4:MFun:=⟨2,12,[.tmp 4],.r [.bx 2 0,.mk' 4 0] [1,2] (.r [.fa 5 0 2,.l 6 5,.m 7 1,.cl 8 56 [6,7],.m 1 8] [1] (.wc [.m 9 1,.bk 10 .lss 9 0] [1,10] 10 (.r [.mk' 4 (-1)] [4] .ret) (.r [.m 11 1,.m 4 11] [4] .ret)))⟩
theorem Zcc4:tbl 26=some Zbp4:=Zd Tryz.func26
def Zbp5:MFun:=⟨2,12,[.tmp 4],.r [.bx 2 0,.mk' 4 0] [1,2] (.r [.fa 5 1 2,.l 6 5,.m 7 1,.cl 8 57 [6,7],.m 1 8] [1] (.wc [.m 9 1,.bk 10 .lss 9 0] [1,10] 10 (.r [.mk' 4 (-1)] [4] .ret) (.r [.m 11 1,.m 4 11] [4] .ret)))⟩
theorem Zcc5:tbl 27=some Zbp5:=Zd Tryz.func27
def Zma:MCode :=.we [.m 12 5,.m 13 0,.ll 14 13,.b 15 .lss 12 14] [0,1,5,15] 15 0 (.seq (.block 1 (.r [.m 18 0,.m 19 5,.ia 20 3 18 19,.ln 21 3 20,.m 22 1,.cl 23 58 [21,22],.m 1 23] [0,1,5] (.r [.m 24 1,.bk 25 .lss 24 0] [0,1,5,25] (.cond (.s 25) (.r [.mk' 4 (-1)] [4] .ret) .skip)))) (.ic 16 5 17 [0,1,5]))
def Zbp6:MFun:=⟨2,27,[.tmp 4],.r [.mk' 4 0] [0,1] (.r [.m 6 1,.m 7 0,.ll 8 7,.b 9 .sub 6 8,.m 1 9] [0,1] (.wc [.m 10 1,.bk 11 .lss 10 0] [0,1,11] 11 (.r [.mk' 4 (-1)] [4] .ret) (.seq (.r [.mk' 5 0] [0,1,5] (.block 0 (.loop [0,1,5] Zma))) (.r [.m 26 1,.m 4 26] [4] .ret))))⟩
theorem Zcc6:tbl 28=some Zbp6:=Zd Tryz.func28
def Zmb:MCode :=.we [.m 12 5,.m 13 0,.ll 14 13,.b 15 .lss 12 14] [0,1,5,15] 15 0 (.seq (.block 1 (.r [.m 18 0,.m 19 5,.ia 20 4 18 19,.ln 21 4 20,.m 22 1,.cl 23 59 [21,22],.m 1 23] [0,1,5] (.r [.m 24 1,.bk 25 .lss 24 0] [0,1,5,25] (.cond (.s 25) (.r [.mk' 4 (-1)] [4] .ret) .skip)))) (.ic 16 5 17 [0,1,5]))
def Zbp7:MFun:=⟨2,27,[.tmp 4],.r [.mk' 4 0] [0,1] (.r [.m 6 1,.m 7 0,.ll 8 7,.b 9 .sub 6 8,.m 1 9] [0,1] (.wc [.m 10 1,.bk 11 .lss 10 0] [0,1,11] 11 (.r [.mk' 4 (-1)] [4] .ret) (.seq (.r [.mk' 5 0] [0,1,5] (.block 0 (.loop [0,1,5] Zmb))) (.r [.m 26 1,.m 4 26] [4] .ret))))⟩
theorem Zcc7:tbl 29=some Zbp7:=Zd Tryz.func29
def Zbp8:MFun:=⟨2,12,[.tmp 4],.r [.bx 2 0,.mk' 4 0] [1,2] (.r [.fa 5 5 2,.l 6 5,.m 7 1,.cl 8 60 [6,7],.m 1 8] [1] (.wc [.m 9 1,.bk 10 .lss 9 0] [1,10] 10 (.r [.mk' 4 (-1)] [4] .ret) (.r [.m 11 1,.m 4 11] [4] .ret)))⟩
theorem Zcc8:tbl 30=some Zbp8:=Zd Tryz.func30
def Zmc:MCode :=.we [.m 12 5,.m 13 0,.ll 14 13,.b 15 .lss 12 14] [0,1,5,15] 15 0 (.seq (.block 1 (.r [.m 18 0,.m 19 5,.ia 20 8 18 19,.ln 21 8 20,.m 22 1,.cl 23 61 [21,22],.m 1 23] [0,1,5] (.r [.m 24 1,.bk 25 .lss 24 0] [0,1,5,25] (.cond (.s 25) (.r [.mk' 4 (-1)] [4] .ret) .skip)))) (.ic 16 5 17 [0,1,5]))
def Zbp9:MFun:=⟨2,27,[.tmp 4],.r [.mk' 4 0] [0,1] (.r [.m 6 1,.m 7 0,.ll 8 7,.b 9 .sub 6 8,.m 1 9] [0,1] (.wc [.m 10 1,.bk 11 .lss 10 0] [0,1,11] 11 (.r [.mk' 4 (-1)] [4] .ret) (.seq (.r [.mk' 5 0] [0,1,5] (.block 0 (.loop [0,1,5] Zmc))) (.r [.m 26 1,.m 4 26] [4] .ret))))⟩
theorem Zcc9:tbl 31=some Zbp9:=Zd Tryz.func31
def Zbqa:MFun:=⟨1,9,[.cell 2 (some 1)],.r [.bx 1 0,.o 2 (.al [.nil])] [1,2] (.r [.o 3 (.al [.nil])] [1,2,3] (.r [.fa 4 0 1,.l 5 4,.cl 6 75 [5],.fa 7 0 3,.st 1 7 6] [2,3] (.r [.ln 8 1 3,.st 1 2 8] [2] .ret)))⟩
theorem Zcda:tbl 37=some Zbqa:=Zd Tryz.func37
def Zbqb:MFun:=⟨1,12,[.cell 2 (some 2)],.r [.bx 1 0,.o 2 (.al [.z,.nil])] [1,2] (.r [.o 3 (.al [.z,.nil])] [1,2,3] (.r [.fa 4 0 1,.l 5 4,.fa 6 0 3,.st 1 6 5] [1,2,3] (.r [.fa 7 1 1,.l 8 7,.cl 9 76 [8],.fa 10 1 3,.st 1 10 9] [2,3] (.r [.ln 11 2 3,.st 2 2 11] [2] .ret))))⟩
theorem Zcdb:tbl 38=some Zbqb:=Zd Tryz.func38
def Zzr:MCode :=.we [.m 8 4,.m 9 0,.ll 10 9,.b 11 .lss 8 10] [0,3,4,11] 11 0 (.seq (.block 1 (.reg [.m 14 3,.m 15 4,.m 16 0,.m 17 4,.ia 18 3 16 17,.ln 19 3 18,.cl 20 77 [19],.ia 21 3 14 15,.st 3 21 20] [0,3,4])) (.ic 12 4 13 [0,3,4]))
def Zbqc:MFun:=⟨1,23,[.tmp 2],.r [.mn 2] [0] (.r [.m 5 0,.ll 6 5,.o 7 (.mkslice 150 3 48 [.str ⟨#[]⟩,.lst 1 [],.z] (.s 6) (.s 6)),.m 3 7] [0,3] (.seq (.r [.mk' 4 0] [0,3,4] (.block 0 (.loop [0,3,4] Zzr))) (.r [.m 22 3,.m 2 22] [2] .ret)))⟩
theorem Zcdc:tbl 39=some Zbqc:=Zd Tryz.func39
def Zzs:MCode :=.we [.m 8 4,.m 9 0,.ll 10 9,.b 11 .lss 8 10] [0,3,4,11] 11 0 (.seq (.block 1 (.reg [.m 14 3,.m 15 4,.m 16 0,.m 17 4,.ia 18 4 16 17,.ln 19 4 18,.cl 20 78 [19],.ia 21 4 14 15,.st 4 21 20] [0,3,4])) (.ic 12 4 13 [0,3,4]))
def Zbqd:MFun:=⟨1,23,[.tmp 2],.r [.mn 2] [0] (.r [.m 5 0,.ll 6 5,.o 7 (.mkslice 152 4 48 [.str ⟨#[]⟩,.z,.str ⟨#[]⟩,.z] (.s 6) (.s 6)),.m 3 7] [0,3] (.seq (.r [.mk' 4 0] [0,3,4] (.block 0 (.loop [0,3,4] Zzs))) (.r [.m 22 3,.m 2 22] [2] .ret)))⟩
theorem Zcdd:tbl 40=some Zbqd:=Zd Tryz.func40
def Zbqe:MFun:=⟨1,24,[.cell 2 (some 6)],.r [.bx 1 0,.o 2 (.al [.z,.z,.z,.z,.z,.nil])] [1,2] (.r [.o 3 (.al [.z,.z,.z,.z,.z,.nil])] [1,2,3] (.r [.fa 4 0 1,.l 5 4,.fa 6 0 3,.st 1 6 5] [1,2,3] (.r [.fa 7 1 1,.l 8 7,.fa 9 1 3,.st 1 9 8] [1,2,3] (.r [.fa 10 2 1,.l 11 10,.fa 12 2 3,.st 1 12 11] [1,2,3] (.r [.fa 13 3 1,.l 14 13,.fa 15 3 3,.st 1 15 14] [1,2,3] (.r [.fa 16 4 1,.l 17 16,.fa 18 4 3,.st 1 18 17] [1,2,3] (.r [.fa 19 5 1,.l 20 19,.cl 21 79 [20],.fa 22 5 3,.st 1 22 21] [2,3] (.r [.ln 23 6 3,.st 6 2 23] [2] .ret))))))))⟩
theorem Zcde:tbl 41=some Zbqe:=Zd Tryz.func41
def Zzt:MCode :=.we [.m 8 4,.m 9 0,.ll 10 9,.b 11 .lss 8 10] [0,3,4,11] 11 0 (.seq (.block 1 (.reg [.m 14 3,.m 15 4,.m 16 0,.m 17 4,.ia 18 8 16 17,.ln 19 8 18,.cl 20 80 [19],.ia 21 8 14 15,.st 8 21 20] [0,3,4])) (.ic 12 4 13 [0,3,4]))
def Zbqf:MFun:=⟨1,23,[.tmp 2],.r [.mn 2] [0] (.r [.m 5 0,.ll 6 5,.o 7 (.mkslice 104 8 128 [.z,.lst 2 [],.lst 3 [],.lst 1 [],.lst 1 [],.z,.z,.z] (.s 6) (.s 6)),.m 3 7] [0,3] (.seq (.r [.mk' 4 0] [0,3,4] (.block 0 (.loop [0,3,4] Zzt))) (.r [.m 22 3,.m 2 22] [2] .ret)))⟩
theorem Zcdf:tbl 42=some Zbqf:=Zd Tryz.func42
def Zbqg:MFun:=⟨2,11,[.tmp 4],.r [.bx 2 0,.bx 3 1,.mq 4 false] [2,3] (.wc [.fa 5 0 2,.l 6 5,.fa 7 0 3,.l 8 7,.cl 9 95 [6,8],.nt 10 9] [10] 10 (.r [.mq 4 false] [4] .ret) (.r [.mq 4 true] [4] .ret))⟩
theorem Zcdg:tbl 50=some Zbqg:=Zd Tryz.func50
def Zbqh:MFun:=⟨2,16,[.tmp 4],.r [.bx 2 0,.bx 3 1,.mq 4 false] [2,3] (.wc [.fa 5 0 2,.l 6 5,.fa 7 0 3,.l 8 7,.b 9 .neq 6 8] [2,3,9] 9 (.r [.mq 4 false] [4] .ret) (.wc [.fa 10 1 2,.l 11 10,.fa 12 1 3,.l 13 12,.cl 14 96 [11,13],.nt 15 14] [15] 15 (.r [.mq 4 false] [4] .ret) (.r [.mq 4 true] [4] .ret)))⟩
theorem Zcdh:tbl 51=some Zbqh:=Zd Tryz.func51
def Zzu:MCode :=.we [.m 11 5,.m 12 0,.ll 13 12,.b 14 .lss 11 13] [0,1,5,14] 14 0 (.seq (.block 1 (.seq (.drw [.m 17 0,.m 18 5,.ia 19 3 17 18,.ln 20 3 19,.m 21 1,.m 22 5,.ia 23 3 21 22,.ln 24 3 23,.cl 25 97 [20,24],.nt 26 25] [[],[],[0,1],[2],[],[],[4,5],[6],[3,7],[8]] [0,1,5,26]) (.cond (.s 26) (.r [.mq 4 false] [4] .ret) .skip))) (.ic 15 5 16 [0,1,5]))
def Z85:MFun:=⟨2,27,[.tmp 4],.r [.mq 4 false] [0,1] (.wc [.m 6 0,.ll 7 6,.m 8 1,.ll 9 8,.b 10 .neq 7 9] [0,1,10] 10 (.r [.mq 4 false] [4] .ret) (.seq (.r [.mk' 5 0] [0,1,5] (.block 0 (.loop [0,1,5] Zzu))) (.r [.mq 4 true] [4] .ret)))⟩
theorem Zcdi:tbl 52=some Z85:=Zd Tryz.func52
def Zzv:MCode :=.we [.m 11 5,.m 12 0,.ll 13 12,.b 14 .lss 11 13] [0,1,5,14] 14 0 (.seq (.block 1 (.seq (.drw [.m 17 0,.m 18 5,.ia 19 4 17 18,.ln 20 4 19,.m 21 1,.m 22 5,.ia 23 4 21 22,.ln 24 4 23,.cl 25 98 [20,24],.nt 26 25] [[],[],[0,1],[2],[],[],[4,5],[6],[3,7],[8]] [0,1,5,26]) (.cond (.s 26) (.r [.mq 4 false] [4] .ret) .skip))) (.ic 15 5 16 [0,1,5]))
def Z86:MFun:=⟨2,27,[.tmp 4],.r [.mq 4 false] [0,1] (.wc [.m 6 0,.ll 7 6,.m 8 1,.ll 9 8,.b 10 .neq 7 9] [0,1,10] 10 (.r [.mq 4 false] [4] .ret) (.seq (.r [.mk' 5 0] [0,1,5] (.block 0 (.loop [0,1,5] Zzv))) (.r [.mq 4 true] [4] .ret)))⟩
theorem Zcdj:tbl 53=some Z86:=Zd Tryz.func53
def Zbqi:MFun:=⟨2,36,[.tmp 4],.r [.bx 2 0,.bx 3 1,.mq 4 false] [2,3] (.wc [.fa 5 0 2,.l 6 5,.fa 7 0 3,.l 8 7,.b 9 .neq 6 8] [2,3,9] 9 (.r [.mq 4 false] [4] .ret) (.wc [.fa 10 1 2,.l 11 10,.fa 12 1 3,.l 13 12,.b 14 .neq 11 13] [2,3,14] 14 (.r [.mq 4 false] [4] .ret) (.wc [.fa 15 2 2,.l 16 15,.fa 17 2 3,.l 18 17,.b 19 .neq 16 18] [2,3,19] 19 (.r [.mq 4 false] [4] .ret) (.wc [.fa 20 3 2,.l 21 20,.fa 22 3 3,.l 23 22,.b 24 .neq 21 23] [2,3,24] 24 (.r [.mq 4 false] [4] .ret) (.wc [.fa 25 4 2,.l 26 25,.fa 27 4 3,.l 28 27,.b 29 .neq 26 28] [2,3,29] 29 (.r [.mq 4 false] [4] .ret) (.wc [.fa 30 5 2,.l 31 30,.fa 32 5 3,.l 33 32,.cl 34 99 [31,33],.nt 35 34] [35] 35 (.r [.mq 4 false] [4] .ret) (.r [.mq 4 true] [4] .ret)))))))⟩
theorem Zcdk:tbl 54=some Zbqi:=Zd Tryz.func54
def Zzw:MCode :=.we [.m 11 5,.m 12 0,.ll 13 12,.b 14 .lss 11 13] [0,1,5,14] 14 0 (.seq (.block 1 (.seq (.drw [.m 17 0,.m 18 5,.ia 19 8 17 18,.ln 20 8 19,.m 21 1,.m 22 5,.ia 23 8 21 22,.ln 24 8 23,.cl 25 100 [20,24],.nt 26 25] [[],[],[0,1],[2],[],[],[4,5],[6],[3,7],[8]] [0,1,5,26]) (.cond (.s 26) (.r [.mq 4 false] [4] .ret) .skip))) (.ic 15 5 16 [0,1,5]))
def Z87:MFun:=⟨2,27,[.tmp 4],.r [.mq 4 false] [0,1] (.wc [.m 6 0,.ll 7 6,.m 8 1,.ll 9 8,.b 10 .neq 7 9] [0,1,10] 10 (.r [.mq 4 false] [4] .ret) (.seq (.r [.mk' 5 0] [0,1,5] (.block 0 (.loop [0,1,5] Zzw))) (.r [.mq 4 true] [4] .ret)))⟩
theorem Zcdl:tbl 55=some Z87:=Zd Tryz.func55
def Zmd:MCode :=.we [.m 12 5,.m 13 0,.ll 14 13,.b 15 .lss 12 14] [0,1,5,15] 15 0 (.seq (.block 1 (.r [.m 18 0,.m 19 5,.ia 20 3 18 19,.ln 21 3 20,.m 22 1,.cl 23 101 [21,22],.m 1 23] [0,1,5] (.r [.m 24 1,.bk 25 .lss 24 0] [0,1,5,25] (.cond (.s 25) (.r [.mk' 4 (-1)] [4] .ret) .skip)))) (.ic 16 5 17 [0,1,5]))
def Zbqj:MFun:=⟨2,27,[.tmp 4],.r [.mk' 4 0] [0,1] (.r [.m 6 1,.m 7 0,.ll 8 7,.b 9 .sub 6 8,.m 1 9] [0,1] (.wc [.m 10 1,.bk 11 .lss 10 0] [0,1,11] 11 (.r [.mk' 4 (-1)] [4] .ret) (.seq (.r [.mk' 5 0] [0,1,5] (.block 0 (.loop [0,1,5] Zmd))) (.r [.m 26 1,.m 4 26] [4] .ret))))⟩
theorem Zcdm:tbl 56=some Zbqj:=Zd Tryz.func56
def Zme:MCode :=.we [.m 12 5,.m 13 0,.ll 14 13,.b 15 .lss 12 14] [0,1,5,15] 15 0 (.seq (.block 1 (.r [.m 18 0,.m 19 5,.ia 20 4 18 19,.ln 21 4 20,.m 22 1,.cl 23 102 [21,22],.m 1 23] [0,1,5] (.r [.m 24 1,.bk 25 .lss 24 0] [0,1,5,25] (.cond (.s 25) (.r [.mk' 4 (-1)] [4] .ret) .skip)))) (.ic 16 5 17 [0,1,5]))
def Zbqk:MFun:=⟨2,27,[.tmp 4],.r [.mk' 4 0] [0,1] (.r [.m 6 1,.m 7 0,.ll 8 7,.b 9 .sub 6 8,.m 1 9] [0,1] (.wc [.m 10 1,.bk 11 .lss 10 0] [0,1,11] 11 (.r [.mk' 4 (-1)] [4] .ret) (.seq (.r [.mk' 5 0] [0,1,5] (.block 0 (.loop [0,1,5] Zme))) (.r [.m 26 1,.m 4 26] [4] .ret))))⟩
theorem Zcdn:tbl 57=some Zbqk:=Zd Tryz.func57
def Zbql:MFun:=⟨2,19,[.tmp 4],.r [.bx 2 0,.mk' 4 0] [1,2] (.r [.m 5 1,.fa 6 0 2,.l 7 6,.o 8 (.len true (.s 7)),.b 9 .sub 5 8,.m 1 9] [1,2] (.wc [.m 10 1,.bk 11 .lss 10 0] [1,2,11] 11 (.r [.mk' 4 (-1)] [4] .ret) (.r [.fa 12 1 2,.l 13 12,.m 14 1,.cl 15 103 [13,14],.m 1 15] [1] (.wc [.m 16 1,.bk 17 .lss 16 0] [1,17] 17 (.r [.mk' 4 (-1)] [4] .ret) (.r [.m 18 1,.m 4 18] [4] .ret)))))⟩
theorem Zcdo:tbl 58=some Zbql:=Zd Tryz.func58
def Zbqm:MFun:=⟨2,20,[.tmp 4],.r [.bx 2 0,.mk' 4 0] [1,2] (.r [.m 5 1,.fa 6 0 2,.l 7 6,.o 8 (.len true (.s 7)),.b 9 .sub 5 8,.m 1 9] [1,2] (.wc [.m 10 1,.bk 11 .lss 10 0] [1,2,11] 11 (.r [.mk' 4 (-1)] [4] .ret) (.r [.m 12 1,.fa 13 2 2,.l 14 13,.o 15 (.len true (.s 14)),.b 16 .sub 12 15,.m 1 16] [1] (.wc [.m 17 1,.bk 18 .lss 17 0] [1,18] 18 (.r [.mk' 4 (-1)] [4] .ret) (.r [.m 19 1,.m 4 19] [4] .ret)))))⟩
theorem Zcdp:tbl 59=some Zbqm:=Zd Tryz.func59
def Zbqn:MFun:=⟨2,12,[.tmp 4],.r [.mk' 4 0] [0,1] (.r [.m 5 1,.m 6 0,.ll 7 6,.b 8 .sub 5 7,.m 1 8] [1] (.wc [.m 9 1,.bk 10 .lss 9 0] [1,10] 10 (.r [.mk' 4 (-1)] [4] .ret) (.r [.m 11 1,.m 4 11] [4] .ret)))⟩
theorem Zcdq:tbl 60=some Zbqn:=Zd Tryz.func60
def Zbqo:MFun:=⟨2,18,[.tmp 4],.r [.bx 2 0,.mk' 4 0] [1,2] (.r [.fa 5 0 2,.ln 6 2 5,.m 7 1,.cl 8 104 [6,7],.m 1 8] [1,2] (.wc [.m 9 1,.bk 10 .lss 9 0] [1,2,10] 10 (.r [.mk' 4 (-1)] [4] .ret) (.r [.fa 11 2 2,.ln 12 4 11,.m 13 1,.cl 14 105 [12,13],.m 1 14] [1] (.wc [.m 15 1,.bk 16 .lss 15 0] [1,16] 16 (.r [.mk' 4 (-1)] [4] .ret) (.r [.m 17 1,.m 4 17] [4] .ret)))))⟩
theorem Zcdr:tbl 61=some Zbqo:=Zd Tryz.func61
def Zzx:MCode :=.we [.m 8 4,.m 9 0,.ll 10 9,.b 11 .lss 8 10] [0,3,4,11] 11 0 (.seq (.block 1 (.reg [.m 14 3,.m 15 4,.m 16 0,.m 17 4,.ia 18 3 16 17,.ln 19 3 18,.cl 20 126 [19],.ia 21 3 14 15,.st 3 21 20] [0,3,4])) (.ic 12 4 13 [0,3,4]))
def Zbqp:MFun:=⟨1,23,[.tmp 2],.r [.mn 2] [0] (.r [.m 5 0,.ll 6 5,.o 7 (.mkslice 147 3 48 [.str ⟨#[]⟩,.z,.lst 1 []] (.s 6) (.s 6)),.m 3 7] [0,3] (.seq (.r [.mk' 4 0] [0,3,4] (.block 0 (.loop [0,3,4] Zzx))) (.r [.m 22 3,.m 2 22] [2] .ret)))⟩
theorem Zcds:tbl 75=some Zbqp:=Zd Tryz.func75
def Zzy:MCode :=.we [.m 8 4,.m 9 0,.ll 10 9,.b 11 .lss 8 10] [0,3,4,11] 11 0 (.seq (.block 1 (.reg [.m 14 3,.m 15 4,.m 16 0,.m 17 4,.ia 18 4 16 17,.ln 19 4 18,.cl 20 127 [19],.ia 21 4 14 15,.st 4 21 20] [0,3,4])) (.ic 12 4 13 [0,3,4]))
def Zbqq:MFun:=⟨1,23,[.tmp 2],.r [.mn 2] [0] (.r [.m 5 0,.ll 6 5,.o 7 (.mkslice 143 4 56 [.str ⟨#[]⟩,.z,.z,.lst 3 []] (.s 6) (.s 6)),.m 3 7] [0,3] (.seq (.r [.mk' 4 0] [0,3,4] (.block 0 (.loop [0,3,4] Zzy))) (.r [.m 22 3,.m 2 22] [2] .ret)))⟩
theorem Zcdt:tbl 76=some Zbqq:=Zd Tryz.func76
def Zbqr:MFun:=⟨1,15,[.cell 2 (some 3)],.r [.bx 1 0,.o 2 (.al [.str ⟨#[]⟩,.nil,.z])] [1,2] (.r [.o 3 (.al [.str ⟨#[]⟩,.nil,.z])] [1,2,3] (.r [.fa 4 0 1,.l 5 4,.fa 6 0 3,.st 1 6 5] [1,2,3] (.r [.fa 7 1 1,.l 8 7,.cl 9 128 [8],.fa 10 1 3,.st 1 10 9] [1,2,3] (.r [.fa 11 2 1,.l 12 11,.fa 13 2 3,.st 1 13 12] [2,3] (.r [.ln 14 3 3,.st 3 2 14] [2] .ret)))))⟩
theorem Zcdu:tbl 77=some Zbqr:=Zd Tryz.func77
def Zbqs:MFun:=⟨1,17,[.cell 2 (some 4)],.r [.bx 1 0,.o 2 (.al [.str ⟨#[]⟩,.z,.str ⟨#[]⟩,.z])] [1,2] (.r [.o 3 (.al [.str ⟨#[]⟩,.z,.str ⟨#[]⟩,.z])] [1,2,3] (.r [.fa 4 0 1,.l 5 4,.fa 6 0 3,.st 1 6 5] [1,2,3] (.r [.fa 7 1 1,.l 8 7,.fa 9 1 3,.st 1 9 8] [1,2,3] (.r [.fa 10 2 1,.l 11 10,.fa 12 2 3,.st 1 12 11] [1,2,3] (.r [.fa 13 3 1,.l 14 13,.fa 15 3 3,.st 1 15 14] [2,3] (.r [.ln 16 4 3,.st 4 2 16] [2] .ret))))))⟩
theorem Zcdv:tbl 78=some Zbqs:=Zd Tryz.func78
def Zzz:MCode :=.we [.m 8 4,.m 9 0,.ll 10 9,.b 11 .lss 8 10] [0,3,4,11] 11 0 (.seq (.block 1 (.reg [.m 14 3,.m 15 4,.m 16 0,.m 17 4,.ia 18 2 16 17,.ln 19 2 18,.cl 20 129 [19],.ia 21 2 14 15,.st 2 21 20] [0,3,4])) (.ic 12 4 13 [0,3,4]))
def Zbqt:MFun:=⟨1,23,[.tmp 2],.r [.mn 2] [0] (.r [.m 5 0,.ll 6 5,.o 7 (.mkslice 201 2 16 [.z,.z] (.s 6) (.s 6)),.m 3 7] [0,3] (.seq (.r [.mk' 4 0] [0,3,4] (.block 0 (.loop [0,3,4] Zzz))) (.r [.m 22 3,.m 2 22] [2] .ret)))⟩
theorem Zcdw:tbl 79=some Zbqt:=Zd Tryz.func79
def Zbqu:MFun:=⟨1,19,[.cell 2 (some 8)],.r [.bx 1 0,.o 2 (.al [.z,.nil,.nil,.nil,.nil,.z,.z,.z])] [1,2] (.r [.o 3 (.al [.z,.nil,.nil,.nil,.nil,.z,.z,.z])] [1,2,3] (.r [.fa 4 0 1,.ln 5 2 4,.cl 6 130 [5],.fa 7 0 3,.st 2 7 6] [1,2,3] (.r [.fa 8 2 1,.ln 9 4 8,.cl 10 131 [9],.fa 11 2 3,.st 4 11 10] [1,2,3] (.r [.fa 12 6 1,.l 13 12,.fa 14 6 3,.st 1 14 13] [1,2,3] (.r [.fa 15 7 1,.l 16 15,.fa 17 7 3,.st 1 17 16] [2,3] (.r [.ln 18 8 3,.st 8 2 18] [2] .ret))))))⟩
theorem Zcdx:tbl 80=some Zbqu:=Zd Tryz.func80
def Zz0:MCode :=.we [.m 11 5,.m 12 0,.ll 13 12,.b 14 .lss 11 13] [0,1,5,14] 14 0 (.seq (.block 1 (.seq (.drw [.m 17 0,.m 18 5,.ia 19 3 17 18,.ln 20 3 19,.m 21 1,.m 22 5,.ia 23 3 21 22,.ln 24 3 23,.cl 25 150 [20,24],.nt 26 25] [[],[],[0,1],[2],[],[],[4,5],[6],[3,7],[8]] [0,1,5,26]) (.cond (.s 26) (.r [.mq 4 false] [4] .ret) .skip))) (.ic 15 5 16 [0,1,5]))
def Z88:MFun:=⟨2,27,[.tmp 4],.r [.mq 4 false] [0,1] (.wc [.m 6 0,.ll 7 6,.m 8 1,.ll 9 8,.b 10 .neq 7 9] [0,1,10] 10 (.r [.mq 4 false] [4] .ret) (.seq (.r [.mk' 5 0] [0,1,5] (.block 0 (.loop [0,1,5] Zz0))) (.r [.mq 4 true] [4] .ret)))⟩
theorem Zcdy:tbl 95=some Z88:=Zd Tryz.func95
def Zz1:MCode :=.we [.m 11 5,.m 12 0,.ll 13 12,.b 14 .lss 11 13] [0,1,5,14] 14 0 (.seq (.block 1 (.seq (.drw [.m 17 0,.m 18 5,.ia 19 4 17 18,.ln 20 4 19,.m 21 1,.m 22 5,.ia 23 4 21 22,.ln 24 4 23,.cl 25 151 [20,24],.nt 26 25] [[],[],[0,1],[2],[],[],[4,5],[6],[3,7],[8]] [0,1,5,26]) (.cond (.s 26) (.r [.mq 4 false] [4] .ret) .skip))) (.ic 15 5 16 [0,1,5]))
def Z89:MFun:=⟨2,27,[.tmp 4],.r [.mq 4 false] [0,1] (.wc [.m 6 0,.ll 7 6,.m 8 1,.ll 9 8,.b 10 .neq 7 9] [0,1,10] 10 (.r [.mq 4 false] [4] .ret) (.seq (.r [.mk' 5 0] [0,1,5] (.block 0 (.loop [0,1,5] Zz1))) (.r [.mq 4 true] [4] .ret)))⟩
theorem Zcdz:tbl 96=some Z89:=Zd Tryz.func96
def Zbqv:MFun:=⟨2,21,[.tmp 4],.r [.bx 2 0,.bx 3 1,.mq 4 false] [2,3] (.wc [.fa 5 0 2,.l 6 5,.fa 7 0 3,.l 8 7,.b 9 .neq 6 8] [2,3,9] 9 (.r [.mq 4 false] [4] .ret) (.wc [.fa 10 1 2,.l 11 10,.fa 12 1 3,.l 13 12,.cl 14 152 [11,13],.nt 15 14] [2,3,15] 15 (.r [.mq 4 false] [4] .ret) (.wc [.fa 16 2 2,.l 17 16,.fa 18 2 3,.l 19 18,.b 20 .neq 17 19] [20] 20 (.r [.mq 4 false] [4] .ret) (.r [.mq 4 true] [4] .ret))))⟩
theorem Zcd0:tbl 97=some Zbqv:=Zd Tryz.func97
def Zbqw:MFun:=⟨2,25,[.tmp 4],.r [.bx 2 0,.bx 3 1,.mq 4 false] [2,3] (.wc [.fa 5 0 2,.l 6 5,.fa 7 0 3,.l 8 7,.b 9 .neq 6 8] [2,3,9] 9 (.r [.mq 4 false] [4] .ret) (.wc [.fa 10 1 2,.l 11 10,.fa 12 1 3,.l 13 12,.b 14 .neq 11 13] [2,3,14] 14 (.r [.mq 4 false] [4] .ret) (.wc [.fa 15 2 2,.l 16 15,.fa 17 2 3,.l 18 17,.b 19 .neq 16 18] [2,3,19] 19 (.r [.mq 4 false] [4] .ret) (.wc [.fa 20 3 2,.l 21 20,.fa 22 3 3,.l 23 22,.b 24 .neq 21 23] [24] 24 (.r [.mq 4 false] [4] .ret) (.r [.mq 4 true] [4] .ret)))))⟩
theorem Zcd1:tbl 98=some Zbqw:=Zd Tryz.func98
def Zz2:MCode :=.we [.m 11 5,.m 12 0,.ll 13 12,.b 14 .lss 11 13] [0,1,5,14] 14 0 (.seq (.block 1 (.seq (.drw [.m 17 0,.m 18 5,.ia 19 2 17 18,.ln 20 2 19,.m 21 1,.m 22 5,.ia 23 2 21 22,.ln 24 2 23,.cl 25 153 [20,24],.nt 26 25] [[],[],[0,1],[2],[],[],[4,5],[6],[3,7],[8]] [0,1,5,26]) (.cond (.s 26) (.r [.mq 4 false] [4] .ret) .skip))) (.ic 15 5 16 [0,1,5]))
def Z9a:MFun:=⟨2,27,[.tmp 4],.r [.mq 4 false] [0,1] (.wc [.m 6 0,.ll 7 6,.m 8 1,.ll 9 8,.b 10 .neq 7 9] [0,1,10] 10 (.r [.mq 4 false] [4] .ret) (.seq (.r [.mk' 5 0] [0,1,5] (.block 0 (.loop [0,1,5] Zz2))) (.r [.mq 4 true] [4] .ret)))⟩
theorem Zcd2:tbl 99=some Z9a:=Zd Tryz.func99
def Zbqx:MFun:=⟨2,27,[.tmp 4],.r [.bx 2 0,.bx 3 1,.mq 4 false] [2,3] (.wc [.fa 5 0 2,.ln 6 2 5,.fa 7 0 3,.ln 8 2 7,.cl 9 154 [6,8],.nt 10 9] [2,3,10] 10 (.r [.mq 4 false] [4] .ret) (.wc [.fa 11 2 2,.ln 12 4 11,.fa 13 2 3,.ln 14 4 13,.cl 15 155 [12,14],.nt 16 15] [2,3,16] 16 (.r [.mq 4 false] [4] .ret) (.wc [.fa 17 6 2,.l 18 17,.fa 19 6 3,.l 20 19,.b 21 .neq 18 20] [2,3,21] 21 (.r [.mq 4 false] [4] .ret) (.wc [.fa 22 7 2,.l 23 22,.fa 24 7 3,.l 25 24,.b 26 .neq 23 25] [26] 26 (.r [.mq 4 false] [4] .ret) (.r [.mq 4 true] [4] .ret)))))⟩
theorem Zcd3:tbl 100=some Zbqx:=Zd Tryz.func100
def Zbqy:MFun:=⟨2,19,[.tmp 4],.r [.bx 2 0,.mk' 4 0] [1,2] (.r [.m 5 1,.fa 6 0 2,.l 7 6,.o 8 (.len true (.s 7)),.b 9 .sub 5 8,.m 1 9] [1,2] (.wc [.m 10 1,.bk 11 .lss 10 0] [1,2,11] 11 (.r [.mk' 4 (-1)] [4] .ret) (.r [.fa 12 2 2,.l 13 12,.m 14 1,.cl 15 156 [13,14],.m 1 15] [1] (.wc [.m 16 1,.bk 17 .lss 16 0] [1,17] 17 (.r [.mk' 4 (-1)] [4] .ret) (.r [.m 18 1,.m 4 18] [4] .ret)))))⟩
theorem Zcd4:tbl 101=some Zbqy:=Zd Tryz.func101
def Zbqz:MFun:=⟨2,19,[.tmp 4],.r [.bx 2 0,.mk' 4 0] [1,2] (.r [.m 5 1,.fa 6 0 2,.l 7 6,.o 8 (.len true (.s 7)),.b 9 .sub 5 8,.m 1 9] [1,2] (.wc [.m 10 1,.bk 11 .lss 10 0] [1,2,11] 11 (.r [.mk' 4 (-1)] [4] .ret) (.r [.fa 12 3 2,.l 13 12,.m 14 1,.cl 15 157 [13,14],.m 1 15] [1] (.wc [.m 16 1,.bk 17 .lss 16 0] [1,17] 17 (.r [.mk' 4 (-1)] [4] .ret) (.r [.m 18 1,.m 4 18] [4] .ret)))))⟩
theorem Zcd5:tbl 102=some Zbqz:=Zd Tryz.func102
def Zbq0:MFun:=⟨2,12,[.tmp 4],.r [.mk' 4 0] [0,1] (.r [.m 5 1,.m 6 0,.ll 7 6,.b 8 .sub 5 7,.m 1 8] [1] (.wc [.m 9 1,.bk 10 .lss 9 0] [1,10] 10 (.r [.mk' 4 (-1)] [4] .ret) (.r [.m 11 1,.m 4 11] [4] .ret)))⟩
theorem Zcd6:tbl 103=some Zbq0:=Zd Tryz.func103
def Zbq1:MFun:=⟨2,12,[.tmp 4],.r [.bx 2 0,.mk' 4 0] [1,2] (.r [.fa 5 1 2,.l 6 5,.m 7 1,.cl 8 158 [6,7],.m 1 8] [1] (.wc [.m 9 1,.bk 10 .lss 9 0] [1,10] 10 (.r [.mk' 4 (-1)] [4] .ret) (.r [.m 11 1,.m 4 11] [4] .ret)))⟩
theorem Zcd7:tbl 104=some Zbq1:=Zd Tryz.func104
def Zbq2:MFun:=⟨2,18,[.tmp 4],.r [.bx 2 0,.mk' 4 0] [1,2] (.r [.fa 5 0 2,.ln 6 1 5,.m 7 1,.cl 8 159 [6,7],.m 1 8] [1,2] (.wc [.m 9 1,.bk 10 .lss 9 0] [1,2,10] 10 (.r [.mk' 4 (-1)] [4] .ret) (.r [.fa 11 1 2,.ln 12 2 11,.m 13 1,.cl 14 160 [12,13],.m 1 14] [1] (.wc [.m 15 1,.bk 16 .lss 15 0] [1,16] 16 (.r [.mk' 4 (-1)] [4] .ret) (.r [.m 17 1,.m 4 17] [4] .ret)))))⟩
theorem Zcd8:tbl 105=some Zbq2:=Zd Tryz.func105
def Zbq3:MFun:=⟨1,15,[.cell 2 (some 3)],.r [.bx 1 0,.o 2 (.al [.str ⟨#[]⟩,.z,.nil])] [1,2] (.r [.o 3 (.al [.str ⟨#[]⟩,.z,.nil])] [1,2,3] (.r [.fa 4 0 1,.l 5 4,.fa 6 0 3,.st 1 6 5] [1,2,3] (.r [.fa 7 1 1,.l 8 7,.fa 9 1 3,.st 1 9 8] [1,2,3] (.r [.fa 10 2 1,.l 11 10,.cl 12 183 [11],.fa 13 2 3,.st 1 13 12] [2,3] (.r [.ln 14 3 3,.st 3 2 14] [2] .ret)))))⟩
theorem Zcd9:tbl 126=some Zbq3:=Zd Tryz.func126
def Zbq4:MFun:=⟨1,18,[.cell 2 (some 4)],.r [.bx 1 0,.o 2 (.al [.str ⟨#[]⟩,.z,.z,.nil])] [1,2] (.r [.o 3 (.al [.str ⟨#[]⟩,.z,.z,.nil])] [1,2,3] (.r [.fa 4 0 1,.l 5 4,.fa 6 0 3,.st 1 6 5] [1,2,3] (.r [.fa 7 1 1,.l 8 7,.fa 9 1 3,.st 1 9 8] [1,2,3] (.r [.fa 10 2 1,.l 11 10,.fa 12 2 3,.st 1 12 11] [1,2,3] (.r [.fa 13 3 1,.l 14 13,.cl 15 184 [14],.fa 16 3 3,.st 1 16 15] [2,3] (.r [.ln 17 4 3,.st 4 2 17] [2] .ret))))))⟩
theorem Zcea:tbl 127=some Zbq4:=Zd Tryz.func127
def Zz3:MCode :=.we [.m 8 4,.m 9 0,.ll 10 9,.b 11 .lss 8 10] [0,3,4,11] 11 0 (.seq (.block 1 (.reg [.m 14 3,.m 15 4,.m 16 0,.m 17 4,.ia 18 1 16 17,.l 19 18,.ia 20 1 14 15,.st 1 20 19] [0,3,4])) (.ic 12 4 13 [0,3,4]))
def Zbq5:MFun:=⟨1,22,[.tmp 2],.r [.mn 2] [0] (.r [.m 5 0,.ll 6 5,.o 7 (.mkslice 3 1 8 [.z] (.s 6) (.s 6)),.m 3 7] [0,3] (.seq (.r [.mk' 4 0] [0,3,4] (.block 0 (.loop [0,3,4] Zz3))) (.r [.m 21 3,.m 2 21] [2] .ret)))⟩
theorem Zceb:tbl 128=some Zbq5:=Zd Tryz.func128
def Zbq6:MFun:=⟨1,11,[.cell 2 (some 2)],.r [.bx 1 0,.o 2 (.al [.z,.z])] [1,2] (.r [.o 3 (.al [.z,.z])] [1,2,3] (.r [.fa 4 0 1,.l 5 4,.fa 6 0 3,.st 1 6 5] [1,2,3] (.r [.fa 7 1 1,.l 8 7,.fa 9 1 3,.st 1 9 8] [2,3] (.r [.ln 10 2 3,.st 2 2 10] [2] .ret))))⟩
theorem Zcec:tbl 129=some Zbq6:=Zd Tryz.func129
def Zbq7:MFun:=⟨1,12,[.cell 2 (some 2)],.r [.bx 1 0,.o 2 (.al [.z,.nil])] [1,2] (.r [.o 3 (.al [.z,.nil])] [1,2,3] (.r [.fa 4 0 1,.l 5 4,.fa 6 0 3,.st 1 6 5] [1,2,3] (.r [.fa 7 1 1,.l 8 7,.cl 9 185 [8],.fa 10 1 3,.st 1 10 9] [2,3] (.r [.ln 11 2 3,.st 2 2 11] [2] .ret))))⟩
theorem Zced:tbl 130=some Zbq7:=Zd Tryz.func130
def Zbq8:MFun:=⟨1,16,[.cell 2 (some 4)],.r [.bx 1 0,.o 2 (.al [.nil,.nil,.nil,.z])] [1,2] (.r [.o 3 (.al [.nil,.nil,.nil,.z])] [1,2,3] (.r [.fa 4 0 1,.ln 5 1 4,.cl 6 186 [5],.fa 7 0 3,.st 1 7 6] [1,2,3] (.r [.fa 8 1 1,.ln 9 2 8,.cl 10 187 [9],.fa 11 1 3,.st 2 11 10] [1,2,3] (.r [.fa 12 3 1,.l 13 12,.fa 14 3 3,.st 1 14 13] [2,3] (.r [.ln 15 4 3,.st 4 2 15] [2] .ret)))))⟩
theorem Zcee:tbl 131=some Zbq8:=Zd Tryz.func131
def Zbq9:MFun:=⟨2,21,[.tmp 4],.r [.bx 2 0,.bx 3 1,.mq 4 false] [2,3] (.wc [.fa 5 0 2,.l 6 5,.fa 7 0 3,.l 8 7,.b 9 .neq 6 8] [2,3,9] 9 (.r [.mq 4 false] [4] .ret) (.wc [.fa 10 1 2,.l 11 10,.fa 12 1 3,.l 13 12,.b 14 .neq 11 13] [2,3,14] 14 (.r [.mq 4 false] [4] .ret) (.wc [.fa 15 2 2,.l 16 15,.fa 17 2 3,.l 18 17,.cl 19 209 [16,18],.nt 20 19] [20] 20 (.r [.mq 4 false] [4] .ret) (.r [.mq 4 true] [4] .ret))))⟩
theorem Zcef:tbl 150=some Zbq9:=Zd Tryz.func150
def Zbra:MFun:=⟨2,26,[.tmp 4],.r [.bx 2 0,.bx 3 1,.mq 4 false] [2,3] (.wc [.fa 5 0 2,.l 6 5,.fa 7 0 3,.l 8 7,.b 9 .neq 6 8] [2,3,9] 9 (.r [.mq 4 false] [4] .ret) (.wc [.fa 10 1 2,.l 11 10,.fa 12 1 3,.l 13 12,.b 14 .neq 11 13] [2,3,14] 14 (.r [.mq 4 false] [4] .ret) (.wc [.fa 15 2 2,.l 16 15,.fa 17 2 3,.l 18 17,.b 19 .neq 16 18] [2,3,19] 19 (.r [.mq 4 false] [4] .ret) (.wc [.fa 20 3 2,.l 21 20,.fa 22 3 3,.l 23 22,.cl 24 210 [21,23],.nt 25 24] [25] 25 (.r [.mq 4 false] [4] .ret) (.r [.mq 4 true] [4] .ret)))))⟩
theorem Zceg:tbl 151=some Zbra:=Zd Tryz.func151
def Zz4:MCode :=.we [.m 11 5,.m 12 0,.ll 13 12,.b 14 .lss 11 13] [0,1,5,14] 14 0 (.seq (.block 1 (.seq (.drw [.m 17 0,.m 18 5,.ia 19 1 17 18,.l 20 19,.m 21 1,.m 22 5,.ia 23 1 21 22,.l 24 23,.b 25 .neq 20 24] [[],[],[0,1],[2],[],[],[4,5],[6],[3,7]] [0,1,5,25]) (.cond (.s 25) (.r [.mq 4 false] [4] .ret) .skip))) (.ic 15 5 16 [0,1,5]))
def Z9b:MFun:=⟨2,26,[.tmp 4],.r [.mq 4 false] [0,1] (.wc [.m 6 0,.ll 7 6,.m 8 1,.ll 9 8,.b 10 .neq 7 9] [0,1,10] 10 (.r [.mq 4 false] [4] .ret) (.seq (.r [.mk' 5 0] [0,1,5] (.block 0 (.loop [0,1,5] Zz4))) (.r [.mq 4 true] [4] .ret)))⟩
theorem Zceh:tbl 152=some Z9b:=Zd Tryz.func152
def Zbrb:MFun:=⟨2,15,[.tmp 4],.r [.bx 2 0,.bx 3 1,.mq 4 false] [2,3] (.wc [.fa 5 0 2,.l 6 5,.fa 7 0 3,.l 8 7,.b 9 .neq 6 8] [2,3,9] 9 (.r [.mq 4 false] [4] .ret) (.wc [.fa 10 1 2,.l 11 10,.fa 12 1 3,.l 13 12,.b 14 .neq 11 13] [14] 14 (.r [.mq 4 false] [4] .ret) (.r [.mq 4 true] [4] .ret)))⟩
theorem Zcei:tbl 153=some Zbrb:=Zd Tryz.func153
def Zbrc:MFun:=⟨2,16,[.tmp 4],.r [.bx 2 0,.bx 3 1,.mq 4 false] [2,3] (.wc [.fa 5 0 2,.l 6 5,.fa 7 0 3,.l 8 7,.b 9 .neq 6 8] [2,3,9] 9 (.r [.mq 4 false] [4] .ret) (.wc [.fa 10 1 2,.l 11 10,.fa 12 1 3,.l 13 12,.cl 14 211 [11,13],.nt 15 14] [15] 15 (.r [.mq 4 false] [4] .ret) (.r [.mq 4 true] [4] .ret)))⟩
theorem Zcej:tbl 154=some Zbrc:=Zd Tryz.func154
def Zbrd:MFun:=⟨2,22,[.tmp 4],.r [.bx 2 0,.bx 3 1,.mq 4 false] [2,3] (.wc [.fa 5 0 2,.ln 6 1 5,.fa 7 0 3,.ln 8 1 7,.cl 9 212 [6,8],.nt 10 9] [2,3,10] 10 (.r [.mq 4 false] [4] .ret) (.wc [.fa 11 1 2,.ln 12 2 11,.fa 13 1 3,.ln 14 2 13,.cl 15 213 [12,14],.nt 16 15] [2,3,16] 16 (.r [.mq 4 false] [4] .ret) (.wc [.fa 17 3 2,.l 18 17,.fa 19 3 3,.l 20 19,.b 21 .neq 18 20] [21] 21 (.r [.mq 4 false] [4] .ret) (.r [.mq 4 true] [4] .ret))))⟩
theorem Zcek:tbl 155=some Zbrd:=Zd Tryz.func155
def Zmf:MCode :=.we [.m 12 5,.m 13 0,.ll 14 13,.b 15 .lss 12 14] [0,1,5,15] 15 0 (.seq (.block 1 (.r [.m 18 0,.m 19 5,.ia 20 1 18 19,.l 21 20,.m 22 1,.cl 23 103 [21,22],.m 1 23] [0,1,5] (.r [.m 24 1,.bk 25 .lss 24 0] [0,1,5,25] (.cond (.s 25) (.r [.mk' 4 (-1)] [4] .ret) .skip)))) (.ic 16 5 17 [0,1,5]))
def Zbre:MFun:=⟨2,27,[.tmp 4],.r [.mk' 4 0] [0,1] (.r [.m 6 1,.m 7 0,.ll 8 7,.b 9 .sub 6 8,.m 1 9] [0,1] (.wc [.m 10 1,.bk 11 .lss 10 0] [0,1,11] 11 (.r [.mk' 4 (-1)] [4] .ret) (.seq (.r [.mk' 5 0] [0,1,5] (.block 0 (.loop [0,1,5] Zmf))) (.r [.m 26 1,.m 4 26] [4] .ret))))⟩
theorem Zcel:tbl 156=some Zbre:=Zd Tryz.func156
def Zmg:MCode :=.we [.m 12 5,.m 13 0,.ll 14 13,.b 15 .lss 12 14] [0,1,5,15] 15 0 (.seq (.block 1 (.r [.m 18 0,.m 19 5,.ia 20 3 18 19,.ln 21 3 20,.m 22 1,.cl 23 214 [21,22],.m 1 23] [0,1,5] (.r [.m 24 1,.bk 25 .lss 24 0] [0,1,5,25] (.cond (.s 25) (.r [.mk' 4 (-1)] [4] .ret) .skip)))) (.ic 16 5 17 [0,1,5]))
def Zbrf:MFun:=⟨2,27,[.tmp 4],.r [.mk' 4 0] [0,1] (.r [.m 6 1,.m 7 0,.ll 8 7,.b 9 .sub 6 8,.m 1 9] [0,1] (.wc [.m 10 1,.bk 11 .lss 10 0] [0,1,11] 11 (.r [.mk' 4 (-1)] [4] .ret) (.seq (.r [.mk' 5 0] [0,1,5] (.block 0 (.loop [0,1,5] Zmg))) (.r [.m 26 1,.m 4 26] [4] .ret))))⟩
theorem Zcem:tbl 157=some Zbrf:=Zd Tryz.func157
def Zmh:MCode :=.we [.m 12 5,.m 13 0,.ll 14 13,.b 15 .lss 12 14] [0,1,5,15] 15 0 (.seq (.block 1 (.r [.m 18 0,.m 19 5,.ia 20 2 18 19,.ln 21 2 20,.m 22 1,.cl 23 215 [21,22],.m 1 23] [0,1,5] (.r [.m 24 1,.bk 25 .lss 24 0] [0,1,5,25] (.cond (.s 25) (.r [.mk' 4 (-1)] [4] .ret) .skip)))) (.ic 16 5 17 [0,1,5]))
def Zbrg:MFun:=⟨2,27,[.tmp 4],.r [.mk' 4 0] [0,1] (.r [.m 6 1,.m 7 0,.ll 8 7,.b 9 .sub 6 8,.m 1 9] [0,1] (.wc [.m 10 1,.bk 11 .lss 10 0] [0,1,11] 11 (.r [.mk' 4 (-1)] [4] .ret) (.seq (.r [.mk' 5 0] [0,1,5] (.block 0 (.loop [0,1,5] Zmh))) (.r [.m 26 1,.m 4 26] [4] .ret))))⟩
theorem Zcen:tbl 158=some Zbrg:=Zd Tryz.func158
def Zbrh:MFun:=⟨2,12,[.tmp 4],.r [.bx 2 0,.mk' 4 0] [1,2] (.r [.fa 5 0 2,.l 6 5,.m 7 1,.cl 8 216 [6,7],.m 1 8] [1] (.wc [.m 9 1,.bk 10 .lss 9 0] [1,10] 10 (.r [.mk' 4 (-1)] [4] .ret) (.r [.m 11 1,.m 4 11] [4] .ret)))⟩
theorem Zceo:tbl 159=some Zbrh:=Zd Tryz.func159
def Zbri:MFun:=⟨2,18,[.tmp 4],.r [.bx 2 0,.mk' 4 0] [1,2] (.r [.fa 5 0 2,.l 6 5,.m 7 1,.cl 8 103 [6,7],.m 1 8] [1,2] (.wc [.m 9 1,.bk 10 .lss 9 0] [1,2,10] 10 (.r [.mk' 4 (-1)] [4] .ret) (.r [.fa 11 1 2,.l 12 11,.m 13 1,.cl 14 103 [12,13],.m 1 14] [1] (.wc [.m 15 1,.bk 16 .lss 15 0] [1,16] 16 (.r [.mk' 4 (-1)] [4] .ret) (.r [.m 17 1,.m 4 17] [4] .ret)))))⟩
theorem Zcep:tbl 160=some Zbri:=Zd Tryz.func160
def Zz5:MCode :=.we [.m 8 4,.m 9 0,.ll 10 9,.b 11 .lss 8 10] [0,3,4,11] 11 0 (.seq (.block 1 (.reg [.m 14 3,.m 15 4,.m 16 0,.m 17 4,.ia 18 1 16 17,.l 19 18,.cl 20 128 [19],.ia 21 1 14 15,.st 1 21 20] [0,3,4])) (.ic 12 4 13 [0,3,4]))
def Zbrj:MFun:=⟨1,23,[.tmp 2],.r [.mn 2] [0] (.r [.m 5 0,.ll 6 5,.o 7 (.mkslice 90 1 24 [.lst 1 []] (.s 6) (.s 6)),.m 3 7] [0,3] (.seq (.r [.mk' 4 0] [0,3,4] (.block 0 (.loop [0,3,4] Zz5))) (.r [.m 22 3,.m 2 22] [2] .ret)))⟩
theorem Zceq:tbl 183=some Zbrj:=Zd Tryz.func183
def Zz6:MCode :=.we [.m 8 4,.m 9 0,.ll 10 9,.b 11 .lss 8 10] [0,3,4,11] 11 0 (.seq (.block 1 (.reg [.m 14 3,.m 15 4,.m 16 0,.m 17 4,.ia 18 3 16 17,.ln 19 3 18,.cl 20 225 [19],.ia 21 3 14 15,.st 3 21 20] [0,3,4])) (.ic 12 4 13 [0,3,4]))
def Zbrk:MFun:=⟨1,23,[.tmp 2],.r [.mn 2] [0] (.r [.m 5 0,.ll 6 5,.o 7 (.mkslice 195 3 72 [.lst 1 [],.lst 1 [],.lst 1 []] (.s 6) (.s 6)),.m 3 7] [0,3] (.seq (.r [.mk' 4 0] [0,3,4] (.block 0 (.loop [0,3,4] Zz6))) (.r [.m 22 3,.m 2 22] [2] .ret)))⟩
theorem Zcer:tbl 184=some Zbrk:=Zd Tryz.func184
def Zz7:MCode :=.we [.m 8 4,.m 9 0,.ll 10 9,.b 11 .lss 8 10] [0,3,4,11] 11 0 (.seq (.block 1 (.reg [.m 14 3,.m 15 4,.m 16 0,.m 17 4,.ia 18 2 16 17,.ln 19 2 18,.cl 20 226 [19],.ia 21 2 14 15,.st 2 21 20] [0,3,4])) (.ic 12 4 13 [0,3,4]))
def Zbrl:MFun:=⟨1,23,[.tmp 2],.r [.mn 2] [0] (.r [.m 5 0,.ll 6 5,.o 7 (.mkslice 250 2 40 [.str ⟨#[]⟩,.lst 1 []] (.s 6) (.s 6)),.m 3 7] [0,3] (.seq (.r [.mk' 4 0] [0,3,4] (.block 0 (.loop [0,3,4] Zz7))) (.r [.m 22 3,.m 2 22] [2] .ret)))⟩
theorem Zces:tbl 185=some Zbrl:=Zd Tryz.func185
def Zbrm:MFun:=⟨1,9,[.cell 2 (some 1)],.r [.bx 1 0,.o 2 (.al [.nil])] [1,2] (.r [.o 3 (.al [.nil])] [1,2,3] (.r [.fa 4 0 1,.l 5 4,.cl 6 227 [5],.fa 7 0 3,.st 1 7 6] [2,3] (.r [.ln 8 1 3,.st 1 2 8] [2] .ret)))⟩
theorem Zcet:tbl 186=some Zbrm:=Zd Tryz.func186
def Zbrn:MFun:=⟨1,13,[.cell 2 (some 2)],.r [.bx 1 0,.o 2 (.al [.nil,.nil])] [1,2] (.r [.o 3 (.al [.nil,.nil])] [1,2,3] (.r [.fa 4 0 1,.l 5 4,.cl 6 128 [5],.fa 7 0 3,.st 1 7 6] [1,2,3] (.r [.fa 8 1 1,.l 9 8,.cl 10 128 [9],.fa 11 1 3,.st 1 11 10] [2,3] (.r [.ln 12 2 3,.st 2 2 12] [2] .ret))))⟩
theorem Zceu:tbl 187=some Zbrn:=Zd Tryz.func187
def Zz8:MCode :=.we [.m 11 5,.m 12 0,.ll 13 12,.b 14 .lss 11 13] [0,1,5,14] 14 0 (.seq (.block 1 (.seq (.drw [.m 17 0,.m 18 5,.ia 19 1 17 18,.l 20 19,.m 21 1,.m 22 5,.ia 23 1 21 22,.l 24 23,.cl 25 152 [20,24],.nt 26 25] [[],[],[0,1],[2],[],[],[4,5],[6],[3,7],[8]] [0,1,5,26]) (.cond (.s 26) (.r [.mq 4 false] [4] .ret) .skip))) (.ic 15 5 16 [0,1,5]))
def Z9c:MFun:=⟨2,27,[.tmp 4],.r [.mq 4 false] [0,1] (.wc [.m 6 0,.ll 7 6,.m 8 1,.ll 9 8,.b 10 .neq 7 9] [0,1,10] 10 (.r [.mq 4 false] [4] .ret) (.seq (.r [.mk' 5 0] [0,1,5] (.block 0 (.loop [0,1,5] Zz8))) (.r [.mq 4 true] [4] .ret)))⟩
theorem Zcev:tbl 209=some Z9c:=Zd Tryz.func209
def Zz9:MCode :=.we [.m 11 5,.m 12 0,.ll 13 12,.b 14 .lss 11 13] [0,1,5,14] 14 0 (.seq (.block 1 (.seq (.drw [.m 17 0,.m 18 5,.ia 19 3 17 18,.ln 20 3 19,.m 21 1,.m 22 5,.ia 23 3 21 22,.ln 24 3 23,.cl 25 249 [20,24],.nt 26 25] [[],[],[0,1],[2],[],[],[4,5],[6],[3,7],[8]] [0,1,5,26]) (.cond (.s 26) (.r [.mq 4 false] [4] .ret) .skip))) (.ic 15 5 16 [0,1,5]))
def Z9d:MFun:=⟨2,27,[.tmp 4],.r [.mq 4 false] [0,1] (.wc [.m 6 0,.ll 7 6,.m 8 1,.ll 9 8,.b 10 .neq 7 9] [0,1,10] 10 (.r [.mq 4 false] [4] .ret) (.seq (.r [.mk' 5 0] [0,1,5] (.block 0 (.loop [0,1,5] Zz9))) (.r [.mq 4 true] [4] .ret)))⟩
theorem Zcew:tbl 210=some Z9d:=Zd Tryz.func210
def Z0a:MCode :=.we [.m 11 5,.m 12 0,.ll 13 12,.b 14 .lss 11 13] [0,1,5,14] 14 0 (.seq (.block 1 (.seq (.drw [.m 17 0,.m 18 5,.ia 19 2 17 18,.ln 20 2 19,.m 21 1,.m 22 5,.ia 23 2 21 22,.ln 24 2 23,.cl 25 250 [20,24],.nt 26 25] [[],[],[0,1],[2],[],[],[4,5],[6],[3,7],[8]] [0,1,5,26]) (.cond (.s 26) (.r [.mq 4 false] [4] .ret) .skip))) (.ic 15 5 16 [0,1,5]))
def Z9e:MFun:=⟨2,27,[.tmp 4],.r [.mq 4 false] [0,1] (.wc [.m 6 0,.ll 7 6,.m 8 1,.ll 9 8,.b 10 .neq 7 9] [0,1,10] 10 (.r [.mq 4 false] [4] .ret) (.seq (.r [.mk' 5 0] [0,1,5] (.block 0 (.loop [0,1,5] Z0a))) (.r [.mq 4 true] [4] .ret)))⟩
theorem Zcex:tbl 211=some Z9e:=Zd Tryz.func211
def Zbro:MFun:=⟨2,11,[.tmp 4],.r [.bx 2 0,.bx 3 1,.mq 4 false] [2,3] (.wc [.fa 5 0 2,.l 6 5,.fa 7 0 3,.l 8 7,.cl 9 251 [6,8],.nt 10 9] [10] 10 (.r [.mq 4 false] [4] .ret) (.r [.mq 4 true] [4] .ret))⟩
theorem Zcey:tbl 212=some Zbro:=Zd Tryz.func212
def Zbrp:MFun:=⟨2,17,[.tmp 4],.r [.bx 2 0,.bx 3 1,.mq 4 false] [2,3] (.wc [.fa 5 0 2,.l 6 5,.fa 7 0 3,.l 8 7,.cl 9 152 [6,8],.nt 10 9] [2,3,10] 10 (.r [.mq 4 false] [4] .ret) (.wc [.fa 11 1 2,.l 12 11,.fa 13 1 3,.l 14 13,.cl 15 152 [12,14],.nt 16 15] [16] 16 (.r [.mq 4 false] [4] .ret) (.r [.mq 4 true] [4] .ret)))⟩
theorem Zcez:tbl 213=some Zbrp:=Zd Tryz.func213
def Zbrq:MFun:=⟨2,24,[.tmp 4],.r [.bx 2 0,.mk' 4 0] [1,2] (.r [.fa 5 0 2,.l 6 5,.m 7 1,.cl 8 103 [6,7],.m 1 8] [1,2] (.wc [.m 9 1,.bk 10 .lss 9 0] [1,2,10] 10 (.r [.mk' 4 (-1)] [4] .ret) (.r [.fa 11 1 2,.l 12 11,.m 13 1,.cl 14 156 [12,13],.m 1 14] [1,2] (.wc [.m 15 1,.bk 16 .lss 15 0] [1,2,16] 16 (.r [.mk' 4 (-1)] [4] .ret) (.r [.fa 17 2 2,.l 18 17,.m 19 1,.cl 20 103 [18,19],.m 1 20] [1] (.wc [.m 21 1,.bk 22 .lss 21 0] [1,22] 22 (.r [.mk' 4 (-1)] [4] .ret) (.r [.m 23 1,.m 4 23] [4] .ret)))))))⟩
theorem Zce0:tbl 214=some Zbrq:=Zd Tryz.func214
def Zbrr:MFun:=⟨2,19,[.tmp 4],.r [.bx 2 0,.mk' 4 0] [1,2] (.r [.m 5 1,.fa 6 0 2,.l 7 6,.o 8 (.len true (.s 7)),.b 9 .sub 5 8,.m 1 9] [1,2] (.wc [.m 10 1,.bk 11 .lss 10 0] [1,2,11] 11 (.r [.mk' 4 (-1)] [4] .ret) (.r [.fa 12 1 2,.l 13 12,.m 14 1,.cl 15 103 [13,14],.m 1 15] [1] (.wc [.m 16 1,.bk 17 .lss 16 0] [1,17] 17 (.r [.mk' 4 (-1)] [4] .ret) (.r [.m 18 1,.m 4 18] [4] .ret)))))⟩
theorem Zce1:tbl 215=some Zbrr:=Zd Tryz.func215
def Zbrs:MFun:=⟨2,12,[.tmp 4],.r [.mk' 4 0] [0,1] (.r [.m 5 1,.m 6 0,.ll 7 6,.b 8 .sub 5 7,.m 1 8] [1] (.wc [.m 9 1,.bk 10 .lss 9 0] [1,10] 10 (.r [.mk' 4 (-1)] [4] .ret) (.r [.m 11 1,.m 4 11] [4] .ret)))⟩
theorem Zce2:tbl 216=some Zbrs:=Zd Tryz.func216
def Zbrt:MFun:=⟨1,17,[.cell 2 (some 3)],.r [.bx 1 0,.o 2 (.al [.nil,.nil,.nil])] [1,2] (.r [.o 3 (.al [.nil,.nil,.nil])] [1,2,3] (.r [.fa 4 0 1,.l 5 4,.cl 6 128 [5],.fa 7 0 3,.st 1 7 6] [1,2,3] (.r [.fa 8 1 1,.l 9 8,.cl 10 183 [9],.fa 11 1 3,.st 1 11 10] [1,2,3] (.r [.fa 12 2 1,.l 13 12,.cl 14 128 [13],.fa 15 2 3,.st 1 15 14] [2,3] (.r [.ln 16 3 3,.st 3 2 16] [2] .ret)))))⟩
theorem Zce3:tbl 225=some Zbrt:=Zd Tryz.func225
def Zbru:MFun:=⟨1,12,[.cell 2 (some 2)],.r [.bx 1 0,.o 2 (.al [.str ⟨#[]⟩,.nil])] [1,2] (.r [.o 3 (.al [.str ⟨#[]⟩,.nil])] [1,2,3] (.r [.fa 4 0 1,.l 5 4,.fa 6 0 3,.st 1 6 5] [1,2,3] (.r [.fa 7 1 1,.l 8 7,.cl 9 128 [8],.fa 10 1 3,.st 1 10 9] [2,3] (.r [.ln 11 2 3,.st 2 2 11] [2] .ret))))⟩
theorem Zce4:tbl 226=some Zbru:=Zd Tryz.func226
def Z0b:MCode :=.we [.m 8 4,.m 9 0,.ll 10 9,.b 11 .lss 8 10] [0,3,4,11] 11 0 (.seq (.block 1 (.reg [.m 14 3,.m 15 4,.m 16 0,.m 17 4,.ia 18 3 16 17,.ln 19 3 18,.cl 20 258 [19],.ia 21 3 14 15,.st 3 21 20] [0,3,4])) (.ic 12 4 13 [0,3,4]))
def Zbrv:MFun:=⟨1,23,[.tmp 2],.r [.mn 2] [0] (.r [.m 5 0,.ll 6 5,.o 7 (.mkslice 287 3 24 [.z,.z,.z] (.s 6) (.s 6)),.m 3 7] [0,3] (.seq (.r [.mk' 4 0] [0,3,4] (.block 0 (.loop [0,3,4] Z0b))) (.r [.m 22 3,.m 2 22] [2] .ret)))⟩
theorem Zce5:tbl 227=some Zbrv:=Zd Tryz.func227
def Zbrw:MFun:=⟨2,23,[.tmp 4],.r [.bx 2 0,.bx 3 1,.mq 4 false] [2,3] (.wc [.fa 5 0 2,.l 6 5,.fa 7 0 3,.l 8 7,.cl 9 152 [6,8],.nt 10 9] [2,3,10] 10 (.r [.mq 4 false] [4] .ret) (.wc [.fa 11 1 2,.l 12 11,.fa 13 1 3,.l 14 13,.cl 15 209 [12,14],.nt 16 15] [2,3,16] 16 (.r [.mq 4 false] [4] .ret) (.wc [.fa 17 2 2,.l 18 17,.fa 19 2 3,.l 20 19,.cl 21 152 [18,20],.nt 22 21] [22] 22 (.r [.mq 4 false] [4] .ret) (.r [.mq 4 true] [4] .ret))))⟩
theorem Zce6:tbl 249=some Zbrw:=Zd Tryz.func249
def Zbrx:MFun:=⟨2,16,[.tmp 4],.r [.bx 2 0,.bx 3 1,.mq 4 false] [2,3] (.wc [.fa 5 0 2,.l 6 5,.fa 7 0 3,.l 8 7,.b 9 .neq 6 8] [2,3,9] 9 (.r [.mq 4 false] [4] .ret) (.wc [.fa 10 1 2,.l 11 10,.fa 12 1 3,.l 13 12,.cl 14 152 [11,13],.nt 15 14] [15] 15 (.r [.mq 4 false] [4] .ret) (.r [.mq 4 true] [4] .ret)))⟩
theorem Zce7:tbl 250=some Zbrx:=Zd Tryz.func250
def Z0c:MCode :=.we [.m 11 5,.m 12 0,.ll 13 12,.b 14 .lss 11 13] [0,1,5,14] 14 0 (.seq (.block 1 (.seq (.drw [.m 17 0,.m 18 5,.ia 19 3 17 18,.ln 20 3 19,.m 21 1,.m 22 5,.ia 23 3 21 22,.ln 24 3 23,.cl 25 281 [20,24],.nt 26 25] [[],[],[0,1],[2],[],[],[4,5],[6],[3,7],[8]] [0,1,5,26]) (.cond (.s 26) (.r [.mq 4 false] [4] .ret) .skip))) (.ic 15 5 16 [0,1,5]))
def Z9f:MFun:=⟨2,27,[.tmp 4],.r [.mq 4 false] [0,1] (.wc [.m 6 0,.ll 7 6,.m 8 1,.ll 9 8,.b 10 .neq 7 9] [0,1,10] 10 (.r [.mq 4 false] [4] .ret) (.seq (.r [.mk' 5 0] [0,1,5] (.block 0 (.loop [0,1,5] Z0c))) (.r [.mq 4 true] [4] .ret)))⟩
theorem Zce8:tbl 251=some Z9f:=Zd Tryz.func251
def Zbry:MFun:=⟨1,14,[.cell 2 (some 3)],.r [.bx 1 0,.o 2 (.al [.z,.z,.z])] [1,2] (.r [.o 3 (.al [.z,.z,.z])] [1,2,3] (.r [.fa 4 0 1,.l 5 4,.fa 6 0 3,.st 1 6 5] [1,2,3] (.r [.fa 7 1 1,.l 8 7,.fa 9 1 3,.st 1 9 8] [1,2,3] (.r [.fa 10 2 1,.l 11 10,.fa 12 2 3,.st 1 12 11] [2,3] (.r [.ln 13 3 3,.st 3 2 13] [2] .ret)))))⟩
theorem Zce9:tbl 258=some Zbry:=Zd Tryz.func258
def Zbrz:MFun:=⟨2,20,[.tmp 4],.r [.bx 2 0,.bx 3 1,.mq 4 false] [2,3] (.wc [.fa 5 0 2,.l 6 5,.fa 7 0 3,.l 8 7,.b 9 .neq 6 8] [2,3,9] 9 (.r [.mq 4 false] [4] .ret) (.wc [.fa 10 1 2,.l 11 10,.fa 12 1 3,.l 13 12,.b 14 .neq 11 13] [2,3,14] 14 (.r [.mq 4 false] [4] .ret) (.wc [.fa 15 2 2,.l 16 15,.fa 17 2 3,.l 18 17,.b 19 .neq 16 18] [19] 19 (.r [.mq 4 false] [4] .ret) (.r [.mq 4 true] [4] .ret))))⟩
theorem Zcfa:tbl 281=some Zbrz:=Zd Tryz.func281
end
end Go.Proofs.YtdioodopdlpinaaGreat
