/-
  Parts of the proofs for this seat: LS.
-/
import Derived.Test.YtcfaekfjkeobhaaGreatP19
set_option linter.unusedSectionVars false
set_option linter.unusedSimpArgs false
set_option linter.unusedVariables false
set_option maxRecDepth 100000
set_option maxHeartbeats 4000000
namespace Go.Proofs.YtcfaekfjkeobhaaGreat
open Go.AM
theorem Zb2c(l:List Int)(hl:l.length<=4294967296):∀i,i<=l.length->∀out:List Int,out.length<=i->Zl7 out l l l.length i=if Zbc l=true then some (.own 0,[.arr Z4 1 true ((out++(l.drop i).map Zbo).map ic)])else some (.t .nil,[]):=by
 refine down _ ?_ ?_
 .intro out _;rcases tf (Zbc l)with e|e
  .rw[e];refine Z6p _ _ _ _ _ _ ?_;rw[if_neg (by omega)];exact⟨_,Zyo l (by omega),by rw[e,if_neg (by simp)]⟩
  .rw[e,if_pos rfl];refine Z6p _ _ _ _ _ _ ?_;rw[if_neg (by omega)];exact⟨_,Zyo l (by omega),by rw[e,if_pos rfl];simp⟩
 .intro i hi ih out ho;have h4:=Zw (i:=i) (by omega);have ih:=ih (out++[Zbo l[i]]) (by simp;omega);simp only[Yq,Yr]at ih;have go:∀r,Zl7 (out++[Zbo l[i]]) l l l.length ((i:Int)+1)=some r->Zl7 out l l l.length i=some r:=by
   intro r hr;refine Z6p _ _ _ _ _ _ ?_;rw[if_pos (by omega)];refine⟨by omega,l[i],by rw[Yg];exact Ya hi,_,Zb1j _,by omega,?_⟩;rw[show w ((i:Int)+1)=(i:Int)+1 from h4];exact hr
  rw[Yi hi,Y2];rcases tf (Zbc l)with e|e
  .rw[e]at ih|-;exact go _ (by simpa using ih)
  .rw[e,if_pos rfl]at ih|-;exact go _ (by simpa using ih)
def Zbd(l:List Int):List Int:=l.map Zbo
theorem Zblx(l:List Int)(hl:l.length<=4294967296):Ziq l=if Zbc l=true then some (.own 0,[.arr Z4 1 true ((Zbd l).map ic)])else some (.t .nil,[]):=by
 have b:=Zb2c l hl 0 (Yd _) [] (by simp);rcases tf (Zbc l)with e|e
 .rw[e]at b|-;exact Zbkd _ _ b
 .rw[e,if_pos rfl]at b|-;exact Zbkd _ _ (by simpa[Zbd]using b)
theorem Zb2d(l:List Int)(hl:l.length<=4294967296)(h:Zbc l=true):∀i,i<=l.length->∀out:List Int,out.length<=i->Zrf out l i=some (.own 0,[.arr Z4 1 true ((out++(l.drop i).map Zbo).map ic)]):=by
 refine down _ ?_ ?_
 .intro out _;refine Z6a _ _ _ _ ?_;rw[if_neg (by omega)];simp
 .intro i hi ih out ho;have h4:=Zw (i:=i) (by omega);have ih:=ih (out++[Zbo l[i]]) (by simp;omega);simp only[Yq,Yr]at ih;refine Z6a _ _ _ _ ?_;rw[if_pos (by omega)];refine⟨_,Zyn l (by omega),?_⟩;rw[h,if_pos rfl];refine⟨by omega,l[i],by rw[Yg];exact Ya hi,_,Zb1k _,by omega,?_⟩;rw[show w ((i:Int)+1)=(i:Int)+1 from h4,Yi hi,Y2];simpa using ih
theorem Zyy(l:List Int)(hl:l.length<=4294967296):Ze0 l=some (.own 0,[.arr Z4 1 true ((if Zbc l=true then Zbd l else[]).map ic)]):=by
 rcases tf (Zbc l)with e|e
 .rw[e];refine Zbij _ _ (Z6a _ _ _ _ ?_);by_cases h:(0:Int)<l.length
  .rw[if_pos h];exact⟨_,Zyn l (by omega),by rw[e,if_neg (by simp)];rfl⟩
  .rw[if_neg h];rfl
 .have b:=Zb2d l hl e 0 (Yd _) [] (by simp);rw[e,if_pos rfl];exact Zbij _ _ (by simpa[Zbd]using b)
theorem Zb2e(m:Ze)(hm:LeM m)(q:Zc)(hq:LeQ q)(p:Plan)(l:List Int)(hl:l.length<=4294967296)(h:Zbc l=true):Zs2 m q p l=some (I (Zcm m q.Zf q.Atoms p.Steps (Zbd l)),[]):=by
 have b:=Zblx l hl;rw[h,if_pos rfl]at b;exact Zbzn _ _ _ _ _ (.inl ⟨_,b,_,Z61 m hm q hq p (Zbd l) (by simp[Zbd];omega),rfl⟩)
theorem Zbly(m:Ze)(hm:LeM m)(q:Zc)(hq:LeQ q)(p:Plan)(l:List Int)(hl:l.length<=4294967296)(h:Zbc l=true):Zoa m q p l=some (I (Zcm m q.Zf q.Atoms p.Steps (Zbd l)),[]):=by
 have b:=Zyy l hl;rw[h,if_pos rfl]at b;exact Zbxo _ _ _ _ _ ⟨_,b,_,Zb2b m hm q hq p (Zbd l) (by simp[Zbd];omega),rfl⟩
abbrev Ze6(q:Zc)(m:Int):List Int:=varL m q.Atoms q.Zf.toNat
theorem Zblz(q:Zc)(hq:LeQ q)(hv:Zn q.Zf q.Atoms=true)(m:Int)(hm:MQ q.Atoms m):Zit q m=some (.own 0,[.arr Z4 1 true ((Ze6 q m).map ic)]):=by
 refine Zbzy _ _ _ ⟨_,Zblk q hq m,?_⟩
 have:inR m 0 (Zx q.Zf q.Atoms)=true:=by rw[Zg8 hv];simp[inR];have:=hm.1;have:=hm.2;omega
 rw[hv,this,if_pos (by rfl)];exact⟨_,Ztz q m hq hv,rfl⟩
def Zha(q:Zc)(a b:Int):List Int:=(Ze6 q a).filter (has (Ze6 q b))
theorem Zt4(q:Zc)(hv:Zn q.Zf q.Atoms=true)(m:Int):(Ze6 q m).length<=4:=by
 have:=Zm6 m q.Atoms q.Zf.toNat;have:=Zf1 hv;unfold Ze6;omega
theorem Zb2f(q:Zc)(hq:LeQ q)(hv:Zn q.Zf q.Atoms=true)(a b:Int)(ha:MQ q.Atoms a)(hb:MQ q.Atoms b):Zmb q a b=some (.own 0,[.arr Z4 1 true ((Zha q a b).map ic)]):=by
 have l1:=Zt4 q hv a;have l2:=Zt4 q hv b;exact Zbzz _ _ _ _ (.inl ⟨_,Zblz q hq hv a ha,.inl ⟨_,Zblz q hq hv b hb,_,x_both _ _ (by omega) (by omega),rfl⟩⟩)
theorem l_l7List(p:Nat->Bool):∀k:Nat,k<=4->∀out:List Int,out.length<=k->Zny out (Zbj p) k=some (.own 0,[.arr Z4 1 true ((out++((List.range' k (4-k)).filter p).map (λu:Nat=>(u:Int))).map ic)]):=by
 refine down _ ?_ ?_
 .intro out _;refine Zbiw _ _ _ _ ?_;rw[if_neg (by omega)];simp
 .intro k hk ih out ho;have wk':w ((k:Int)+1)=(k:Int)+1:=Z7 (by omega) (by omega);have hb:=at_bit p (v:=(k:Int)) (by simp[inR];omega);rw[Yg]at hb;refine Zbiw _ _ _ _ ?_;rw[if_pos (by omega),show 4-k=(4-(k+1))+1 by omega,Yc1,Yct,wk'];refine⟨by omega,?_⟩;rcases tf (p k)with e|e
  .have ih:=ih out (by omega);rw[if_neg (λhc=>by rw[hb.1 hc]at e;cases e),e,if_neg (by simp)];simpa using ih
  .have ih:=ih (out++[(k:Int)]) (by simp;omega);rw[if_pos (hb.2 e),e,if_pos rfl];exact⟨by omega,by simpa using ih⟩
theorem vars4(q:Zc)(hv:Zn q.Zf q.Atoms=true)(m:Int):((List.range' 0 4).filter (pV m q.Atoms)).map (λu:Nat=>(u:Int))=Ze6 q m:=by
 have hn:=Zf1 hv;have e:List.range' 0 4=List.range q.Zf.toNat++List.range' q.Zf.toNat (4-q.Zf.toNat):=by
  have h:=List.range'_append_1 (s:=0) (m:=q.Zf.toNat) (n:=4-q.Zf.toNat);rw[Yp]at h;rw[List.range_eq_range',h];congr 1;omega
 unfold Ze6 varL;rw[e,Ydd];have e2:(List.range' q.Zf.toNat (4-q.Zf.toNat)).filter (pV m q.Atoms)=[]:=by
  rw[Ycz];intro u hu hp;have:=pV_lt hv hp;rw[List.mem_range'_1]at hu;omega
 rw[e2];simp
theorem Zbl0(q:Zc)(hq:LeQ q)(hv:Zn q.Zf q.Atoms=true)(m:Int)(hm:MQ q.Atoms m):Zrp q m=some (.own 0,[.arr Z4 1 true ((Ze6 q m).map ic)]):=by
 have b:=l_l7List (pV m q.Atoms) 0 (by omega) [] (by simp);rw[show 4-0=4 from rfl,vars4 q hv m]at b;refine Zbwx _ _ _ ⟨_,Zbll q hq m,?_⟩
 have:inR m 0 (Zx q.Zf q.Atoms)=true:=by rw[Zg8 hv];simp[inR];have:=hm.1;have:=hm.2;omega
 rw[hv,this,if_pos (by rfl)];exact⟨_,Zpm q m hq (Zk4 hv),_,Zbww _ _ (by simpa using b),rfl⟩
theorem Zb2g(x y:List Int)(hy:Le y)(hx:x.length<=1000):∀i,i<=x.length->Znz ((x.take i).filter (has y)) x y i=some (.own 0,[.arr Z4 1 true ((x.filter (has y)).map ic)]):=by
 refine down _ ?_ ?_
 .refine Zbix _ _ _ _ _ ?_;rw[if_neg (by omega)];simp
 .intro i hi ih;have h4:=Zw (i:=i) (by omega);have e4:((x.take i).filter (has y)).length+1<=68719476736:=by
   have:=Ybr (has y) (x.take i);simp at this;omega
  rw[Z0w _ hi]at ih;refine Zbix _ _ _ _ _ ?_;rw[if_pos (by omega)];refine⟨by omega,x[i],by rw[Yg];exact Ya hi,_,Zbk6 y x[i] hy,?_⟩;rw[show w ((i:Int)+1)=(i:Int)+1 from h4];rcases tf (has y x[i])with e|e
  .rw[e,if_neg (by simp)];rw[e]at ih;simpa using ih
  .rw[e,if_pos rfl];rw[e]at ih;exact⟨e4,by simpa using ih⟩
theorem Zb2h(q:Zc)(hq:LeQ q)(hv:Zn q.Zf q.Atoms=true)(a b:Int)(ha:MQ q.Atoms a)(hb:MQ q.Atoms b):Zlk q a b=some (.own 0,[.arr Z4 1 true ((Zha q a b).map ic)]):=by
 have l1:=Zt4 q hv a;have l2:=Zt4 q hv b;have c:=Zb2g (Ze6 q a) (Ze6 q b) (by omega) (by omega) 0 (Yd _);exact Zbwy _ _ _ _ ⟨_,Zbl0 q hq hv a ha,_,Zbl0 q hq hv b hb,by simpa[Zha]using c⟩
end Go.Proofs.YtcfaekfjkeobhaaGreat
