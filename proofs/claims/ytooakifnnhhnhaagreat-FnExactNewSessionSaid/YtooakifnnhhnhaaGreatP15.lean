/-
  Parts of the proofs for this seat: CPW CPS SI KI KS SX.
-/
import Derived.BigQuiet
import Derived.BigRegion
import Derived.Deep.QuietTactic
import Derived.Lib.SlicesCompact
import Derived.Shelf.SlSortCmp.NoneTotal
import Derived.Shelf.Slices.CompactI
import Derived.Shelf.Slices.In.SortNone
import Derived.Shelf.Sort.Plain
import Derived.Test.YtooakifnnhhnhaaGreatP12
import Derived.Test.YtooakifnnhhnhaaGreatP14
set_option linter.unusedSimpArgs false
set_option linter.unusedVariables false
set_option maxRecDepth 100000
set_option maxHeartbeats 4000000
namespace Go.Proofs.YtooakifnnhhnhaaGreat
open Go.RowKit Go.AM Go.Lib Go.Sort
theorem Zbfe{α:Type}[Inhabited α](enc:α->Value)(w:World)(c off n:Nat)(d:Array α){k:Nat}(cc:k≠c):(putRow enc (Sort.ahead w n) c off d).heap[k]?=w.heap[k]?:=by
 show(w.heap.modify c (onCells (putCells enc off d)))[k]?=_;rw[Ycs,if_neg (Ne.symm cc)]
theorem Zto{w:World}{g q n:Nat}{d:Array (El w g)}:(putRow El.enc (Sort.ahead w q) g 0 d).drewN n=putRow El.enc (Sort.ahead w (q+n)) g 0 d:=by
 simp[putRow,mapBlock,Sort.ahead,World.drewN,Yci]
theorem Zbff{w wr:World}{g:Nat}(c:∀k,k≠g->wr.heap[k]?=w.heap[k]?)(x y:El w g)(n:Nat) :
  Calls Tryz.prog 273 #[x.enc,y.enc] (wr.drewN n) λr w'=>r=.returned (.bool (decide (x.row=y.row)))/\∃p,w'=(wr.drewN n).drewN p:=by
 have hx:=Zsn (W:=wr.drewN n) x.2.1 λk hk=>c k (x.2.2.1 k hk)
 have hy:=Zsn (W:=wr.drewN n) y.2.1 λk hk=>c k (y.2.2.1 k hk)
 have h4:=x.2.2.2;have h5:=y.2.2.2;exact eqf_walk x.enc y.enc x.row y.row _ hx hy (by unfold El.row;omega) (by unfold El.row;omega)
theorem El.one{w:World}{g:Nat}(x:El w g):x.enc.oneCell'=true:=x.2.1.one
theorem put_at{w w':World}{g q kk:Nat}{dk:Array (El w g)}{z:El w g}{x:Value}(hk:kk<dk.size)(hw:w'=putRow El.enc (Sort.ahead w q) g 0 dk)(hx:El.enc z=x):w'.setCell ⟨g,kk,none⟩ x=putRow El.enc (Sort.ahead w q) g 0 (dk.setIfInBounds kk z):=by
 subst hw;subst hx;have:=putRow_set El.enc (Sort.ahead w q) g 0 dk kk z hk
 rwa [Yj]at this
theorem put_end{w wr:World}{g q kk:Nat}{d dk:Array (El w g)}(f:El w g->List Int)(I:CInv f d d.size kk dk)(z:El w g)(hw:wr=putRow El.enc (Sort.ahead w q) g 0 dk):wr.setCells g kk (List.replicate (d.size-kk) z.enc)=putRow El.enc (Sort.ahead w q) g 0 (nb f d.toList++List.replicate (d.size-kk) z).toArray:=by
 subst hw;have hs:=I.size f (Yh _);have hl:=I.lt;have:=putRow_setCells El.enc (Sort.ahead w q) g 0 (List.replicate (d.size-kk) z) dk kk (by simp;omega);rw[Yj,Yc1]at this;rw[this];congr 1;rw[<-I.fill f z]
theorem cpt_nil(w:World):Calls Tryz.prog 272 #[.slice none 0 0,.func (.func 273) #[] #[]] w λe w'=>e=.returned (.slice none 0 0)/\w'=w:=by
 have mixed:Tryz.prog.follows Departure.mixedOrders=true:=by kernel_rfl
 go_enter Tryz.func272,Tryz.ntmps272
 go_wp2
 go_ret
 exact⟨rfl,rfl⟩
theorem cpt_walk{w:World}{g:Nat}(cap:Nat)(d:Array (El w g))(hH:Holds El.enc w g 0 d)(cc:d.size<=4096)(c:d.size<=cap) :
  Calls Tryz.prog 272 #[.slice (some ⟨g,0,none⟩) d.size cap,.func (.func 273) #[] #[]] w λe w'=>e=.returned (.slice (some ⟨g,0,none⟩) (nb El.row d.toList).length cap)/\
   ∃q,w'=putRow El.enc (Sort.ahead w q) g 0 (nb El.row d.toList++List.replicate (d.size-(nb El.row d.toList).length) default).toArray:=by
 have mixed:Tryz.prog.follows Departure.mixedOrders=true:=by kernel_rfl
 have HS:Aside (∀q,nb El.row d.toList=d.toList->(nb El.row d.toList).length=d.size/\putRow El.enc (Sort.ahead w q) g 0 d=putRow El.enc (Sort.ahead w q) g 0 (nb El.row d.toList++List.replicate (d.size-(nb El.row d.toList).length) default).toArray):=by
  intro q e;rw[e];simp
 have HH:Aside (Holds El.enc w g 0 d):=hH;clear hH;by_cases h2:d.size<2
 .go_enter Tryz.func272,Tryz.ntmps272
  go_wp2
  go_ret
  obtain⟨e1,e2⟩:=HS.out 0 (nb_one El.row (by omega));refine⟨by rw[e1];rfl,0,?_⟩;rw[<-e2];exact(putRow_self El.enc w g 0 d HH.out).symm
 .go_enter Tryz.func272,Tryz.ntmps272
  go_wp2
  go_loopg [5] d.size (λgg s5 wr=>∃k q:Nat,1<=k/\k<=d.size/\d.size-k<=gg/\s5=.int .i64 k/\Aside (wr=putRow El.enc (Sort.ahead w q) g 0 d)/\Aside (nb El.row (d.toList.take k)=d.toList.take k))
  case atStart=>exact⟨1,0,Yh _,by omega,by omega,rfl,(putRow_self El.enc w g 0 d HH.out).symm,nb_one1 El.row d⟩
  case round =>
   obtain⟨k,q,hk1,hk,hg,rfl,W,A⟩:=hrel;by_cases hlt:k<d.size
   .have hHk:Holds El.enc wr g 0 d:=by rw[W.out];exact holds_putRow El.enc _ g 0 d d (holds_ahead El.enc w q g 0 d HH.out) rfl
    obtain⟨kp,rfl⟩:∃kp,k=kp+1:=⟨k-1,by omega⟩;obtain⟨c1,f1⟩:=hHk (kp+1) hlt;obtain⟨c0,f0⟩:=hHk kp (by omega);have hcall:=Zbff (w:=w) (wr:=wr) (g:=g) (λk hk=>by rw[W.out];exact Zbfe _ _ _ _ _ _ hk) d[kp+1]! d[kp]!;simp only[Yj]at c1 c0 f1 f0;clear hHk;have hwp:IntKind.i64.wrap (kp:Int)=(kp:Int):=by rw[IntKind.wrap_i64];omega
    have jz:(kp:Int)+1<(d.size:Int):=by omega
    have jz1:(kp:Int)<(d.size:Int):=by omega
    have p0:(0:Int)<=(kp:Int)+1:=by omega
    have e0:((kp:Int)+1).toNat=kp+1:=by omega
    generalize El.enc d[kp+1]! = x at c1 hcall;generalize El.enc d[kp]! = y at c0 hcall;by_cases hdup:El.row d[kp+1]! = El.row d[kp]!
    .rw[decide_eq_true hdup]at hcall;have DD:Aside (El.row d[kp+1]! = El.row d[kp]!):=hdup;clear hdup
     go_wp2_with fail
     go_quiet (refine Calls.quiet_of (hcall _))
     go_wp2_with fail
     have W3:Aside (wr.drewN nq=putRow El.enc (Sort.ahead w (q+nq)) g 0 d):=by show _=_;rw[W.out,Zto]
     clear hcall c0 c1 f0 f1;generalize wr.drewN nq=wz at W3|-
     go_loopg [5,7] d.size (λgg s5 s7 wr=>∃(kk k2 q2:Nat) (dk:Array (El w g)),s5=.int .i64 kk/\s7=.int .i64 k2/\1<=k2/\kp+1+k2<=d.size/\d.size-(kp+1+k2)<=gg/\Aside (wr=putRow El.enc (Sort.ahead w q2) g 0 dk)/\Aside (CInv El.row d (kp+1+k2) kk dk))
     case atStart=>exact⟨kp+1,1,q+nq,d,rfl,rfl,Yh _,by omega,by omega,W3,CInv.start El.row (by omega) hlt A.out DD.out⟩
     case round =>
      clear W W3;obtain⟨kk,k2,q2,dk,rfl,rfl,h1,hle,hg2,W2,I2⟩:=hrel;have hkk:=I2.out.lt;have hds:=I2.out.size El.row hle;have hHk:Holds El.enc wr g 0 dk:=by rw[W2.out];exact holds_putRow El.enc _ g 0 d dk (holds_ahead El.enc w q2 g 0 d HH.out) hds
      obtain⟨kz,rfl⟩:∃kz,k2=kz+1:=⟨k2-1,by omega⟩;by_cases hlt2:kp+1+(kz+1)<d.size
      .obtain⟨cm,_⟩:=hHk (kp+1+(kz+1)) (by omega);obtain⟨cp,_⟩:=hHk (kp+1+kz) (by omega);obtain⟨ck,fk⟩:=hHk kk (by omega);rw[I2.out.read El.row hle (by omega) hlt2,Yj]at cm;rw[I2.out.read El.row hle (by omega) (by omega),Yj]at cp;rw[Yj]at ck fk;clear hHk;have hcall:=Zbff (w:=w) (wr:=wr) (g:=g) (λk hk=>by rw[W2.out];exact Zbfe _ _ _ _ _ _ hk) d[kp+1+(kz+1)]! d[kp+1+kz]!;have st:∀a m w1,_:=λa m w1=>run_store Tryz.prog w1 a (El.enc d[kp+1+(kz+1)]!) m (El.one _)
       obtain⟨x,hx⟩:∃x,El.enc d[kp+1+(kz+1)]! = x:=⟨_,rfl⟩;have cl:=OneCell.cells (enc:=El.enc) El.one d[kp+1+(kz+1)]!;rw[hx]at cm hcall st cl;simp only[Value.cells]at cl;have XE:Aside (El.enc d[kp+1+(kz+1)]! = x):=hx;clear hx;generalize El.enc d[kp+1+kz]! = y at cp hcall;generalize El.enc dk[kk]! = old at ck;have jz:(kz:Int)+1<((d.size-(kp+1):Nat):Int):=by omega
       have jz1:(kz:Int)<((d.size-(kp+1):Nat):Int):=by omega
       have hwz:IntKind.i64.wrap (kz:Int)=(kz:Int):=by rw[IntKind.wrap_i64];omega
       have q0:(0:Int)<=(kz:Int)+1:=by omega
       have r0:((kz:Int)+1).toNat=kz+1:=by omega
       have kkz:(kk:Int)<(d.size:Int):=by omega
       by_cases hdup2:El.row d[kp+1+(kz+1)]! = El.row d[kp+1+kz]!
       .rw[decide_eq_true hdup2]at hcall;have D2:Aside (El.row d[kp+1+(kz+1)]! = El.row d[kp+1+kz]!):=hdup2;clear hdup2
        go_wp2_with fail
        go_quiet (refine Calls.quiet_of (hcall _))
        go_wp2
        go_roundg (d.size-(kp+1+(kz+1+1)))
        case measure=>omega
        case rel=>exact⟨kk,kz+1+1,q2+nq,dk,rfl,by go_num,by omega,by omega,Yh _,(show Aside _ from by show _=_;rw[W2.out,Zto]),I2.out.skip El.row hlt2 D2.out⟩
       .rw[decide_eq_false hdup2]at hcall;have D2:Aside (¬El.row d[kp+1+(kz+1)]! = El.row d[kp+1+kz]!):=hdup2;clear hdup2
        go_wp2_with fail
        go_quiet (refine Calls.quiet_of (hcall _))
        go_wp2_with fail
        have W4:Aside (wr.drewN nq=putRow El.enc (Sort.ahead w (q2+nq)) g 0 dk):=by show _=_;rw[W2.out,Zto]
        clear hcall cm cp ck fk;generalize wr.drewN nq=wq at W4|-
        go_roundg (d.size-(kp+1+(kz+1+1)))
        case measure=>omega
        case rel=>exact⟨kk+1,kz+1+1,q2+nq,dk.setIfInBounds kk d[kp+1+(kz+1)]!,by go_num,by go_num,by omega,by omega,Yh _,(show Aside _ from put_at (by omega) W4.out XE.out),I2.out.keep El.row hlt2 D2.out⟩
      .have hend:kp+1+(kz+1)=d.size:=by omega
       have jz:¬(kz:Int)+1<((d.size-(kp+1):Nat):Int):=by omega
       have kkz:(kk:Int)<=(d.size:Int):=by omega
       have hcl:∀ty,(Builtin.clear_ #[135] ty #[.slice (some ⟨g,kk,none⟩) (d.size-kk) (cap-kk)]).run Tryz.prog wr=.ok (.tuple #[]) (wr.setCells g kk (List.replicate (d.size-kk) (.slice none 0 0))) :=
        λty=>Lib.run_clear_slice wr _ _ ty _ Tryz.underlying135 Tryz.zeroValue99 rfl rfl g kk _ _ (by omega) (λj hj=>by have:=(hHk (kk+j) (by omega)).1;rw[Yj]at this;rw[this];rfl) (λj hj=>by have:=(hHk (kk+j) (by omega)).2;rw[Yj]at this;exact this)
       clear hHk
       go_wp2
       go_ret
       have hI:=I2.out;rw[hend]at hI;have hlen:=hI.len;rw[show d.toList.take d.size=d.toList from Yb9 (by simp)]at hlen;exact⟨by rw[hlen];rfl,q2,by rw[hlen];exact put_end El.row hI default W2.out⟩
    .rw[decide_eq_false hdup]at hcall;have DD:Aside (¬El.row d[kp+1]! = El.row d[kp]!):=hdup;clear hdup
     go_wp2_with fail
     go_quiet (refine Calls.quiet_of (hcall _))
     go_wp2
     go_roundg (d.size-(kp+1+1))
     case measure=>omega
     case rel=>exact⟨kp+1+1,q+nq,by omega,by omega,Yh _,by go_num,(show Aside _ from by show _=_;rw[W.out,Zto]),nb_next El.row (by omega) hlt A.out DD.out⟩
   .have hk2:k=d.size:=by omega
    have hltz:¬(k:Int)<(d.size:Int):=by omega
    go_wp2
    go_ret
    obtain⟨e1,e2⟩:=HS.out q (by have:=A.out;rw[hk2,show d.toList.take d.size=d.toList from Yb9 (by simp)]at this;exact this);exact⟨by rw[e1];rfl,q,by rw[<-e2];exact W.out⟩
end Go.Proofs.YtooakifnnhhnhaaGreat
namespace Go.Proofs.YtooakifnnhhnhaaGreat
open Go.RowKit Go.AM Go.Lib Go.Sort
theorem Zbfg{N:Par}{base:Nat}{ρ:Map}{w w':World}{el sz:Nat}{fr:Bool}(R:Rel N base ρ [.arr el sz fr []] w){r:Root}(hr:ρ 0=some r)(c:∀b,1<=b->ρ b=none)(cc:w.grownBy w' none) :
  Rel N base (updM ρ 1 ⟨.slice none 0 0,[],[]⟩) [.dead,.arr el sz fr []] w'/\
   Keeps ρ w (Free N ρ [.arr el sz fr []]) (updM ρ 1 ⟨.slice none 0 0,[],[]⟩) w' (Free N (updM ρ 1 ⟨.slice none 0 0,[],[]⟩) [.dead,.arr el sz fr []])/\
   ∀g,g<w.heap.size->¬N.a g->w'.heap[g]?=w.heap[g]?:=by
 have hb:gt [Blk.arr el sz fr []] 0=.arr el sz fr []:=by simp[gt]
 have hd:gt [Blk.arr el sz fr []] 0≠.dead:=by rw[hb];intro hc;cases hc
 obtain⟨r1,h1,h2⟩:=R.blk 0 hd;rw[hr]at h1;cases h1;rw[hb]at h2;obtain⟨hex,e2,xs,hel,ho,hsz,hlen,htr,hfree,hfr,how⟩:=h2;have hup:upd [Blk.arr el sz fr []] (kill [0]++[(1,.arr el sz fr [])])=[.dead,.arr el sz fr []]:=by simp[upd,kill,stB]
 have hp:=Zfc R (n:=1) (ks:=[0]) (x:=.arr el sz fr []) (r:=⟨.slice none 0 0,[],[]⟩) (row:=none) (w':=w')
  (by intro r0 h0;rw[c 1 (Yh _)]at h0;cases h0) cc
  (by intro g' hg';cases hg') (by intro g' hg';cases hg')
  (λhk=>⟨rfl,e2,[],hel,⟨by simp,.inl ⟨rfl,rfl⟩⟩,hsz,(by intro x hx;cases hx),.nil,(by intro x hx;cases hx),λ_=>⟨.nil,by intro x hx;cases hx⟩,λ_=>.nil⟩)
  (by intro _ x hx;cases hx)
 rw[hup]at hp;exact hp
theorem Zbfh{α:Type}[Inhabited α](enc:α->Value)(w:World)(c off n:Nat)(d:Array α){k:Nat}(cc:k≠c):(putRow enc (Sort.ahead w n) c off d).heap[k]?=w.heap[k]?:=by
 show(w.heap.modify c (onCells (putCells enc off d)))[k]?=_;rw[Ycs,if_neg (Ne.symm cc)]
theorem Zbfi{α:Type}[Inhabited α](enc:α->Value)(w:World)(cc off n:Nat)(d:Array α){c:Array Value}{e:TypeId}{fz:Nat×Nat}(hg:w.heap[cc]?=some (.cells c e fz)):(putRow enc (Sort.ahead w n) cc off d).heap[cc]?=some (.cells (putCells enc off d c) e fz):=by
 show(w.heap.modify cc (onCells (putCells enc off d)))[cc]?=_;rw[Ycs,if_pos rfl,hg];rfl
theorem Zbye{fr:Bool}{rows:List (List Int)}(cd:rows.length<=4096)(cc:∀r∈rows,r.length<=4) :
  Zbq Tryz.prog 272 [.own 0,.fn 273 []] [.arr 99 1 fr (rows.map isc)] (.own 1) [.dead,.arr 99 1 fr ((cptR rows).map isc)]:=by
 refine⟨by decide +kernel,?_⟩;intro N base w ρ vs R hdom hv hz;obtain⟨l⟩:=vs;simp only at hv
 cases hv with|cons q0 hv =>
 cases hv with|cons q1 hv =>
 cases hv
 cases q0 with|own hr h1 =>
 rename_i r
 cases q1 with|fn q1 =>
 rename_i c;obtain⟨c⟩:=c;simp only at q1;cases q1;have hb:gt [Blk.arr 99 1 fr (rows.map isc)] 0=.arr 99 1 fr (rows.map isc):=by simp[gt]
 have hd0:gt [Blk.arr 99 1 fr (rows.map isc)] 0≠.dead:=by rw[hb];intro hc;cases hc
 obtain⟨r2,e1,e2⟩:=R.blk 0 hd0;rw[hr]at e1;cases e1;rw[hb]at e2;obtain⟨hex,e',xs,hel,ho,hsz,hlen1,htr,hfree,hfr,how⟩:=e2;obtain⟨hxl,ho⟩:=ho;have hdom1:∀b,1<=b->ρ b=none:=by intro b hb;exact hdom b (by simpa using hb)
 rcases ho with⟨hrv,hn⟩|⟨g,cap,cur,hrv,hbg,hg,hcap,hcm,hcur,htake⟩
 .have hn:rows=[]:=by simpa using hn
  subst hn;rw[hrv];refine(cpt_nil w).mono ?_;rintro e w' ⟨rfl,rfl⟩;obtain⟨p1,p2,p3⟩:=Zbfg R hr hdom1 (w':=w') ⟨rfl,rfl,rfl,Yh _,λ_ _ _=>rfl⟩;refine⟨_,_,rfl,Below.refl _ _,p1,.own (b:=1) (r:=⟨.slice none 0 0,[],[]⟩) (by simp[updM]) rfl,λb hb=>?_,by simp,p3,λk hk hzz=>p2.free k hk (hz k hzz),λb r0 hb h0=>p2.root b r0 h0⟩;simp only[updM];rw[if_neg (by simp at hb;omega)];exact hdom1 b (by simp at hb;omega)
 obtain⟨zs,hzx,hch⟩:=Ch.of htr;obtain⟨l,p1,p2,p3,p4⟩:=hch.zip;have hblk:Zbc r.v=some g:=by rw[hrv];rfl
 have hfg:∀x∈r.fp,x≠g:=λx hx e=>by
  subst e;exact(hfree x hx).2 0 r hr hd0 (.inl hblk)
 have hgs:g<w.heap.size:=(Ybk.1 hg).1
 obtain⟨L,hL⟩:=El.list (w:=w) (g:=g) l (by
  intro p hp;have hm:p.1∈rows.map isc:=by rw[<-p1];exact Y0.2 ⟨p,hp,rfl⟩
  obtain⟨r0,hr0,e0⟩:=Y0.1 hm;have ht:=p4 p hp;rw[<-e0]at ht;obtain⟨q,hq⟩:=el_of (g:=g) ht (λx hx=>hfg x (by rw[<-p3];exact Yb7.2 ⟨p.2.2,Y0.2 ⟨p,hp,rfl⟩,hx⟩)) (cc r0 hr0)
  exact⟨q,by rw[hq,e0]⟩)
 subst hL;have hrows:L.map El.row=rows:=by
  have:(L.map El.row).map isc=rows.map isc:=by rw[<-p1];simp[El.t3]
  exact(Yct (λa b h=>Zy0 h)).1 this
 have hLl:L.length=rows.length:=by rw[<-hrows,Ybd]
 have henc:L.map El.enc=cur.toList.take ((rows.map isc).length*1):=by
  rw[htake,<-hzx,<-p2,Zsq]
 have hcell:Holds El.enc w g 0 L.toArray:=by
  intro j hj;have hj':j<L.length:=by simpa using hj
  have h2:cur[j]?=some (L[j].enc):=by
   have h3:(cur.toList.take ((rows.map isc).length*1))[j]?=some (L[j].enc):=by rw[<-henc,Yca,Yk hj'];rfl
   rw[Ybx,if_pos (by simp;omega)]at h3;simpa using h3
  refine⟨?_,?_⟩
  .unfold World.cell?;rw[hg];simp[h2,hj']
  .simp[World.frozen?,hg]
 have hcall:=cpt_walk (w:=w) (g:=g) cap L.toArray hcell (by simp;omega) (by simp at hcap|-;omega);rw[hrv,show(rows.map isc).length=L.toArray.size by simp[hLl]];refine hcall.mono ?_;rintro e w' ⟨rfl,q,rfl⟩;have hsub:=nb_sub El.row L;have hnl:(nb El.row L).length<=L.length:=hsub.length_le;have hgr:w.grownBy (putRow El.enc (Sort.ahead w q) g 0 (nb El.row L++List.replicate (L.length-(nb El.row L).length) default).toArray) (some g) :=
  ⟨rfl,rfl,rfl,by show w.heap.size<=(w.heap.modify g _).size;simp,λk hk hne=>Zbfh _ _ _ _ _ _ (by intro e;exact hne (by rw[e]))⟩
 obtain⟨P1,P2,P3⟩:=Zba0 R hr hdom1 hrv hg p1 (by rw[p2,hzx,htake]) p3 p4 (hsub.map El.t3) (zr:=List.replicate (L.length-(nb El.row L).length) (El.enc (default:El w g))) (by simp[hLl]) ⟨_,Zbfi _ _ _ _ _ _ hg,by
  rw[Zsp _ _ _ (by simp at hcap|-;omega),Zsq];simp only[Y7,Yc1,Ycg,Yq,Ycv,Ybd]
  rw[show(nb El.row L).length+(L.length-(nb El.row L).length)=rows.length*1 by omega]⟩ hgr
 rw[Zba5,nb_cpt,hrows,Ybd]at P1 P2;have hln:(nb El.row L.toArray.toList).length=(nb El.row L).length:=rfl;refine⟨_,_,rfl,⟨hgr.os,hgr.tape,hgr.output,hgr.size,λk hk=>hgr.block k (Ybs hk R.hb) (by intro e;cases e;omega)⟩,P1,.own (b:=1) (r:=⟨.slice (some ⟨g,0,none⟩) (nb El.row L).length cap,(((nb El.row L).map El.t3).map (·.2.2)).flatten,[]⟩) (by unfold updM;rw[if_pos rfl]) rfl,λb hb=>?_,by simp,P3,λk hk hzz=>P2.free k hk (hz k hzz),λb r0 hb h0=>P2.root b r0 h0⟩;simp only[updM];rw[if_neg (by simp at hb;omega)];exact hdom1 b (by simp at hb;omega)
end Go.Proofs.YtooakifnnhhnhaaGreat
namespace Go.Proofs.YtooakifnnhhnhaaGreat
open Go.RowKit Go.AM Go.Lib Go.Sort
def Zbfj:Prop:=∀(blk off cap:Nat) (zs:List Int) (w:World),Holds (Value.int .i64) w blk off zs.toArray->blk<w.heap.size->zs.length<4611686018427387904->
 Calls Tryz.prog 251 #[.slice (some ⟨blk,off,none⟩) zs.length cap] w λe w'=>e=.returned (.tuple #[])/\∃n os,w'=grow (putRow (Value.int .i64) (Sort.ahead w n) blk off (zs.mergeSort λx y=>decide (x<=y)).toArray) os
def Zbfk:Prop:=∀(p:Option Addr) (cap:Nat) (w:World),Calls Tryz.prog 251 #[.slice p 0 cap] w λe w'=>e=.returned (.tuple #[])/\w'=w
def Zbfl:Prop:=∀(blk off cap:Nat) (zs:List Int) (w:World),Holds (Value.int .i64) w blk off zs.toArray->zs.length<=9223372036854775807->zs.length<=cap->
 Calls Tryz.prog 252 #[.slice (some ⟨blk,off,none⟩) zs.length cap] w λe w'=>e=.returned (.slice (some ⟨blk,off,none⟩) (Lib.compact zs).length cap)/\∃q,w'=putRow (Value.int .i64) (Sort.ahead w q) blk off (Lib.compact zs++List.replicate (zs.length-(Lib.compact zs).length) 0).toArray
def Zbfm:Prop:=∀(a:Option Addr) (cap:Nat) (w:World),Calls Tryz.prog 252 #[.slice a 0 cap] w λe w'=>e=.returned (.slice a 0 cap)/\w'=w
def tri(z:Int):List T×List Value×List Nat:=(ic z,[Value.int .i64 z],[])
theorem Z0j{w:World}:∀{r:List Int} {vs:List Value} {fp:List Nat},TRs w (r.map ic).flatten vs fp->vs=r.map (Value.int .i64)/\fp=[]
 |[],vs,fp,h=>by cases h;exact⟨rfl,rfl⟩
 |x::r,vs,fp,h=>by
  rw[Yl,Yv]at h;change TRs w (T.int .i64 x::(r.map ic).flatten) vs fp at h
  cases h with
  |cons h hs =>
   cases h;obtain⟨e1,e2⟩:=Z0j hs;subst e1;subst e2;exact⟨rfl,rfl⟩
theorem tri1(l:List Int):(l.map tri).map (·.1)=l.map ic:=by simp[tri]
theorem tri2(l:List Int):((l.map tri).map (·.2.1)).flatten=l.map (Value.int .i64):=by
 induction l with
 |nil=>rfl
 |cons x l ih=>simp only[Yl,Yv];rw[ih];rfl
theorem tri3(l:List Int):((l.map tri).map (·.2.2)).flatten=[]:=by
 induction l with
 |nil=>rfl
 |cons x l ih=>simp only[Yl,Yv];rw[ih];rfl
theorem tri4{w:World}(l:List Int):∀p∈l.map tri,TRs w p.1 p.2.1 p.2.2:=by
 intro p hp;obtain⟨z,-,rfl⟩:=Y0.1 hp;exact TRs.cons (TR.int _ _) TRs.nil
theorem kp_cons{a b:Int}{l:List Int}(j:Nat):keeps (a::b::l).toArray (j+2)=keeps (b::l).toArray (j+1):=by
 unfold keeps;simp
theorem Zbfn:∀l:List Int,Lib.compact l=cptI l
 |[]=>rfl
 |[a]=>by simp[Lib.compact,compactUpTo,keeps,cptI,List.range_succ]
 |a::b::l=>by
  have ih:=Zbfn (b::l);have e:∀(c:Int) (m:List Int),Lib.compact (c::m)=c::((List.range m.length).filter λj=>keeps (c::m).toArray (j+1)).map λj=>(c::m).toArray[j+1]!:=by
   intro c m;unfold Lib.compact compactUpTo;rw[Yn,List.range_succ_eq_map,Yc7,if_pos (by simp[keeps]),Yl,List.filter_map,List.map_map];rfl
  rw[e,Yn,List.range_succ_eq_map,Yc7,cptI];rw[e]at ih;have h0:keeps (a::b::l).toArray (0+1)=decide (¬a=b):=by
   unfold keeps;by_cases h:a=b
   .simp[h]
   .simp[h,Ne.symm h]
  have hf:(List.map Nat.succ (List.range l.length)).filter (λj=>keeps (a::b::l).toArray (j+1))=((List.range l.length).filter λj=>keeps (b::l).toArray (j+1)).map Nat.succ:=by
   rw[List.filter_map];congr 1;exact List.filter_congr λj _=>kp_cons j
  have hm:((List.map Nat.succ (List.range l.length)).filter (λj=>keeps (a::b::l).toArray (j+1))).map (λj=>(a::b::l).toArray[j+1]!)=((List.range l.length).filter λj=>keeps (b::l).toArray (j+1)).map λj=>(b::l).toArray[j+1]!:=by
   rw[hf,List.map_map];refine Ybt λj _=>?_
   simp
  by_cases h:a=b
  .rw[if_pos h,if_neg (by rw[h0];simp[h]),hm,<-ih,h]
  .rw[if_neg h,if_pos (by rw[h0];simp[h]),Yl,hm,<-ih];rfl
theorem Z0k:∀l:List Int,(cptI l).Sublist l
 |[]=>.slnil
 |[a]=>List.Sublist.refl _
 |a::b::l=>by
  unfold cptI;split
  .exact(Z0k (b::l)).cons _
  .exact(Z0k (b::l)).cons_cons _
theorem Zbfo{w:World}{g:Nat}{zs:List Int}{cur:Array Value}{e:TypeId}(hg:w.heap[g]?=some (.cells cur e (0,0)))(ht:cur.toList.take zs.length=zs.map (Value.int .i64)):Holds (Value.int .i64) w g 0 zs.toArray:=by
 intro j hj;have hj':j<zs.length:=by simpa using hj
 have h2:cur[j]?=some (.int .i64 zs[j]):=by
  have h3:(cur.toList.take zs.length)[j]?=some (.int .i64 zs[j]):=by rw[ht,Yca,Yk hj'];rfl
  rw[Ybx,if_pos hj']at h3;simpa using h3
 refine⟨?_,?_⟩
 .unfold World.cell?;rw[hg];simp[h2,hj']
 .simp[World.frozen?,hg]
theorem Zbyf(K:Zbfj)(K0:Zbfk){fr:Bool}{zs:List Int}(c:zs.length<=4096) :
  Zbq Tryz.prog 251 [.own 0] [.arr 3 1 fr (zs.map ic)] (.tup []) [.arr 3 1 fr ((srtI zs).map ic)]:=by
 refine⟨by decide +kernel,?_⟩;intro N base w ρ vs R hdom hv hz;obtain⟨l⟩:=vs;simp only at hv
 cases hv with|cons q0 hv =>
 cases hv
 cases q0 with|own hr h1 =>
 rename_i r;have hb:gt [Blk.arr 3 1 fr (zs.map ic)] 0=.arr 3 1 fr (zs.map ic):=by simp[gt]
 have hd0:gt [Blk.arr 3 1 fr (zs.map ic)] 0≠.dead:=by rw[hb];intro hc;cases hc
 obtain⟨r2,e1,e2⟩:=R.blk 0 hd0;rw[hr]at e1;cases e1;rw[hb]at e2;obtain⟨hex,e',xs,hel,ho,hsz,hlen1,htr,hfree,hfr,how⟩:=e2;obtain⟨hxl,ho⟩:=ho;rcases ho with⟨hrv,hn⟩|⟨g,cap,cur,hrv,hbg,hg,hcap,hcm,hcur,htake⟩
 .have hn:zs=[]:=by simpa using hn
  subst hn;rw[hrv];refine(K0 none 0 w).mono ?_;rintro e w' ⟨rfl,rfl⟩;exact⟨_,ρ,rfl,Below.refl _ _,by simpa[srtI]using R,.tup .nil,hdom,by simp,λ_ _ _=>rfl,λg hg hzz=>⟨by simpa[srtI]using hz g hzz,rfl⟩,λb r0 _ h=>⟨r0,h,rfl⟩⟩
 obtain⟨hx1,hx2⟩:=Z0j htr;have hgs:g<w.heap.size:=(Ybk.1 hg).1;have hzl:(zs.map ic).length*1=zs.length:=by simp
 have htk:cur.toList.take zs.length=zs.map (Value.int .i64):=by rw[<-hzl,htake,hx1]
 have hcall:=K g 0 cap zs w (Zbfo hg htk) hgs (by omega);rw[hrv,show(zs.map ic).length=zs.length by simp];refine hcall.mono ?_;rintro e w' ⟨rfl,n,os,rfl⟩;have hgr:w.grownBy (sortWorld (Value.int .i64) w g 0 n (srtI zs).toArray os) (some g):=⟨rfl,rfl,rfl,by show w.heap.size<=((w.heap.modify g _)++os).size;simp,λk hk hne=>Zso _ _ _ _ _ _ _ hk (by intro e;exact hne (by rw[e]))⟩;have hperm:(srtI zs).Perm zs:=Yc2 _ _;have hsl:(srtI zs).length=zs.length:=hperm.length_eq
 obtain⟨P1,P2,P3⟩:=Zbaz R hr (by intro b hb;exact hdom b (by simpa using hb)) hrv hg (tri1 zs) (by rw[tri2,hzl,htk]) (by rw[tri3,hx2]) (tri4 zs) (hperm.map tri) ⟨_,Zba4 _ _ _ _ _ _ _ hg,by
  rw[Zsp _ _ _ (by simp at hcap;simp;omega),tri2];simp[hsl]⟩ hgr
 rw[tri1]at P1 P2;refine⟨_,_,rfl,⟨hgr.os,hgr.tape,hgr.output,hgr.size,λk hk=>hgr.block k (Ybs hk R.hb) (by intro e;cases e;omega)⟩,P1,.tup .nil,λb hb=>?_,by simp,P3,λk hk hzz=>P2.free k hk (hz k hzz),λb r0 hb h0=>P2.root b r0 h0⟩;simp only[updM];rw[if_neg (by simp at hb;omega)];exact hdom b (by simpa using hb)
theorem Zbyg(K:Zbfl)(K0:Zbfm){fr:Bool}{zs:List Int}(c:zs.length<=4096) :
  Zbq Tryz.prog 252 [.own 0] [.arr 3 1 fr (zs.map ic)] (.own 1) [.dead,.arr 3 1 fr ((cptI zs).map ic)]:=by
 refine⟨by decide +kernel,?_⟩;intro N base w ρ vs R hdom hv hz;obtain⟨l⟩:=vs;simp only at hv
 cases hv with|cons q0 hv =>
 cases hv
 cases q0 with|own hr h1 =>
 rename_i r;have hb:gt [Blk.arr 3 1 fr (zs.map ic)] 0=.arr 3 1 fr (zs.map ic):=by simp[gt]
 have hd0:gt [Blk.arr 3 1 fr (zs.map ic)] 0≠.dead:=by rw[hb];intro hc;cases hc
 obtain⟨r2,e1,e2⟩:=R.blk 0 hd0;rw[hr]at e1;cases e1;rw[hb]at e2;obtain⟨hex,e',xs,hel,ho,hsz,hlen1,htr,hfree,hfr,how⟩:=e2;obtain⟨hxl,ho⟩:=ho;have hdom1:∀b,1<=b->ρ b=none:=by intro b hb;exact hdom b (by simpa using hb)
 rcases ho with⟨hrv,hn⟩|⟨g,cap,cur,hrv,hbg,hg,hcap,hcm,hcur,htake⟩
 .have hn:zs=[]:=by simpa using hn
  subst hn;rw[hrv];refine(K0 none 0 w).mono ?_;rintro e w' ⟨rfl,rfl⟩;obtain⟨p1,p2,p3⟩:=Zbfg R hr hdom1 (w':=w') ⟨rfl,rfl,rfl,Yh _,λ_ _ _=>rfl⟩;refine⟨_,_,rfl,Below.refl _ _,p1,.own (b:=1) (r:=⟨.slice none 0 0,[],[]⟩) (by simp[updM]) rfl,λb hb=>?_,by simp,p3,λk hk hzz=>p2.free k hk (hz k hzz),λb r0 hb h0=>p2.root b r0 h0⟩;simp only[updM];rw[if_neg (by simp at hb;omega)];exact hdom1 b (by simp at hb;omega)
 obtain⟨hx1,hx2⟩:=Z0j htr;have hgs:g<w.heap.size:=(Ybk.1 hg).1;have hzl:(zs.map ic).length*1=zs.length:=by simp
 have htk:cur.toList.take zs.length=zs.map (Value.int .i64):=by rw[<-hzl,htake,hx1]
 have hcall:=K g 0 cap zs w (Zbfo hg htk) (by omega) (by simpa using hcap);rw[Zbfn]at hcall;rw[hrv,show(zs.map ic).length=zs.length by simp];refine hcall.mono ?_;rintro e w' ⟨rfl,q,rfl⟩;have hsub:=Z0k zs;have hnl:(cptI zs).length<=zs.length:=hsub.length_le;have hgr:w.grownBy (putRow (Value.int .i64) (Sort.ahead w q) g 0 (cptI zs++List.replicate (zs.length-(cptI zs).length) 0).toArray) (some g) :=
  ⟨rfl,rfl,rfl,by show w.heap.size<=(w.heap.modify g _).size;simp,λk hk hne=>Zbfh _ _ _ _ _ _ (by intro e;exact hne (by rw[e]))⟩
 obtain⟨P1,P2,P3⟩:=Zba0 R hr hdom1 hrv hg (tri1 zs) (by rw[tri2,hzl,htk]) (by rw[tri3,hx2]) (tri4 zs) (hsub.map tri) (zr:=List.replicate (zs.length-(cptI zs).length) (Value.int .i64 0)) (by simp) ⟨_,Zbfi _ _ _ _ _ _ hg,by
  rw[Zsp _ _ _ (by simp at hcap|-;omega),tri2];simp only[Y7,Yc1,Ycg,Yq,Ycv,Ybd]
  rw[show(cptI zs).length+(zs.length-(cptI zs).length)=zs.length*1 by omega]⟩ hgr
 rw[tri1,Ybd]at P1 P2;refine⟨_,_,rfl,⟨hgr.os,hgr.tape,hgr.output,hgr.size,λk hk=>hgr.block k (Ybs hk R.hb) (by intro e;cases e;omega)⟩,P1,.own (b:=1) (r:=⟨.slice (some ⟨g,0,none⟩) (cptI zs).length cap,(((cptI zs).map tri).map (·.2.2)).flatten,[]⟩) (by unfold updM;rw[if_pos rfl]) rfl,λb hb=>?_,by simp,P3,λk hk hzz=>P2.free k hk (hz k hzz),λb r0 hb h0=>P2.root b r0 h0⟩;simp only[updM];rw[if_neg (by simp at hb;omega)];exact hdom1 b (by simp at hb;omega)
end Go.Proofs.YtooakifnnhhnhaaGreat
namespace Go.Proofs.YtooakifnnhhnhaaGreat
open Go.RowKit Go.AM Go.Lib Go.Sort Go.Shelf
def sI_ren:Go.Shelf.Ren:=⟨λ|189=>251|125=>280|257=>279|128=>307|129=>308|294=>298|295=>299|296=>300|297=>301|298=>302|299=>303|216=>304|300=>305|301=>306|328=>327|329=>328|330=>329|331=>330|332=>331|215=>332|343=>346|n=>n,λ|28=>99|3=>3|46=>297|0=>0|51=>318|53=>320|4=>4|183=>311|182=>310|131=>315|5=>5|9=>9|218=>332|222=>249|228=>349|229=>350|n=>n,λ|n=>n⟩
theorem sI:Go.Proofs.Lays.n189 Tryz.prog sI_ren:={ mixed:=by kernel_rfl,f125:=Tryz.func280.trans (congrArg some (by kernel_rfl)),f128:=Tryz.func307.trans (congrArg some (by kernel_rfl)),f129:=Tryz.func308.trans (congrArg some (by kernel_rfl)),f189:=Tryz.func251.trans (congrArg some (by kernel_rfl)),f215:=Tryz.func332.trans (congrArg some (by kernel_rfl)),f216:=Tryz.func304.trans (congrArg some (by kernel_rfl)),f257:=Tryz.func279.trans (congrArg some (by kernel_rfl)),f294:=Tryz.func298.trans (congrArg some (by kernel_rfl)),f295:=Tryz.func299.trans (congrArg some (by kernel_rfl)),f296:=Tryz.func300.trans (congrArg some (by kernel_rfl)),f297:=Tryz.func301.trans (congrArg some (by kernel_rfl)),f298:=Tryz.func302.trans (congrArg some (by kernel_rfl)),f299:=Tryz.func303.trans (congrArg some (by kernel_rfl)),f300:=Tryz.func305.trans (congrArg some (by kernel_rfl)),f301:=Tryz.func306.trans (congrArg some (by kernel_rfl)),f328:=Tryz.func327.trans (congrArg some (by kernel_rfl)),f329:=Tryz.func328.trans (congrArg some (by kernel_rfl)),f330:=Tryz.func329.trans (congrArg some (by kernel_rfl)),f331:=Tryz.func330.trans (congrArg some (by kernel_rfl)),f332:=Tryz.func331.trans (congrArg some (by kernel_rfl)),f343:=Tryz.func346.trans (congrArg some (by kernel_rfl)),t0:=Tryz.underlying0,a0:=Tryz.isAgg0,z0:=Tryz.sizeOf0,v0:=Tryz.zeroValue0,t3:=Tryz.underlying3,a3:=Tryz.isAgg3,z3:=Tryz.sizeOf3,v3:=Tryz.zeroValue3,t4:=Tryz.underlying4,a4:=Tryz.isAgg4,z4:=Tryz.sizeOf4,v4:=Tryz.zeroValue4,t5:=Tryz.underlying5,a5:=Tryz.isAgg5,z5:=Tryz.sizeOf5,v5:=Tryz.zeroValue5,t9:=Tryz.underlying9,a9:=Tryz.isAgg9,z9:=Tryz.sizeOf9,v9:=Tryz.zeroValue9,t28:=Tryz.underlying99,a28:=Tryz.isAgg99,z28:=Tryz.sizeOf99,v28:=Tryz.zeroValue99,t46:=Tryz.underlying297,a46:=Tryz.isAgg297,z46:=Tryz.sizeOf297,v46:=Tryz.zeroValue297,t51:=Tryz.underlying318,a51:=Tryz.isAgg318,z51:=Tryz.sizeOf318,v51:=Tryz.zeroValue318,t53:=Tryz.underlying320,a53:=Tryz.isAgg320,z53:=Tryz.sizeOf320,v53:=Tryz.zeroValue320,t131:=Tryz.underlying315,a131:=Tryz.isAgg315,z131:=Tryz.sizeOf315,v131:=Tryz.zeroValue315,t182:=Tryz.underlying310,a182:=Tryz.isAgg310,z182:=Tryz.sizeOf310,v182:=Tryz.zeroValue310,t183:=Tryz.underlying311,a183:=Tryz.isAgg311,z183:=Tryz.sizeOf311,v183:=Tryz.zeroValue311,t218:=Tryz.underlying332,a218:=Tryz.isAgg332,z218:=Tryz.sizeOf332,v218:=Tryz.zeroValue332,t222:=Tryz.underlying249,a222:=Tryz.isAgg249,z222:=Tryz.sizeOf249,v222:=Tryz.zeroValue249,t228:=Tryz.underlying349,a228:=Tryz.isAgg349,z228:=Tryz.sizeOf349,v228:=Tryz.zeroValue349,t229:=Tryz.underlying350,a229:=Tryz.isAgg350,z229:=Tryz.sizeOf350,v229:=Tryz.zeroValue350 }
def cI_ren:Go.Shelf.Ren:=⟨λ|20=>252|n=>n,λ|22=>99|3=>3|4=>4|0=>0|n=>n,λ|n=>n⟩
theorem cI:Go.Proofs.Lays2.n20 Tryz.prog cI_ren:={ mixed:=by kernel_rfl,f20:=Tryz.func252.trans (congrArg some (by kernel_rfl)),t0:=Tryz.underlying0,a0:=Tryz.isAgg0,z0:=Tryz.sizeOf0,v0:=Tryz.zeroValue0,t3:=Tryz.underlying3,a3:=Tryz.isAgg3,z3:=Tryz.sizeOf3,v3:=Tryz.zeroValue3,t4:=Tryz.underlying4,a4:=Tryz.isAgg4,z4:=Tryz.sizeOf4,v4:=Tryz.zeroValue4,t22:=Tryz.underlying99,a22:=Tryz.isAgg99,z22:=Tryz.sizeOf99,v22:=Tryz.zeroValue99,i3:=by kernel_rfl }
theorem kitSortI:Zbfj:=λblk off cap zs w hH hb hz=>Any.slices_Sort_int sI blk off cap zs w hH hb hz
theorem Zbyh:Zbfk:=λp cap w=>Any.slices_Sort_int_none sI p cap w
theorem kitCptI:Zbfl:=λblk off cap zs w hH hz hc=>Any.slices_Compact_int cI blk off cap zs w hH hz hc
theorem kitCptI0:Zbfm:=λa cap w=>Any.slices_Compact_int_empty cI a cap w
end Go.Proofs.YtooakifnnhhnhaaGreat
namespace Go.Proofs.YtooakifnnhhnhaaGreat
open Go.RowKit Go.AM Go.Lib Go.Sort Go.Shelf
def Zbyi:Go.Shelf.Ren:=⟨λ|6=>271|15=>280|14=>297|28=>307|29=>308|20=>319|21=>320|22=>321|23=>322|24=>323|25=>324|26=>325|27=>326|46=>343|47=>328|48=>329|49=>344|50=>345|57=>349|n=>n,λ|22=>135|24=>99|25=>228|3=>3|39=>297|0=>0|53=>318|55=>320|4=>4|46=>311|45=>310|50=>315|5=>5|9=>9|66=>332|70=>249|76=>349|77=>350|n=>n,λ|n=>n⟩
theorem sortR:Go.Proofs.SlLaysF.n6 Tryz.prog Zbyi:={ mixed:=by kernel_rfl,f6:=⟨Tryz.f271.name,by decide,Tryz.func271.trans (congrArg some (by kernel_rfl))⟩,f14:=⟨Tryz.f297.name,by decide,Tryz.func297.trans (congrArg some (by kernel_rfl))⟩,f15:=Tryz.func280.trans (congrArg some (by kernel_rfl)),f20:=⟨Tryz.f319.name,by decide,Tryz.func319.trans (congrArg some (by kernel_rfl))⟩,f21:=⟨Tryz.f320.name,by decide,Tryz.func320.trans (congrArg some (by kernel_rfl))⟩,f22:=⟨Tryz.f321.name,by decide,Tryz.func321.trans (congrArg some (by kernel_rfl))⟩,f23:=⟨Tryz.f322.name,by decide,Tryz.func322.trans (congrArg some (by kernel_rfl))⟩,f24:=⟨Tryz.f323.name,by decide,Tryz.func323.trans (congrArg some (by kernel_rfl))⟩,f25:=⟨Tryz.f324.name,by decide,Tryz.func324.trans (congrArg some (by kernel_rfl))⟩,f26:=⟨Tryz.f325.name,by decide,Tryz.func325.trans (congrArg some (by kernel_rfl))⟩,f27:=⟨Tryz.f326.name,by decide,Tryz.func326.trans (congrArg some (by kernel_rfl))⟩,f28:=Tryz.func307.trans (congrArg some (by kernel_rfl)),f29:=Tryz.func308.trans (congrArg some (by kernel_rfl)),f46:=⟨Tryz.f343.name,by decide,Tryz.func343.trans (congrArg some (by kernel_rfl))⟩,f47:=Tryz.func328.trans (congrArg some (by kernel_rfl)),f48:=Tryz.func329.trans (congrArg some (by kernel_rfl)),f49:=⟨Tryz.f344.name,by decide,Tryz.func344.trans (congrArg some (by kernel_rfl))⟩,f50:=⟨Tryz.f345.name,by decide,Tryz.func345.trans (congrArg some (by kernel_rfl))⟩,f57:=⟨Tryz.f349.name,by decide,Tryz.func349.trans (congrArg some (by kernel_rfl))⟩,t0:=Tryz.underlying0,a0:=Tryz.isAgg0,z0:=Tryz.sizeOf0,v0:=Tryz.zeroValue0,t3:=Tryz.underlying3,a3:=Tryz.isAgg3,z3:=Tryz.sizeOf3,v3:=Tryz.zeroValue3,t4:=Tryz.underlying4,a4:=Tryz.isAgg4,z4:=Tryz.sizeOf4,v4:=Tryz.zeroValue4,t5:=Tryz.underlying5,a5:=Tryz.isAgg5,z5:=Tryz.sizeOf5,v5:=Tryz.zeroValue5,t9:=Tryz.underlying9,a9:=Tryz.isAgg9,z9:=Tryz.sizeOf9,v9:=Tryz.zeroValue9,t22:=Tryz.underlying135,a22:=Tryz.isAgg135,z22:=Tryz.sizeOf135,v22:=Tryz.zeroValue135,a24:=Tryz.isAgg99,z24:=Tryz.sizeOf99,t25:=Tryz.underlying228,a25:=Tryz.isAgg228,z25:=Tryz.sizeOf228,v25:=Tryz.zeroValue228,t39:=Tryz.underlying297,a39:=Tryz.isAgg297,z39:=Tryz.sizeOf297,v39:=Tryz.zeroValue297,t45:=Tryz.underlying310,a45:=Tryz.isAgg310,z45:=Tryz.sizeOf310,v45:=Tryz.zeroValue310,t46:=Tryz.underlying311,a46:=Tryz.isAgg311,z46:=Tryz.sizeOf311,v46:=Tryz.zeroValue311,t50:=Tryz.underlying315,a50:=Tryz.isAgg315,z50:=Tryz.sizeOf315,v50:=Tryz.zeroValue315,t53:=Tryz.underlying318,a53:=Tryz.isAgg318,z53:=Tryz.sizeOf318,v53:=Tryz.zeroValue318,t55:=Tryz.underlying320,a55:=Tryz.isAgg320,z55:=Tryz.sizeOf320,v55:=Tryz.zeroValue320,t66:=Tryz.underlying332,a66:=Tryz.isAgg332,z66:=Tryz.sizeOf332,v66:=Tryz.zeroValue332,t70:=Tryz.underlying249,a70:=Tryz.isAgg249,z70:=Tryz.sizeOf249,v70:=Tryz.zeroValue249,t76:=Tryz.underlying349,a76:=Tryz.isAgg349,z76:=Tryz.sizeOf349,v76:=Tryz.zeroValue349,t77:=Tryz.underlying350,a77:=Tryz.isAgg350,z77:=Tryz.sizeOf350,v77:=Tryz.zeroValue350 }
theorem kitSort:Zba2:=by
 intro α _ enc h1 cf hO blk off cap d w hcmp hH hblk hsz;have eg:∀args w,(callFunc 270 args).run Tryz.prog w=.ok (.enter 270 args) w:=enters_of Tryz.func270 (by kernel_rfl) rfl;exact Any.slices_SortFunc sortR enc h1 cf hO 270 #[] blk off cap d w eg hcmp hH hblk hsz
theorem kitSort0:Zba3:=λp cap w=>AnyF.slices_SortFunc_none { sortR with } p cap _ w
theorem Zbyj(f:Nat)(xs:List AV)(h0:List Blk)(r:AV)(hr:List Blk)(h:ext f xs h0=some (r,hr)):Zbq Tryz.prog f xs h0 r hr:=by
 unfold ext at h;split at h
 .split at h
  .subst f;unfold extS at h;split at h
   .rename_i hc;obtain⟨h1,h2,h3⟩:=hc.choose_spec;generalize hc.choose=rows at h h1 h2 h3;subst h1;cases h;exact Zbqx kitSort kitSort0 h2 h3
   .cases h
  .cases h
 .split at h
  .subst f;unfold extS at h;split at h
   .rename_i hc;obtain⟨h1,h2,h3⟩:=hc.choose_spec;generalize hc.choose=rows at h h1 h2 h3;subst h1;cases h;exact Zbye h2 h3
   .cases h
  .cases h
 .split at h
  .subst f;unfold extI at h;split at h
   .rename_i hc;obtain⟨h1,h2⟩:=hc.choose_spec;generalize hc.choose=l at h h1 h2;subst h1;cases h;exact Zbyf kitSortI Zbyh h2
   .cases h
  .split at h
   .subst f;unfold extI at h;split at h
    .rename_i hc;obtain⟨h1,h2⟩:=hc.choose_spec;generalize hc.choose=l at h h1 h2;subst h1;cases h;exact Zbyg kitCptI kitCptI0 h2
    .cases h
   .cases h
 .cases h
theorem sound{f:Nat}{xs:List AV}{h0:List Blk}{r:AV}{hr:List Blk}(h:C f xs h0=some (r,hr)):Zbq Tryz.prog f xs h0 r hr:=Zbhn tbl_ok Zbyj h
end Go.Proofs.YtooakifnnhhnhaaGreat
