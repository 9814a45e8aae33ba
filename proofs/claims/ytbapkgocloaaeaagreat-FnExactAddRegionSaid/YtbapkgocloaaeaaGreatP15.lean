/-
  Parts of the proofs for this seat: AMDel.
-/
import Derived.Test.YtbapkgocloaaeaaGreatP1
set_option linter.unusedSimpArgs false
set_option linter.unusedVariables false
namespace Go.AM
open Go.RowKit (Below)
theorem flatten_cut {es:List (List T)} {i j:Nat} (hij:i≤j):es.flatten=(es.take i).flatten++((es.take j).drop i).flatten++(es.drop j).flatten:=by
 rw [← List.flatten_append,← List.flatten_append]
 congr 1
 have h1:es.take i=(es.take j).take i:=by rw [List.take_take,Nat.min_eq_left hij]
 rw [h1,List.take_append_drop,List.take_append_drop]
theorem del_rel {N:Par} {base:Nat} {ρ:Map} {w w':World} {el sz:Nat} {fr:Bool} {es:List (List T)} (R:Rel N base ρ [.arr el sz fr es] w) {r:Root} (hr:ρ 0=some r) (hdom:∀ b,1≤b→ρ b=none)
  {g cap e':Nat} {cur:Array Value} (hrv:r.v=.slice (some ⟨g,0,none⟩) es.length cap) (hg:w.heap[g]?=some (.cells cur e' (0,0)))
  {i j:Nat} (hij:i≤j) (hj:j≤es.length) {zs:List Value} (hz:zs.length=(j - i)*sz) (hcs:∃ c2,w'.heap[g]?=some (.cells c2 e' (0,0))∧c2.toList=cur.toList.take (i*sz)++(cur.toList.take (es.length*sz)).drop (j*sz)++zs++cur.toList.drop (es.length*sz))
  (hgr:w.grownBy w' (some g)) :
  ∃ fp',Rel N base (updM ρ 1 ⟨.slice (some ⟨g,0,none⟩) (i+(es.length - j)) cap,fp',[]⟩) [.dead,.arr el sz fr (es.take i++es.drop j)] w' ∧
   Keeps ρ w (Free N ρ [.arr el sz fr es]) (updM ρ 1 ⟨.slice (some ⟨g,0,none⟩) (i+(es.length - j)) cap,fp',[]⟩) w' (Free N (updM ρ 1 ⟨.slice (some ⟨g,0,none⟩) (i+(es.length - j)) cap,fp',[]⟩) [.dead,.arr el sz fr (es.take i++es.drop j)]) ∧
   ∀ g,g<w.heap.size→¬ N.a g→w'.heap[g]?=w.heap[g]?:=by
 have hb:gt [Blk.arr el sz fr es] 0=.arr el sz fr es:=by simp [gt]
 have hd:gt [Blk.arr el sz fr es] 0≠.dead:=by rw [hb];intro hc;cases hc
 obtain ⟨r1,h1,h2⟩:=R.blk 0 hd
 rw [hr] at h1
 cases h1
 rw [hb] at h2
 obtain ⟨hex,e2,xs,hel,ho,hsz,hlen,htr,hfree,hfr,how⟩:=h2
 obtain ⟨hxl,ho⟩:=ho
 rcases ho with ⟨ho,_⟩ | ⟨g2,cap2,cur2,ho,hbg,hg2,hcap,hcm,hcur,htake⟩
 ·rw [hrv] at ho;cases ho
 rw [hrv] at ho
 cases ho
 rw [hg] at hg2
 cases hg2
 have hblk:blkOf r.v=some g:=by rw [hrv];rfl
 have hmul:j*sz≤es.length*sz:=Nat.mul_le_mul_right _ hj
 have hmul1:i*sz≤j*sz:=Nat.mul_le_mul_right _ hij
 have hmul2:es.length*sz≤cap*sz:=Nat.mul_le_mul_right _ hcap
 have hms:(j - i)*sz=j*sz - i*sz:=Nat.sub_mul _ _ _
 have hms2:(i+(es.length - j))*sz=i*sz+(es.length*sz - j*sz):=by rw [Nat.add_mul,Nat.sub_mul]
 have hcut:=flatten_cut (es:=es) hij
 rw [hcut] at htr how
 obtain ⟨fa,fb,fc,hfp,hnew⟩:=htr.splice (ts:=[]) (ys:=[]) (fq:=[]) .nil
 have hnewo:fr=true→_:=fun hff=>(how hff).splice (ts:=[]) (ys:=[]) .nil
 have hAl:(es.take i).flatten.length=i*sz:=by
  rw [flatten_len fun x hx=>hlen x (List.mem_of_mem_take hx),List.length_take]
  rw [Nat.min_eq_left (by omega)]
 have hBl:((es.take j).drop i).flatten.length=(j - i)*sz:=by
  rw [flatten_len fun x hx=>hlen x (List.mem_of_mem_take (List.mem_of_mem_drop hx)),List.length_drop,List.length_take,Nat.min_eq_left hj]
 rw [hAl,hBl,show i*sz+(j - i)*sz=j*sz by omega,List.append_nil,List.append_nil,← List.flatten_append,List.append_nil] at hnew
 simp only [hAl,hBl,show i*sz+(j - i)*sz=j*sz by omega,List.append_nil,← List.flatten_append] at hnewo
 have hlt1:=htr.lt
 have hgx:∀ g∈fa++fc,g∈r.fp:=by
  intro x hx
  rw [hfp]
  simp only [List.mem_append] at hx ⊢
  rcases hx with hx | hx
  ·exact .inl (.inl hx)
  ·exact .inr hx
 have hset:∀ x∈es.take i++es.drop j,x.length=sz:=by
  intro x hx
  rcases List.mem_append.1 hx with hx | hx
  ·exact hlen x (List.mem_of_mem_take hx)
  ·exact hlen x (List.mem_of_mem_drop hx)
 have hln:(es.take i++es.drop j).length=i+(es.length - j):=by
  rw [List.length_append,List.length_take,List.length_drop,Nat.min_eq_left (by omega)]
 obtain ⟨c2,hg2,hc2⟩:=hcs
 have hup:upd [Blk.arr el sz fr es] (kill [0]++[(1,.arr el sz fr (es.take i++es.drop j))])=[.dead,.arr el sz fr (es.take i++es.drop j)]:=by simp [upd,kill,stB]
 have hp:=put_rel R (n:=1) (ks:=[0]) (x:=.arr el sz fr (es.take i++es.drop j)) (r:=⟨.slice (some ⟨g,0,none⟩) (i+(es.length - j)) cap,fa++fc,[]⟩) (row:=some g) (w':=w')
  (by intro r0 h0;rw [hdom 1 (Nat.le_refl _)] at h0;cases h0) hgr
  (by intro g' hg';cases hg';exact ⟨0,.inl (by simp),r,hr,hd,.inl hblk⟩)
  (by intro g' hg';cases hg';exact .inr ⟨0,.inl (by simp),r,hr,hd,.inl hblk⟩)
  (fun hk=>by
   have hall:∀ g'∈fa++fc,Free N (updM ρ 1 ⟨.slice (some ⟨g,0,none⟩) (i+(es.length - j)) cap,fa++fc,[]⟩) (upd [Blk.arr el sz fr es] (kill [0]++[(1,.arr el sz fr (es.take i++es.drop j))])) g'∧w'.heap[g']?=w.heap[g']?:=fun g' hg'=>hk.free g' (hlt1 g' (hgx g' hg')) (hfree g' (hgx g' hg'))
   refine ⟨rfl,e',xs.take (i*sz)++xs.drop (j*sz),hel,⟨?_,.inr ⟨g,cap,c2,by rw [hln],hbg,hg2,by rw [hln];omega,hcm,?_,?_⟩⟩,hsz,hset,hnew.frame fun g' hg'=>(hall g' hg').2,fun g' hg'=>(hall g' hg').1,?_,fun hff=>(hnewo hff).frame hnew fun g' hg'=>(hall g' hg').2⟩
   ·rw [hln,List.length_append,List.length_take,List.length_drop,hxl]
    omega
   ·rw [← Array.length_toList,hc2]
    simp only [List.length_append,List.length_take,List.length_drop,Array.length_toList,hcur,hz]
    omega
   ·rw [hc2,hln,← htake,List.append_assoc,List.append_assoc]
    have e1:(cur.toList.take (es.length*sz)).take (i*sz)=cur.toList.take (i*sz):=by rw [List.take_take];congr 1;omega
    rw [e1,← List.append_assoc]
    exact List.take_left' (by simp only [List.length_append,List.length_take,List.length_drop,Array.length_toList,hcur];omega)
   ·intro hff
    have h1:=hfr hff
    refine ⟨?_,fun x hx=>h1.2 x (hgx x hx)⟩
    have h3:=h1.1
    rw [hfp] at h3
    rw [List.nodup_append,List.nodup_append] at h3
    rw [List.nodup_append]
    exact ⟨h3.1.1,h3.2.1,fun x hx y hy=>h3.2.2 x (by simp [hx]) y hy⟩)
  (by
   intro hff x hx d rd hdk hdn hrd hfd
   cases d with
   | zero=>simp at hdk
   | succ d=>rw [hdom (d+1) (by omega)] at hrd;cases hrd)
 rw [hup] at hp
 exact ⟨fa++fc,hp⟩
end Go.AM
