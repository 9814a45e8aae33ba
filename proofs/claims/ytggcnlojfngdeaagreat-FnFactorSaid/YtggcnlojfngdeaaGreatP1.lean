/-
  Parts of the proofs for this seat: AMCore AMW AMComp AMRel AMStep AMOps1 AMOps2 AMOps3 AMOps4.
-/
import Derived.Below
import Derived.Calls
import Derived.Great.BuildSlice
import Derived.Laws.AppendOwn
import Derived.Laws.MakeOwn
import Derived.Still
import Derived.WalkKit
set_option linter.all false
namespace Go.AM
theorem Z{p:Prop}(h:p:=by omega):p:=h
theorem Om{p:Prop}(h:p:=by simp):p:=h
theorem Sm{p:Prop}(h:p:=by decide):p:=h
def Ao{c:Prop}[Decidable c]{α:Sort _}{a b:α}(h:c:=by omega):ite c a b=a:=if_pos h
def Ap{c:Prop}[Decidable c]{α:Sort _}{a b:α}(h:¬c:=by omega):ite c a b=b:=if_neg h
abbrev XV:=List (List Int)
abbrev WL:=List Int
abbrev V2:=List Nat
abbrev V3:=List Value
abbrev V5:=ByteArray
abbrev Ya:=@if_pos
abbrev Yb:=@if_neg
abbrev Yc:=@Nat.zero_le
abbrev Yd:=@Bool.and_eq_true
abbrev Ye:=@List.getElem_mem
abbrev Yf:=@List.getElem?_eq_getElem
abbrev Yg:=@Eq.trans
abbrev Yh:=@List.drop_eq_getElem_cons
abbrev Yi:=@List.mem_append
abbrev Yj:=@Int.toNat_natCast
abbrev Yk:=@Nat.le_refl
abbrev Yl:=@Bool.true_and
abbrev Ym:=@List.drop_length
abbrev Yn:=@List.all_eq_true
abbrev Yo:=@Option.map_eq_some_iff
abbrev Yp:=@List.mem_map
abbrev Yq:=@List.drop_zero
abbrev Yr:=@List.take_length
abbrev Ys:=@Int.natCast_add
abbrev Yt:=@Int.cast_ofNat_Int
abbrev Yu:=@List.length_append
abbrev Yv:=@Nat.zero_add
abbrev Yw:=@List.length_take
abbrev Yx:=@List.map_cons
abbrev Yy:=@List.length_cons
abbrev Yz:=@List.mem_cons
abbrev Y0:=@List.getElem?_eq_some_iff
abbrev Y1:=@Array.length_toList
abbrev Y2:=@List.nodup_nil
abbrev Y3:=@List.mem_of_getElem?
abbrev Y4:=@List.length_pos_iff
abbrev Y5:=@List.take_succ_eq_append_getElem
abbrev Y6:=@List.foldl_cons
abbrev Y7:=@Option.some.injEq
abbrev Y8:=@Nat.le_trans
abbrev Y9:=@List.pairwise_cons
abbrev Cz:=@List.all_cons
abbrev CA:=@List.nodup_append
abbrev CB:=@List.mem_filter
abbrev CD:=@List.length_set
abbrev CE:=@List.map_append
abbrev CF:=@List.mem_range
abbrev Dy:=@List.length_map
abbrev Dk:=@List.mem_of_mem_take
abbrev Dl:=@Nat.lt_or_ge
abbrev CW:=@Prod.mk.injEq
abbrev Dm:=@List.map_nil
abbrev DT:=@List.append_assoc
abbrev DJ:=@Nat.min_eq_left
abbrev Dz:=@Nat.add_zero
abbrev DA:=@Nat.mul_le_mul_right
abbrev DK:=@Nat.add_mul
abbrev DL:=@Array.toList_map
abbrev DU:=@List.map_congr_left
abbrev E2:=@List.flatten_append
abbrev DV:=@List.mem_or_eq_of_mem_set
abbrev DW:=@List.nil_append
abbrev DX:=@List.range_succ
abbrev DY:=@Nat.sub_self
abbrev DZ:=@List.getD_eq_getElem?_getD
abbrev Iq:=@List.drop_drop
abbrev E3:=@List.append_nil
abbrev E4:=@List.mem_append_left
abbrev E5:=@Nat.lt_succ_self
abbrev Fe:=@List.take_take
abbrev Ff:=@List.length_nil
abbrev Fg:=@Bool.eq_iff_iff
abbrev Fh:=@Bool.false_or
abbrev OI:=@List.drop_take
abbrev Ir:=@List.nodup_cons
abbrev Gx:=@Nat.one_mul
abbrev Gy:=@Bool.false_and
abbrev Is:=@List.mem_of_mem_drop
abbrev OJ:=@List.flatten_cons
abbrev OK:=@Array.toList_inj
abbrev It:=@List.getElem?_eq_none
abbrev Iu:=@Array.getD_eq_getD_getElem?
abbrev Iv:=@List.mem_append_right
abbrev Iw:=@List.any_cons
abbrev OL:=@List.filter_eq_nil_iff
abbrev Tu:=@List.take_of_length_le
abbrev OM:=@List.eq_nil_of_length_eq_zero
abbrev ON:=@List.ext_getElem
abbrev rC:=@Nat.lt_trichotomy
abbrev Ycm:=@List.pairwise_iff_getElem
abbrev OO:=@Nat.lt_of_lt_of_le
abbrev Tv:=@List.cons.injEq
abbrev Ycp:=@List.range'_succ
abbrev OP:=@List.drop_of_length_le
abbrev rD:=@List.mem_flatten
abbrev Tw:=@List.length_drop
abbrev Tx:=@List.getElem?_map
abbrev Ty:=@Nat.add_assoc
abbrev Tz:=@List.length_eq_zero_iff
abbrev TA:=@List.length_filter_le
abbrev Ycx:=@List.take_append_drop
abbrev rE:=@List.replicate_succ
abbrev rF:=@Bool.or_eq_true
abbrev rG:=@Bool.false_eq_true
abbrev Yc1:=@Option.bind_eq_some_iff
abbrev rH:=@List.getElem?_append_left
abbrev rI:=@List.mergeSort_perm
abbrev Yc4:=@Int.lt_or_eq_of_le
abbrev Yc5:=@Array.getElem?_eq_some_iff
abbrev Yc6:=@List.size_toArray
abbrev Yc7:=@List.eq_of_mem_replicate
abbrev Yc8:=@List.length_replicate
abbrev Yc9:=@List.getElem?_take
abbrev Yda:=@List.flatMap_cons
abbrev Ydb:=@List.getElem?_of_mem
abbrev Ydc:=@Nat.add_sub_cancel
abbrev Ydd:=@List.any_eq_false
abbrev Yde:=@List.headD_eq_head?_getD
inductive T where
 |int (k:IntKind) (n:Int)
 |bool (b:Bool)
 |str (s:V5)
 |nil
 |any
 |lst (sz:Nat) (es:List (List T))
 deriving Inhabited
inductive AV where
 |top
 |nilp
 |t (x:T)
 |agg (cs:List AV)
 |tup (vs:List AV)
 |ptr (b off:Nat)
 |eptr (b i sz off:Nat)
 |iptr (cs:List T) (off:Nat)
 |own (b:Nat)
 |bsl (b n:Nat)
 |fn (f:Nat) (caps:List AV)
 deriving Inhabited
inductive Ax where
 |dead
 |box (cs:List AV)
 |arr (e:TypeId) (sz:Nat) (fr:Bool) (es:List (List T))
 |xarr (e:TypeId) (sz:Nat) (es:List (List T))
 |det (e:TypeId) (sz:Nat) (es:List (List T)) (i off b:Nat)
 deriving Inhabited
abbrev XP:=Option (AV × List Ax)
abbrev XQ:=List AV
abbrev XS:=AV × List Ax
abbrev WA:=List (List T)
abbrev WM:=List Ax
abbrev V4:=List T
def Co:TypeId:=1000000000
abbrev Env:=List (Nat×AV)
def lk(s:Nat):Env->AV
 |[]=>.top
 |(k,v)::e=>if k=s then v else lk s e
def gt(h:WM)(b:Nat):Ax:=(h[b]?).getD .dead
def stB:WM->Nat->Ax->WM
 |[],0,x=>[x]
 |[],b+1,x=>.dead::stB [] b x
 |_::h,0,x=>x::h
 |y::h,b+1,x=>y::stB h b x
def upd(h:WM):List (Nat×Ax)->WM
 |[]=>h
 |(b,x)::u=>upd (stB h b x) u
inductive AO where
 |s (i:Nat)
 |c (v:AV)
 deriving Inhabited
def ev(e:Env):AO->AV
 |.s i=>lk i e
 |.c v=>v
inductive AY where
 |mov (x:AO)
 |pick (c a b:AO)
 |alloc (zs:XQ)
 |box (x:AO)
 |build (zs:XQ) (ps:List (Nat×Nat×AO))
 |bslice (e:TypeId) (sz n:Nat) (zs:V4) (ps:List (Nat×AO))
 |bsliceX (e:TypeId) (sz n:Nat) (zs:V4) (ps:List (Nat×AO))
 |bptrs (n:Nat) (ps:List (Nat×AO))
 |load (n:Option Nat) (x:AO)
 |loadU (mv:Bool) (x:AO)
 |store (n:Nat) (x v:AO)
 |storeF (n:Nat) (x v:AO)
 |storeP (n:Nat) (x v p:AO)
 |nilchk (x:AO)
 |bin (op:BinOp) (x y:AO)
 |beq (neg:Bool) (x y:AO)
 |aeq (neg:Bool) (ks:V2) (x y:AO)
 |nileq (neg sl:Bool) (x:AO)
 |mm (mx:Bool) (x y:AO)
 |un (op:UnOp) (x:AO)
 |conv (k:IntKind) (x:AO)
 |tostr (x:AO)
 |mkfn (f:Nat) (caps:List AO)
 |mkslice (e:TypeId) (sz bytes:Nat) (zs:V4) (l c:AO)
 |slice (sz:Option Nat) (x:AO) (lo hi:Option AO)
 |faddr (off:Nat) (x:AO)
 |field (off:Nat) (n:Option Nat) (x:AO)
 |iaddr (sz:Nat) (x i:AO)
 |index (x i:AO)
 |aaddr (n sz:Nat) (x i:AO)
 |aidx (n sz:Nat) (m:Option Nat) (x i:AO)
 |ext (x:AO) (i:Nat)
 |len (st:Bool) (x:AO)
 |append (e:TypeId) (sz bytes:Nat) (mv:Bool) (x y:AO)
 |call (f:Nat) (args:List AO)
 |xcall (f:Nat) (args:List AO)
 |fcall (f:Nat) (args:List AO)
 |icall (f:Nat) (args:List AO)
 |scall (f:Nat) (args:List AO) (p:AO)
 |pcall (f:Nat) (args:List AO)
 |dcall (f:AO) (args:List AO)
 deriving Inhabited
structure MO where
 dst:Option Nat
 guard:Option (Nat×Bool)   -- slot of the guarding operation,wanted value
 op:AY
 deriving Inhabited
inductive Za where
 |skip
 |reg (ops:List MO) (keep:V2)
 |regF (ops:List MO) (keep:V2)
 |drw (ops:List MO) (before:List (V2)) (keep:V2)
 |drwF (ops:List MO) (before:List (V2)) (keep:V2)
 |seq (a b:Za)
 |cond (c:AO) (x y:Za)
 |block (id:Nat) (b:Za)
 |loop (keep:V2) (b:Za)
 |exit (id:Nat)
 |ret
 deriving Inhabited
def ZX:T->Bool
 |.lst _ _=>false
 |_=>true
def flat(es:WA):Bool:=es.all λx=>x.all ZX
def cellsOf:AV->Option (XQ)
 |.agg cs=>some cs
 |.top|.tup _=>none
 |v=>some [v]
def VT(cs:XQ)(off:Nat)(vs:XQ):XQ:=cs.take off++vs++cs.drop (off+vs.length)
def AF(cs:V4)(off:Nat)(vs:V4):V4:=cs.take off++vs++cs.drop (off+vs.length)
def DB(h:WM):AV->Option (T×Bool×V2)
 |.t x=>some (x,ZX x,[])
 |.own b=>match gt h b with
  |.arr _ sz fr es=>some (.lst sz es,fr,[b])
  |.xarr _ sz es=>if es.flatten.all ZX=true then some (.lst sz es,true,[b])else none
  |_=>none
 |_=>none
def A9(h:WM):XQ->Option (V4×Bool×V2)
 |[]=>some ([],true,[])
 |v::vs=>match DB h v,A9 h vs with
  |some (x,f,ks),some (xs,g,ls)=>some (x::xs,f && g,ks++ls)
  |_,_=>none
def Dn:T->T->T
 |.lst sz _,.nil=>.lst sz []
 |_,x=>x
def wk:V4->V4->V4
 |c::cs,x::xs=>Dn c x::wk cs xs
 |_,xs=>xs
def BU:XQ->V4->XQ
 |.t c::cs,x::xs=>.t (Dn c x)::BU cs xs
 |_::cs,x::xs=>.t x::BU cs xs
 |[],xs=>xs.map .t
 |_,[]=>[]
def kill(ks:V2):List (Nat×Ax):=ks.map λb=>(b,.dead)
def VU:V2->Bool
 |[]=>true
 |x::xs=>!xs.contains x && VU xs
def AC(op:BinOp):T->T->Option T
 |.int k a,.int k' b=>match op with
  |.shl=>if b<0 then none else some (.int k (k.wrap (a*2 ^ (min b.toNat k.bits))))
  |.shr=>if b<0 then none else some (.int k (a.fdiv (2 ^ (min b.toNat k.bits))))
  |_=>if k=k' then(match op with
   |.add=>some (.int k (k.wrap (a+b)))
   |.sub=>some (.int k (k.wrap (a-b)))
   |.mul=>some (.int k (k.wrap (a*b)))
   |.quo=>if b=0 then none else some (.int k (k.wrap (a.tdiv b)))
   |.rem=>if b=0 then none else some (.int k (a.tmod b))
   |.and=>some (.int k (k.wrap (BitVec.ofInt k.bits a &&& BitVec.ofInt k.bits b).toNat))
   |.or=>some (.int k (k.wrap (BitVec.ofInt k.bits a ||| BitVec.ofInt k.bits b).toNat))
   |.xor=>some (.int k (k.wrap (BitVec.ofInt k.bits a ^^^ BitVec.ofInt k.bits b).toNat))
   |.andNot=>some (.int k (k.wrap (BitVec.ofInt k.bits a &&& ~~~ BitVec.ofInt k.bits b).toNat))
   |.eql=>some (.bool (a == b))
   |.neq=>some (.bool (a != b))
   |.lss=>some (.bool (a<b))
   |.leq=>some (.bool (a<=b))
   |.gtr=>some (.bool (a > b))
   |.geq=>some (.bool (a>=b))
   |_=>none)else none
 |.str a,.str b=>match op with
  |.add=>if a.size+b.size<=9223372036854775807 then some (.str (a++b))else none
  |.eql=>some (.bool (a.toList == b.toList))
  |.neq=>some (.bool (!(a.toList == b.toList)))
  |.lss=>some (.bool (Op.bytesLess a.toList b.toList))
  |.leq=>some (.bool (Op.bytesLess a.toList b.toList || a.toList == b.toList))
  |.gtr=>some (.bool (!(Op.bytesLess a.toList b.toList || a.toList == b.toList)))
  |.geq=>some (.bool (!Op.bytesLess a.toList b.toList))
  |_=>none
 |_,_=>none
def OQ:UnOp->T->Option T
 |.not,.bool b=>some (.bool !b)
 |.neg,.int k n=>some (.int k (k.wrap (0-n)))
 |_,_=>none
def OR:Nat->T->T->Option Bool
 |1,.int k a,.int k' b=>if k=k' then some (a == b)else none
 |0,.bool a,.bool b=>some (a == b)
 |2,.str a,.str b=>some (a.toList == b.toList)
 |_,_,_=>none
def BS:V2->XQ->XQ->Option Bool
 |[],[],[]=>some true
 |k::ks,.t a::xs,.t b::ys=>match OR k a b,BS ks xs ys with
  |some r,some s=>some (r && s)
  |_,_=>none
 |_,_,_=>none
def VH(h:WM):Bool->AV->Option Bool
 |true,.t .nil=>some true
 |true,.t (.lst _ (_::_))=>some false
 |true,.own b=>match gt h b with
  |.arr _ _ _ (_::_)=>some false
  |.xarr _ _ (_::_)=>some false
  |_=>none
 |false,.nilp=>some true
 |false,.ptr _ _=>some false
 |false,.eptr _ _ _ _=>some false
 |false,.iptr _ _=>some false
 |_,_=>none
def OS:WA->Option (WL)
 |[]=>some []
 |[.int .u8 n]::es=>(OS es).map (n::·)
 |_=>none
def TB(ns:WL):V5:=⟨(ns.map λn=>UInt8.ofNat n.toNat).toArray⟩
def scal1:AV->Bool
 |.t x=>ZX x
 |.agg cs=>cs.all λc=>match c with|.t x=>ZX x|_=>false
 |_=>false
def VV(h:WM):Bool->AV->Option Nat
 |false,.t (.lst _ es)=>some es.length
 |false,.t .nil=>some 0
 |true,.t (.str s)=>some s.size
 |false,.own b=>match gt h b with
  |.arr _ _ _ es=>some es.length
  |.xarr _ _ es=>some es.length
  |_=>none
 |false,.bsl _ n=>some n
 |_,_=>none
def D0(n:Int):Option Nat:=if 0<=n then some n.toNat else none
def parts(e:Env):XQ->List (Nat×Nat×AO)->Option (XQ)
 |cs,[]=>some cs
 |cs,(off,n,x)::ps=>match cellsOf (ev e x)with
  |some vs=>if vs.length=n/\off+n<=cs.length then parts e (VT cs off vs) ps else none
  |none=>none
def elems(h:WM)(e:Env)(sz:Nat):WA->List (Nat×AO)->Option (WA×Bool×V2)
 |es,[]=>some (es,true,[])
 |es,(i,x)::ps=>match cellsOf (ev e x)with
  |some vs=>match A9 h vs with
   |some (ts,f,ks)=>if i<es.length/\vs.length=sz then(match elems h e sz (es.set i (wk (es.getD i []) ts)) ps with
    |some (es',g,ls)=>some (es',f && g,ks++ls)
    |none=>none)else none
   |none=>none
  |none=>none
def KP(e:Env):XQ->List (Nat×AO)->Option (XQ)
 |cs,[]=>some cs
 |cs,(i,x)::ps=>match cellsOf (ev e x)with
  |some [v]=>if i<cs.length then KP e (cs.set i v) ps else none
  |_=>none
def KQ(cs:V4)(off:Nat):Option Nat->Option AV
 |none=>(cs[off]?).map .t
 |some n=>if off+n<=cs.length then some (.agg (((cs.drop off).take n).map .t))else none
def U9(cs:XQ)(off:Nat):Option Nat->Option AV
 |none=>cs[off]?
 |some n=>if off+n<=cs.length then some (.agg ((cs.drop off).take n))else none
def room:Nat:=140737488355328
def Qs(h:WM)(sz:Nat)(mv:Bool):AV->Option (WA×Bool×V2)
 |.t .nil=>some ([],true,[])
 |.t (.lst sz' ys)=>if sz'=sz then some (ys,flat ys,[])else none
 |.own c=>match gt h c with
  |.arr _ sz' fr ys=>if sz'=sz then(if mv then some (ys,fr,[c])else some (ys,flat ys,[]))else none
  |_=>none
 |_=>none
def CG:Ax->Bool
 |.arr _ _ _ es=>flat es
 |_=>false
def JB(h:WM)(sz:Nat):AV->Option (Nat×WA)
 |.own c=>match gt h c with
  |.xarr _ sz' ys=>if sz'=sz then some (c,ys)else none
  |_=>none
 |_=>none
def bnd(e:Env)(d:Nat):Option AO->Option Nat
 |none=>some d
 |some o=>match ev e o with
  |.t (.int _ n)=>D0 n
  |_=>none
def Zy(h:WM)(nx:Nat)(e:Env):AY->Option (AV×List (Nat×Ax))
 |.mov x=>some (ev e x,[])
 |.pick c a b=>match ev e c with
  |.t (.bool true)=>some (ev e a,[])
  |.t (.bool false)=>some (ev e b,[])
  |_=>none
 |.alloc zs=>some (.ptr nx 0,[(nx,.box zs)])
 |.box x=>match cellsOf (ev e x)with
  |some cs=>some (.ptr nx 0,[(nx,.box cs)])
  |none=>none
 |.build zs ps=>match parts e zs ps with
  |some cs=>some (.agg cs,[])
  |none=>none
 |.bslice el sz n zs ps=>match elems h e sz (List.replicate n zs) ps with
  |some (es,fr,ks)=>if VU ks then some (.own nx,kill ks++[(nx,.arr el sz fr es)])else none
  |none=>none
 |.bsliceX el sz n zs ps=>match elems h e sz (List.replicate n zs) ps with
  |some (es,fr,ks)=>if VU ks/\fr=true/\ks.all (λk=>CG (gt h k))then some (.own nx,kill ks++[(nx,.xarr el sz es)])else none
  |none=>none
 |.bptrs n ps=>match KP e (List.replicate n .nilp) ps with
  |some cs=>some (.bsl nx n,[(nx,.box cs)])
  |none=>none
 |.load n x=>match ev e x with
  |.ptr b off=>match gt h b with
   |.box cs=>(U9 cs off n).map (·,[])
   |_=>none
  |.eptr b i sz off=>match gt h b with
   |.arr _ sz' _ es=>if sz=sz' then(match es[i]? with
    |some cs=>(KQ cs off n).map (·,[])
    |none=>none)else none
   |.xarr _ sz' es=>if sz=sz' then(match es[i]? with
    |some cs=>match KQ cs off n with
     |some v=>if scal1 v=true then some (v,[])else none
     |none=>none
    |none=>none)else none
   |_=>none
  |.iptr cs off=>(KQ cs off n).map (·,[])
  |_=>none
 |.loadU mv x=>match ev e x with
  |.ptr b off=>match gt h b with
   |.box cs=>(U9 cs off none).map (·,[])
   |_=>none
  |.eptr b i sz off=>match gt h b with
   |.xarr el sz' es=>if sz=sz' then(match es[i]? with
    |some cs=>match cs[off]? with
     |some (.lst Bz (y::ys))=>some (.own nx,[(b,if mv then .xarr el sz' (es.set i (AF cs off [.any]))else .det el sz' es i off nx),(nx,.xarr Co Bz (y::ys))])
     |some (.lst Bz [])=>some (.t (.lst Bz []),[])
     |_=>none
    |none=>none)else none
   |_=>none
  |_=>none
 |.store n x v=>match cellsOf (ev e v)with
  |some vs=>if vs.length=n then(match ev e x with
   |.ptr b off=>match gt h b with
    |.box cs=>if off+n<=cs.length then some (.top,[(b,.box (VT cs off vs))])else none
    |_=>none
   |.eptr b i sz off=>match gt h b with
    |.arr el sz' fr es=>match es[i]?,A9 h vs with
     |some cs,some (ts,f,ks) =>
      if off+n<=cs.length/\VU (b::ks)/\sz=sz' then some (.top,kill ks++[(b,.arr el sz' (fr && f) (es.set i (AF cs off (wk (cs.drop off) ts))))])else none
     |_,_=>none
    |.xarr el sz' es=>match es[i]?,A9 h vs with
     |some cs,some (ts,_,_) =>
      if off+n<=cs.length/\ts.all ZX/\sz=sz' then some (.top,[(b,.xarr el sz' (es.set i (AF cs off (wk (cs.drop off) ts))))])else none
     |_,_=>none
    |_=>none
   |_=>none)else none
  |none=>none
 |.storeP n x v p=>match ev e x,ev e p with
  |.eptr c j sz off,.eptr b _ _ _=>match gt h c,gt h b,cellsOf (ev e v)with
   |.xarr el2 Bz es2,.det el TC es i D1 c',some vs=>if c'=c/\b≠c/\vs.length=n then(match es2[j]?,A9 h vs with
    |some cs,some (ts,_,_)=>if off+n<=cs.length/\ts.all ZX/\sz=Bz then
      some (.top,[(c,.xarr el2 Bz (es2.set j (AF cs off (wk (cs.drop off) ts)))),(c,.dead),(b,.xarr el TC (es.set i (AF (es.getD i []) D1 [.lst Bz (es2.set j (AF cs off (wk (cs.drop off) ts)))])))])else none
    |_,_=>none)else none
   |_,_,_=>none
  |_,_=>none
 |.storeF n x v=>match cellsOf (ev e v)with
  |some vs=>if vs.length=n then(match ev e x with
   |.ptr b off=>match gt h b with
    |.box cs=>match A9 h vs with
     |some (ts,_,ks)=>if off+n<=cs.length/\VU (b::ks)then some (.top,kill ks++[(b,.box (VT cs off (BU (cs.drop off) ts)))])else none
     |none=>none
    |_=>none
   |_=>none)else none
  |none=>none
 |.nilchk x=>match ev e x with
  |.ptr b off=>some (.ptr b off,[])
  |.eptr b i sz off=>some (.eptr b i sz off,[])
  |.iptr cs off=>some (.iptr cs off,[])
  |.fn f cs=>some (.fn f cs,[])
  |_=>none
 |.bin op x y=>match ev e x,ev e y with
  |.t a,.t b=>(AC op a b).map (.t ·,[])
  |_,_=>none
 |.beq neg x y=>match ev e x,ev e y with
  |.t (.bool a),.t (.bool b)=>some (.t (.bool (neg != (a == b))),[])
  |_,_=>none
 |.aeq neg ks x y=>match ev e x,ev e y with
  |.agg xs,.agg ys=>match BS ks xs ys with
   |some r=>some (.t (.bool (neg != r)),[])
   |none=>none
  |_,_=>none
 |.nileq neg sl x=>match VH h sl (ev e x)with
  |some r=>some (.t (.bool (neg != r)),[])
  |none=>none
 |.mm mx x y=>match ev e x,ev e y with
  |.t (.int k a),.t (.int _ b)=>some (.t (.int k (if mx then(if b > a then b else a)else(if b<a then b else a))),[])
  |_,_=>none
 |.un op x=>match ev e x with
  |.t a=>(OQ op a).map (.t ·,[])
  |_=>none
 |.conv k x=>match ev e x with
  |.t (.int _ n)=>some (.t (.int k (k.wrap n)),[])
  |_=>none
 |.tostr x=>match ev e x with
  |.own b=>match gt h b with
   |.arr _ 1 _ es=>(OS es).map λns=>(.t (.str (TB ns)),[])
   |_=>none
  |_=>none
 |.mkfn f caps=>some (.fn f (caps.map (ev e)),[])
 |.mkslice el sz bytes zs l c=>match ev e l,ev e c with
  |.t (.int _ l),.t (.int _ c) =>
   if 0<=l/\l<=c/\c.toNat*bytes<=room/\c<=140737488355328 then some (.own nx,[(nx,.arr el sz true (List.replicate l.toNat zs))])else none
  |_,_=>none
 |.slice sz x lo hi=>match bnd e 0 lo with
  |none=>none
  |some l=>match sz,ev e x with
   |none,.t (.str s)=>match bnd e s.size hi with
    |some r=>if l<=r/\r<=s.size then some (.t (.str (s.extract l r)),[])else none
    |none=>none
   |some sz,.t (.lst sz' es)=>match bnd e es.length hi with
    |some r=>if l<=r/\r<=es.length/\sz'=sz then some (.t (.lst sz ((es.take r).drop l)),[])else none
    |none=>none
   |some sz,.own b=>match gt h b with
    |.arr el sz' fr es=>match bnd e es.length hi with
     |some r=>if l=0/\r<=es.length/\sz'=sz then some (.own nx,kill [b]++[(nx,.arr el sz fr (es.take r))])else none
     |none=>none
    |_=>none
   |_,_=>none
 |.faddr off x=>match ev e x with
  |.ptr b o=>some (.ptr b (o+off),[])
  |.eptr b i sz o=>some (.eptr b i sz (o+off),[])
  |.iptr cs o=>some (.iptr cs (o+off),[])
  |_=>none
 |.field off n x=>match ev e x with
  |.agg cs=>(U9 cs off n).map (·,[])
  |_=>none
 |.iaddr sz x i=>match ev e i with
  |.t (.int _ n)=>if 0<=n then(match ev e x with
   |.t (.lst sz' es)=>if sz'=sz then(match es[n.toNat]? with
    |some cs=>some (.iptr cs 0,[])
    |none=>none)else none
   |.own b=>match gt h b with
    |.arr _ sz' _ es=>if sz'=sz/\n.toNat<es.length then some (.eptr b n.toNat sz 0,[])else none
    |.xarr _ sz' es=>if sz'=sz/\n.toNat<es.length then some (.eptr b n.toNat sz 0,[])else none
    |_=>none
   |.bsl b m=>if sz=1/\n.toNat<m then some (.ptr b n.toNat,[])else none
   |_=>none)else none
  |_=>none
 |.index x i=>match ev e x,ev e i with
  |.t (.str s),.t (.int _ n)=>if 0<=n then(match s[n.toNat]? with
   |some b=>some (.t (.int .u8 b.toNat),[])
   |none=>none)else none
  |_,_=>none
 |.aaddr n sz x i=>match ev e i with
  |.t (.int _ k)=>if 0<=k/\k.toNat<n then(match ev e x with
   |.ptr b o=>some (.ptr b (o+k.toNat*sz),[])
   |.eptr b j s o=>some (.eptr b j s (o+k.toNat*sz),[])
   |.iptr cs o=>some (.iptr cs (o+k.toNat*sz),[])
   |_=>none)else none
  |_=>none
 |.aidx n sz m x i=>match ev e i with
  |.t (.int _ k)=>if 0<=k/\k.toNat<n then(match ev e x with
   |.agg cs=>(U9 cs (k.toNat*sz) m).map (·,[])
   |_=>none)else none
  |_=>none
 |.ext x i=>match ev e x with
  |.tup vs=>(vs[i]?).map (·,[])
  |_=>none
 |.len st x=>match VV h st (ev e x)with
  |some n=>some (.t (.int .i64 (n:Int)),[])
  |none=>none
 |.append el sz bytes mv x y=>match JB h sz (ev e y)with
  |some (k,ys)=>match ev e x with
    |.t .nil=>if ys.length*bytes<=room/\ys.length<=room then some (.own nx,kill [k]++[(nx,.xarr el sz ys)])else none
    |.own b=>match gt h b with
     |.xarr BV sz' es =>
      if BV=el/\sz'=sz/\b≠k/\(es.length+ys.length)*bytes<=room/\es.length+ys.length<=room then
       some (.own nx,kill [b,k]++[(nx,.xarr el sz (es++ys))])else none
     |_=>none
    |_=>none
  |none=>match Qs h sz mv (ev e y)with
   |some (ys,f,ks)=>match ev e x with
    |.t .nil=>if ys.length*bytes<=room/\ys.length<=room then some (.own nx,kill ks++[(nx,.arr el sz f ys)])else none
    |.own b=>match gt h b with
     |.arr BV sz' fr es =>
      if BV=el/\sz'=sz/\VU (b::ks)/\(es.length+ys.length)*bytes<=room/\es.length+ys.length<=room then
       some (.own nx,kill (b::ks)++[(nx,.arr el sz (fr && f) (es++ys))])else none
     |_=>none
    |_=>none
   |none=>none
 |.call _ _|.xcall _ _|.fcall _ _|.icall _ _|.scall _ _ _|.pcall _ _|.dcall _ _=>none
def BF(h:WM):AV->Option T
 |.t x=>some x
 |.own b=>match gt h b with
  |.arr _ sz _ es=>some (.lst sz es)
  |.xarr _ sz es=>some (.lst sz es)
  |_=>none
 |_=>none
def Qt(h:WM):XQ->Option (V4)
 |[]=>some []
 |v::vs=>match BF h v,Qt h vs with
  |some x,some xs=>some (x::xs)
  |_,_=>none
def Bt(h:WM):AV->Option AV
 |.t x=>some (.t x)
 |.nilp=>some .nilp
 |.iptr cs off=>some (.iptr cs off)
 |.own b=>match gt h b with
  |.arr _ sz _ es=>some (.t (.lst sz es))
  |.xarr _ sz es=>some (.t (.lst sz es))
  |_=>none
 |.ptr b off=>match gt h b with
  |.box cs=>match Qt h cs with
   |some ts=>some (.iptr ts off)
   |none=>none
  |_=>none
 |.agg cs=>match Qt h cs with
  |some ts=>some (.agg (ts.map .t))
  |none=>none
 |_=>none
def JC(h:WM):XQ->Option (XQ)
 |[]=>some []
 |v::vs=>match Bt h v,JC h vs with
  |some x,some xs=>some (x::xs)
  |_,_=>none
def Do(h:WM):AV->Option AV
 |.fn g cs=>match JC h cs with
  |some ds=>some (.fn g ds)
  |none=>none
 |v=>Bt h v
def AG(h:WM):XQ->Option (XQ)
 |[]=>some []
 |v::vs=>match Do h v,AG h vs with
  |some x,some xs=>some (x::xs)
  |_,_=>none
def DC:AV->Bool
 |.t _|.own _|.agg _=>true
 |_=>false
def Cu(h:WM):AV->Option AV
 |.tup vs=>if vs.all DC=true then(match AG h vs with
  |some ds=>some (.tup ds)
  |none=>none)else none
 |v=>if DC v=true then Do h v else none
mutual
def ren(f:Nat->Nat):AV->AV
 |.agg cs=>.agg (rens f cs)
 |.tup vs=>.tup (rens f vs)
 |.ptr b off=>.ptr (f b) off
 |.eptr b i sz off=>.eptr (f b) i sz off
 |.own b=>.own (f b)
 |.bsl b n=>.bsl (f b) n
 |.fn g cs=>.fn g (rens f cs)
 |v=>v
def rens(f:Nat->Nat):XQ->XQ
 |[]=>[]
 |v::vs=>ren f v::rens f vs
end
def A0(f:Nat->Nat):Ax->Ax
 |.box cs=>.box (rens f cs)
 |.det e sz es i off b=>.det e sz es i off (f b)
 |b=>b
mutual
def refs:AV->V2
 |.agg cs=>Z8 cs
 |.tup vs=>Z8 vs
 |.ptr b _=>[b]
 |.eptr b _ _ _=>[b]
 |.own b=>[b]
 |.bsl b _=>[b]
 |.fn _ cs=>Z8 cs
 |_=>[]
def Z8:XQ->V2
 |[]=>[]
 |v::vs=>refs v++Z8 vs
end
def W5:Ax->V2
 |.box cs=>Z8 cs
 |.det _ _ _ _ _ b=>[b]
 |_=>[]
structure S where
 env:Env
 stk:List Env
 h:WM
 deriving Inhabited
inductive X where
 |n
 |x (id:Nat)
 |r
def put(d:Option Nat)(v:AV)(e:Env):Env:=match d with
 |some d=>(d,v)::e
 |none=>e
def rst(keep:V2)(e:Env):Env:=keep.map λk=>(k,lk k e)
def scrub(h:WM):AV->AV
 |.own b=>match gt h b with
  |.dead=>.top
  |_=>.own b
 |v=>v
def Ix(h:WM)(e:Env):Env:=e.map λp=>(p.1,scrub h p.2)
def Xp(h:WM):Nat->V2->V2->V2
 |0,_,acc=>acc
 |_,[],acc=>acc
 |n+1,b::todo,acc=>if acc.contains b then Xp h n todo acc else Xp h n (W5 (gt h b)++todo) (acc++[b])
def idx(b:Nat):V2->Nat->Nat
 |[],i=>i
 |c::cs,i=>if c=b then i else idx b cs (i+1)
def Kw(e:Env):V2:=e.flatMap λp=>refs p.2
def CX(f:Nat->Nat)(e:Env):Env:=e.map λp=>(p.1,ren f p.2)
def Qg(h:WM)(ids rs:V2):Bool:=rs.all (ids.contains ·) && ids.all λb=>(W5 (gt h b)).all (ids.contains ·)
def Qu(keep:V2)(s:S):S :=
 let env:=Ix s.h (rst keep s.env)
 let rs:=Kw env++s.stk.flatMap Kw
 let ids:=Xp s.h 200 rs []
 if Qg s.h ids rs then
  let f:=λb=>idx b ids 0
  { env:=CX f env,stk:=s.stk.map (CX f),h:=ids.map λb=>A0 f (gt s.h b) }
 else { env:=[],stk:=s.stk,h:=s.h }
def shift(n:Nat)(v:AV):AV:=ren (λb=>b+n) v
def AH(n:Nat):WM->Nat->List (Nat×Ax)
 |[],_=>[]
 |b::bs,i=>(n+i,A0 (λc=>c+n) b)::AH n bs (i+1)
mutual
def QL:AV->Bool
 |.t x=>ZX x
 |.agg cs=>UE cs
 |.tup cs=>UE cs
 |.fn _ cs=>UE cs
 |.iptr _ _=>false
 |_=>true
def UE:XQ->Bool
 |[]=>true
 |v::vs=>QL v && UE vs
end
def OT:Ax->Bool
 |.dead=>true
 |.box cs=>UE cs
 |.arr _ _ fr _=>fr
 |.xarr _ _ _=>true
 |.det _ _ _ _ _ _=>true
def CH(r:AV)(hr:WM):Bool:=QL r && hr.all OT
def UF(args:XQ):Bool:=(Z8 args).isEmpty
inductive Cp where
 |tmp (t:Nat)
 |cell (a:Nat) (n:Option Nat)
 |tmpO (t:Nat) (l:List (Option (Nat×Nat)))
 |cellO (a:Nat) (n:Option Nat) (l:List (Option (Nat×Nat)))
structure Ab where
 np:Nat
 nt:Nat
 res:List Cp
 body:Za
def JD(s:S):Cp->Option AV
 |.tmp t=>some (lk t s.env)
 |.tmpO t _=>some (lk t s.env)
 |.cell a n=>match lk a s.env with
  |.ptr b off=>match gt s.h b with
   |.box cs=>U9 cs off n
   |_=>none
  |_=>none
 |.cellO a n _=>match lk a s.env with
  |.ptr b off=>match gt s.h b with
   |.box cs=>U9 cs off n
   |_=>none
  |_=>none
def UG(s:S):List Cp->Option (XQ)
 |[]=>some []
 |r::rs=>match JD s r,UG s rs with
  |some v,some vs=>some (v::vs)
  |_,_=>none
def Cq(rs:List Cp)(s:S):Option AV:=match UG s rs with
 |some [v]=>some v
 |some vs=>some (.tup vs)
 |none=>none
abbrev CV:=Nat->XQ->WM->AV->WM->Prop
def ZN(h:WM)(vs:XQ):V2:=Xp h 200 (Z8 vs) []
def AW(h:WM)(ids:V2):WM:=ids.map λb=>A0 (λc=>idx c ids 0) (gt h b)
def BJ(ids:V2)(vs:XQ):XQ:=rens (λc=>idx c ids 0) vs
def bk(ids:V2)(nx i:Nat):Nat:=match ids[i]? with
 |some b=>b
 |none=>nx+(i-ids.length)
def XW(ids:V2)(nx:Nat):WM->Nat->List (Nat×Ax)
 |[],_=>[]
 |b::bs,i=>(bk ids nx i,A0 (bk ids nx) b)::XW ids nx bs (i+1)
def xB:Ax->Ax
 |.arr e sz true es=>.xarr e sz es
 |b=>b
def QM(h:WM)(u:List (Nat×Ax)):AV->Option (List (Nat×Ax))
 |.eptr b _ _ _=>if(u.map Prod.fst).contains b then none else(match gt h b with
  |.det el sz es i off c=>match gt (upd h u) c with
   |.xarr _ Bz es2=>some [(c,.dead),(b,.xarr el sz (es.set i (AF (es.getD i []) off [.lst Bz es2])))]
   |_=>none
  |.xarr _ _ _=>some []
  |_=>none)
 |.ptr _ _=>some []
 |_=>none
mutual
def Iy(b:Nat)(d:AV):AV->AV
 |.own c=>if c=b then d else .own c
 |.agg cs=>.agg (CI b d cs)
 |.tup cs=>.tup (CI b d cs)
 |.fn f cs=>.fn f (CI b d cs)
 |v=>v
def CI(b:Nat)(d:AV):XQ->XQ
 |[]=>[]
 |v::vs=>Iy b d v::CI b d vs
end
def rJ(b:Nat)(d:AV):Ax->Ax
 |.box cs=>.box (CI b d cs)
 |x=>x
def E6(b:Nat)(d:AV):Env->Env
 |[]=>[]
 |(k,v)::e=>(k,Iy b d v)::E6 b d e
def CJ(b:Nat)(d:AV)(h:WM):WM:=stB (h.map (rJ b d)) b .dead
def fzS(b:Nat)(s:S):Option S:=match gt s.h b with
 |.arr _ sz _ es=>some { env:=E6 b (.t (.lst sz es)) s.env,stk:=s.stk.map (E6 b (.t (.lst sz es))),h:=CJ b (.t (.lst sz es)) s.h }
 |.xarr _ sz es=>some { env:=E6 b (.t (.lst sz es)) s.env,stk:=s.stk.map (E6 b (.t (.lst sz es))),h:=CJ b (.t (.lst sz es)) s.h }
 |_=>none
def fzVs:XQ->S->S
 |[],s=>s
 |.own b::vs,s=>fzVs vs ((fzS b s).getD s)
 |_::vs,s=>fzVs vs s
def CK(j:Nat):List MO->List AO
 |[]=>[]
 |⟨some d,_,.mov x⟩::os=>if d=j then x::CK j os else CK j os
 |_::os=>CK j os
def Dp(all:List MO):List MO->List AO
 |[]=>[]
 |⟨_,_,.slice _ (.s j) _ _⟩::os=>CK j all++Dp all os
 |_::os=>Dp all os
def OU:AV->XQ
 |.agg cs=>cs
 |v=>[v]
def BX(s:S)(j:Nat):List MO->XQ
 |[]=>[]
 |⟨some d,_,.mov x⟩::os=>if d=j then OU (ev s.env x)++BX s j os else BX s j os
 |⟨some d,_,.load n x⟩::os=>if d=j then(match Zy s.h 0 s.env (.load n x)with|some (v,_)=>OU v|none=>[])++BX s j os else BX s j os
 |_::os=>BX s j os
def CL(s:S)(all:List MO):List AO->XQ
 |[]=>[]
 |.s j::xs=>BX s j all++CL s all xs
 |_::xs=>CL s all xs
def TD(s:S)(all:List MO):List MO->XQ
 |[]=>[]
 |⟨_,_,.icall _ xs⟩::os=>CL s all xs++TD s all os
 |⟨_,_,.call _ xs⟩::os=>CL s all xs++TD s all os
 |_::os=>TD s all os
def CM(j:Nat):List MO->Option AY
 |[]=>none
 |⟨some d,_,op⟩::os=>if d=j then some op else CM j os
 |_::os=>CM j os
def Gz(s:S)(all:List MO)(j:Nat):XQ:=match CM j all with
 |some (.load n (.s k))=>(match CM k all with
  |some (.faddr o y)=>(match Zy s.h 0 s.env (.faddr o y)with
   |some (p,_)=>(match Zy s.h 0 [(k,p)] (.load n (.s k))with
    |some (v,_)=>OU v
    |none=>[])
   |none=>[])
  |_=>[])
 |_=>[]
def Fi(s:S)(all:List MO):List MO->XQ
 |[]=>[]
 |⟨_,_,.slice _ (.s j) _ _⟩::os=>Gz s all j++Fi s all os
 |_::os=>Fi s all os
def TE(os:List MO)(s:S):S:=fzVs ((Dp os os).map (ev s.env)++TD s os os++Fi s os os) s
def fzO(o:MO)(s:S):S:=match o.op with
 |.bslice _ _ _ _ ps=>fzVs (ps.map λp=>ev s.env p.2) s
 |.slice _ x _ _=>fzVs [ev s.env x] s
 |.icall _ as=>fzVs ((as.map (ev s.env)).flatMap OU) s
 |.call _ as=>fzVs ((as.map (ev s.env)).flatMap OU) s
 |_=>s
section
variable(Γ:CV)
def WP(f:Nat)(vs:XQ)(h:WM)(nx:Nat)(K:AV->List (Nat×Ax)->Prop):Prop :=
 Qg h (ZN h vs) (Z8 vs)=true/\∃r h1,Γ f (BJ (ZN h vs) vs) (AW h (ZN h vs)) r h1/\K (ren (bk (ZN h vs) nx) r) (XW (ZN h vs) nx h1 0)
def KR(f:Nat)(vs:XQ)(h:WM)(nx:Nat)(K:AV->List (Nat×Ax)->Prop):Prop :=
 Qg h (ZN h vs) (Z8 vs)=true/\∃r hn,Γ f (BJ (ZN h vs) vs) (AW h (ZN h vs)) r (AW h (ZN h vs)++hn)/\K (ren (bk (ZN h vs) nx) r) (XW (ZN h vs) nx hn (ZN h vs).length)
def Bm(o:MO)(s:S)(K:S->Prop):Prop:=match o.op with
 |.call f args=>∃as,AG s.h (args.map (ev s.env))=some as/\∃r hr,Γ f as [] r hr/\(UF (args.map (ev s.env)) || CH r hr)=true/\
   K { s with env:=put o.dst (shift s.h.length r) s.env,h:=upd s.h (AH s.h.length hr 0) }
 |.xcall f args=>∃as,AG s.h (args.map (ev s.env))=some as/\∃r hr,Γ f as [] r hr/\CH r hr=true/\
   K { s with env:=put o.dst (shift s.h.length r) s.env,h:=upd s.h (AH s.h.length (hr.map xB) 0) }
 |.fcall f args=>∃as,AG s.h (args.map (ev s.env))=some as/\UF (args.map (ev s.env))=true/\∃r hr d,Γ f as [] r hr/\Cu hr r=some d/\K { s with env:=put o.dst d s.env,h:=upd s.h [] }
 |.icall f args=>WP Γ f (args.map (ev s.env)) s.h s.h.length λv u=>K { s with env:=put o.dst v s.env,h:=upd s.h u }
 |.scall f args p=>WP Γ f (args.map (ev s.env)) s.h s.h.length λv u=>∃u2,QM s.h u (ev s.env p)=some u2/\K { s with env:=put o.dst v s.env,h:=upd s.h (u++u2) }
 |.pcall f args=>KR Γ f (args.map (ev s.env)) s.h s.h.length λv u=>K { s with env:=put o.dst v s.env,h:=upd s.h u }
 |.dcall f args=>match ev s.env f with
  |.fn g caps=>WP Γ g (args.map (ev s.env)++caps) s.h s.h.length λv u=>K { s with env:=put o.dst v s.env,h:=upd s.h u }
  |_=>False
 |k=>match Zy s.h s.h.length s.env k with
  |some (v,u)=>K { s with env:=put o.dst v s.env,h:=upd s.h u }
  |none=>False
def D2(o:MO)(s:S)(K:S->Prop):Prop:=match o.guard with
 |none=>Bm Γ o s K
 |some (g,want)=>match lk g s.env with
  |.t (.bool b)=>if b=want then Bm Γ o s K else K { s with env:=put o.dst (.tup []) s.env }
  |.tup []=>K { s with env:=put o.dst (.tup []) s.env }
  |_=>False
def Ci:List MO->S->(S->Prop)->Prop
 |[],s,K=>K s
 |o::os,s,K=>D2 Γ o s λs'=>Ci os s' K
def KS:List MO->S->(S->Prop)->Prop
 |[],s,K=>K s
 |o::os,s,K=>D2 Γ o (fzO o s) λs'=>KS os s' K
structure AN where
 rs:V2
 ws:V2
 rb:V2
 wb:V2
def rK:AO->V2
 |.s i=>[i]
 |.c _=>[]
def Z4:AY->List AO
 |.mov x=>[x]
 |.pick c a b=>[c,a,b]
 |.alloc _=>[]
 |.box x=>[x]
 |.build _ ps=>ps.map λp=>p.2.2
 |.bslice _ _ _ _ ps=>ps.map λp=>p.2
 |.bsliceX _ _ _ _ ps=>ps.map λp=>p.2
 |.bptrs _ ps=>ps.map λp=>p.2
 |.load _ x=>[x]
 |.loadU _ x=>[x]
 |.store _ x v=>[x,v]
 |.storeF _ x v=>[x,v]
 |.storeP _ x v p=>[x,v,p]
 |.nilchk x=>[x]
 |.bin _ x y=>[x,y]
 |.beq _ x y=>[x,y]
 |.aeq _ _ x y=>[x,y]
 |.nileq _ _ x=>[x]
 |.mm _ x y=>[x,y]
 |.un _ x=>[x]
 |.conv _ x=>[x]
 |.tostr x=>[x]
 |.mkfn _ caps=>caps
 |.mkslice _ _ _ _ l c=>[l,c]
 |.slice _ x lo hi=>x::(lo.toList++hi.toList)
 |.faddr _ x=>[x]
 |.field _ _ x=>[x]
 |.iaddr _ x i=>[x,i]
 |.index x i=>[x,i]
 |.aaddr _ _ x i=>[x,i]
 |.aidx _ _ _ x i=>[x,i]
 |.ext x _=>[x]
 |.len _ x=>[x]
 |.append _ _ _ _ x y=>[x,y]
 |.call _ args=>args
 |.xcall _ args=>args
 |.fcall _ args=>args
 |.icall _ args=>args
 |.scall _ args p=>args++[p]
 |.pcall _ args=>args
 |.dcall f args=>f::args
def QN(h:WM)(rs:V2):V2:=rs++(rs.flatMap λb=>W5 (gt h b))++Xp h 200 rs []
def QO(k:AY)(e:Env):V2:=match k with
 |.mov _=>[]
 |.dcall f args=>match ev e f with
  |.fn _ caps=>Z8 (args.map (ev e)++caps)
  |_=>Z8 ((Z4 (.dcall f args)).map (ev e))
 |k=>Z8 ((Z4 k).map (ev e))
def D3(k:AY)(h:WM)(e:Env):V2:=match k with
 |.call f a=>QN h (QO (.call f a) e)
 |.xcall f a=>QN h (QO (.xcall f a) e)
 |.fcall f a=>QN h (QO (.fcall f a) e)
 |.scall f a p=>QN h (QO (.scall f a p) e)
 |.icall f a=>QN h (QO (.icall f a) e)
 |.pcall f a=>QN h (QO (.pcall f a) e)
 |.dcall f a=>QN h (QO (.dcall f a) e)
 |k=>QO k e
def Vg(o:MO)(s:S)(wb:V2):AN :=
 { rs:=(Z4 o.op).flatMap rK++(match o.guard with|some (g,_)=>[g]|none=>[]),ws:=o.dst.toList,rb:=D3 o.op s.h s.env,wb:=wb }
def JE(a b:V2):Bool:=a.any (b.contains ·)
def QP(f g:AN):Bool:=JE f.ws (g.rs++g.ws) || JE g.ws f.rs || JE f.wb (g.rb++g.wb) || JE g.wb f.rb
def TF:List (V2)->List (V2)->List (V2)
 |[],acc=>acc
 |b::bs,acc=>TF bs (acc++[b++b.flatMap λi=>acc.getD i []])
def Z0I(cl:List (V2))(Aw:List AN)(j:Nat):Bool :=
 match Aw[j]?,cl[j]? with
 |some g,some c=>(List.range j).all λi=>match Aw[i]? with
  |some f=>!QP f g || c.contains i
  |none=>false
 |_,_=>false
def JF(before:List (V2))(Aw:List AN):Bool:=(List.range Aw.length).all (Z0I (TF before []) Aw)
def Um(o:MO)(s:S)(K:AN->S->Prop):Prop:=match o.op with
 |.call f args=>∃as,AG s.h (args.map (ev s.env))=some as/\∃r hr,Γ f as [] r hr/\(UF (args.map (ev s.env)) || CH r hr)=true/\
   K (Vg o s ((AH s.h.length hr 0).map Prod.fst)) { s with env:=put o.dst (shift s.h.length r) s.env,h:=upd s.h (AH s.h.length hr 0) }
 |.xcall f args=>∃as,AG s.h (args.map (ev s.env))=some as/\∃r hr,Γ f as [] r hr/\CH r hr=true/\
   K (Vg o s ((AH s.h.length (hr.map xB) 0).map Prod.fst)) { s with env:=put o.dst (shift s.h.length r) s.env,h:=upd s.h (AH s.h.length (hr.map xB) 0) }
 |.fcall f args=>∃as,AG s.h (args.map (ev s.env))=some as/\UF (args.map (ev s.env))=true/\∃r hr d,Γ f as [] r hr/\Cu hr r=some d/\
   K (Vg o s (([]:List (Nat×Ax)).map Prod.fst)) { s with env:=put o.dst d s.env,h:=upd s.h [] }
 |.scall f args p=>WP Γ f (args.map (ev s.env)) s.h s.h.length λv u=>∃u2,QM s.h u (ev s.env p)=some u2/\K (Vg o s ((u++u2).map Prod.fst)) { s with env:=put o.dst v s.env,h:=upd s.h (u++u2) }
 |.icall f args=>WP Γ f (args.map (ev s.env)) s.h s.h.length λv u=>K (Vg o s (u.map Prod.fst)) { s with env:=put o.dst v s.env,h:=upd s.h u }
 |.pcall f args=>KR Γ f (args.map (ev s.env)) s.h s.h.length λv u=>K (Vg o s (u.map Prod.fst)) { s with env:=put o.dst v s.env,h:=upd s.h u }
 |.dcall f args=>match ev s.env f with
  |.fn g caps=>WP Γ g (args.map (ev s.env)++caps) s.h s.h.length λv u=>K (Vg o s (u.map Prod.fst)) { s with env:=put o.dst v s.env,h:=upd s.h u }
  |_=>False
 |k=>match Zy s.h s.h.length s.env k with
  |some (v,u)=>K (Vg o s (u.map Prod.fst)) { s with env:=put o.dst v s.env,h:=upd s.h u }
  |none=>False
def CN(o:MO)(s:S)(K:AN->S->Prop):Prop:=match o.guard with
 |none=>Um Γ o s K
 |some (g,want)=>match lk g s.env with
  |.t (.bool b)=>if b=want then Um Γ o s K else K (Vg o s []) { s with env:=put o.dst (.tup []) s.env }
  |.tup []=>K (Vg o s []) { s with env:=put o.dst (.tup []) s.env }
  |_=>False
def CO:List MO->S->List AN->(List AN->S->Prop)->Prop
 |[],s,Aw,K=>K Aw s
 |o::os,s,Aw,K=>CN Γ o s λf s'=>CO os s' (Aw++[f]) K
def GB(keep:V2)(body:(X->S->Prop)->S->Prop)(Q:X->S->Prop)(s:S):Prop :=
 ∃(I:S->Prop) (μ:S->Nat),I (Qu keep s)/\∀s,I s->body (λx s'=>match x with
  |.n=>I (Qu keep s')/\μ (Qu keep s')<μ s
  |x=>Q x s') s
def Wc:Za->(X->S->Prop)->S->Prop
 |.skip,Q,s=>Q .n s
 |.reg ops keep,Q,s=>Ci Γ ops s λs'=>Q .n { s' with env:=rst keep s'.env }
 |.regF ops keep,Q,s=>KS Γ ops s λs'=>Q .n { s' with env:=rst keep s'.env }
 |.drwF ops before keep,Q,s=>CO Γ ops (TE ops s) [] λAw s'=>JF before Aw=true/\Q .n { s' with env:=rst keep s'.env }
 |.drw ops before keep,Q,s=>CO Γ ops s [] λAw s'=>JF before Aw=true/\Q .n { s' with env:=rst keep s'.env }
 |.seq a b,Q,s=>Wc a (λx s'=>match x with|.n=>Wc b Q s'|x=>Q x s') s
 |.cond c x y,Q,s=>match ev s.env c with
  |.t (.bool b)=>if b=true then Wc x Q s else Wc y Q s
  |_=>False
 |.block id b,Q,s=>Wc b (λx s'=>match x with|.x i=>(if i=id then Q .n s' else Q (.x i) s')|x=>Q x s') s
 |.loop keep b,Q,s=>GB keep (Wc b) Q s
 |.exit id,Q,s=>Q (.x id) s
 |.ret,Q,s=>Q .r s
end
def Kx:XQ->Nat->Env
 |[],_=>[]
 |v::vs,i=>(i,v)::Kx vs (i+1)
def BZ(rs:List Cp)(K:AV->S->Prop):X->S->Prop
 |.x _,_=>False
 |_,s=>match Cq rs s with
  |some v=>K v s
  |none=>False
def QQ:WM->Nat->Env
 |[],_=>[]
 |b::bs,i=>(i,match b with|.box _=>.ptr i 0|.arr _ _ _ _=>.own i|.xarr _ _ _=>.own i|_=>.top)::QQ bs (i+1)
def Xl(h:WM)(e:Env)(i:Nat):Nat:=match scrub h (lk i e)with
 |.ptr b 0=>b
 |.own b=>b
 |_=>h.length+i
def rL(k:Nat)(v:AV)(s:S):XP :=
 let v:=scrub s.h v
 let e:=match s.stk with|[e]=>e|_=>[]
 let rs:=(List.range k).map (Xl s.h e)
 let ids:=Xp s.h 200 ((rs.flatMap λb=>W5 (gt s.h b))++refs v) rs
 if Qg s.h ids (rs++refs v) && VU rs then
  some (ren (λb=>idx b ids 0) v,ids.map λb=>A0 (λb=>idx b ids 0) (gt s.h b))
 else none
def DD(e sz:Nat):Ax:=if 1000000000<=e then .xarr (e-1000000000) sz []else .arr e sz true []
def Qv:List (Option (Nat×Nat))->XQ->WM->XQ×WM
 |some (e,sz+1)::ps,.t .nil::cs,h=>match Qv ps cs (h++[DD e (sz+1)])with
  |(cs',h')=>(.own h.length::cs',h')
 |_::ps,c::cs,h=>match Qv ps cs h with
  |(cs',h')=>(c::cs',h')
 |[],cs,h=>(cs,h)
 |_,[],h=>([],h)
def CY(n:Nat)(v:AV)(h:WM):XS:=match v with
 |.t .nil=>(.t (.lst n []),h)
 |.own b=>match gt h b with
  |.arr _ sz _ es=>(.t (.lst sz es),CJ b (.t (.lst sz es)) h)
  |.xarr _ sz es=>(.t (.lst sz es),CJ b (.t (.lst sz es)) h)
  |_=>(.own b,h)
 |v=>(v,h)
def UH:List (Option (Nat×Nat))->XQ->WM->XQ×WM
 |some (n,0)::ps,c::cs,h=>match CY n c h with
  |(c',h1)=>match UH ps cs h1 with
   |(cs',h')=>(c'::cs',h')
 |_::ps,c::cs,h=>match UH ps cs h with
  |(cs',h')=>(c::cs',h')
 |_,cs,h=>(cs,h)
def Cv(l:List (Option (Nat×Nat)))(v:AV)(h:WM):XS:=match v with
 |.agg cs=>match Qv l cs h with
  |(cs',h')=>match UH l cs' h' with
   |(cs'',h'')=>(.agg cs'',h'')
 |v=>match l with
  |[some (e,sz+1)]=>match v with
   |.t .nil=>(.own h.length,h++[DD e (sz+1)])
   |v=>(v,h)
  |[some (n,0)]=>CY n v h
  |_=>(v,h)
def Qh:List Cp->XQ->WM->XQ×WM
 |.tmpO _ l::rs,v::vs,h=>match Cv l v h with
  |(v',h')=>match Qh rs vs h' with
   |(vs',h'')=>(v'::vs',h'')
 |.cellO _ _ l::rs,v::vs,h=>match Cv l v h with
  |(v',h')=>match Qh rs vs h' with
   |(vs',h'')=>(v'::vs',h'')
 |_::rs,v::vs,h=>match Qh rs vs h with
  |(vs',h')=>(v::vs',h')
 |[],vs,h=>(vs,h)
 |_,[],h=>([],h)
def CZ:List Cp->AV->WM->XS
 |[.tmpO _ l],v,h=>Cv l v h
 |[.cellO _ _ l],v,h=>Cv l v h
 |r::q::rs,.tup vs,h=>match Qh (r::q::rs) vs h with
  |(vs',h')=>(.tup vs',h')
 |_,v,h=>(v,h)
def rM(rs:List Cp)(k:Nat)(v:AV)(s:S):XP:=match CZ rs v s.h with
 |(v',h')=>rL k v' { s with h:=h' }
def FW(Γ:CV)(m:Ab)(args:XQ)(h0:WM)(r:AV)(hr:WM):Prop :=
 args.length=m.np/\Wc Γ m.body (BZ m.res λv s=>rM m.res h0.length v s=some (r,hr)) { env:=Kx args 0,stk:=[QQ h0 0],h:=h0 }
def C0:Value->Option T
 |.int k n=>some (.int k n)
 |.bool b=>some (.bool b)
 |.string s=>some (.str s)
 |.slice none 0 0=>some .nil
 |_=>none
def C1(v:Value):Option AV:=match v with
 |.pointer none=>some .nilp
 |v=>(C0 v).map .t
def AQ{α β:Type}(f:α->Option β):List α->Option (List β)
 |[]=>some []
 |x::xs=>match f x,AQ f xs with
  |some y,some ys=>some (y::ys)
  |_,_=>none
def Dq:Value->Option AV
 |.agg cs=>(AQ C1 cs.toList).map .agg
 |v=>C1 v
def AZ:Operand->Option AO
 |.tmp t=>some (.s t)
 |.const v=>(Dq v).map .c
 |.func f=>some (.c (.fn f []))
 |.global _=>none
def Iz(P:Program):Nat->Bool->TypeId->List (Option Nat)
 |0,_,_=>[]
 |n+1,a,t=>match P.underlying t with
  |some (.struct fs)=>fs.toList.flatMap λf=>Iz P n a f.type
  |some (.array k e)=>(List.replicate k (Iz P n true e)).flatten
  |some (.slice e)=>[if a then some (match P.info? e with|some i=>i.size|none=>0)else none]
  |_=>[none]
def wz1:Option Nat->AV->AV
 |some s,.t .nil=>.t (.lst s [])
 |_,v=>v
def OV:List (Option Nat)->XQ->XQ
 |n::ns,v::vs=>wz1 n v::OV ns vs
 |_,vs=>vs
def Cr(P:Program)(t:TypeId):Option (XQ):=(((P.info? t).bind (·.zero)).bind λz=>AQ C1 z.cells.toList).map (OV (Iz P 8 false t))
def GE(P:Program):Nat->TypeId->V2
 |0,_=>[]
 |n+1,t=>match P.underlying t with
  |some (.struct fs)=>fs.toList.flatMap λf=>GE P n f.type
  |some (.array k e)=>(List.replicate k (GE P n e)).flatten
  |some (.slice e)=>[match P.info? e with|some i=>i.size|none=>0]
  |_=>[0]
def GF(P:Program)(t:TypeId):Option (V4):=(((P.info? t).bind (·.zero)).bind λz=>AQ C0 z.cells.toList).map (wk ((GE P 8 t).map λs=>.lst s []))
def Un(P:Program)(t:TypeId):Option (Option Nat):=match P.underlying t with
 |some (.struct _)|some (.array _ _)=>(P.info? t).map λi=>some i.size
 |some _=>some none
 |none=>none
def ZBJ(ops:Array Oper)(x:Operand):Bool:=match x with
 |.tmp t=>ops.any λo=>o.dst == some t && (match o.op with|.buildSlice ..=>true|_=>false)
 |_=>false
def ZBK(P:Program)(ops:Array Oper)(x:Operand):Bool:=match x with
 |.tmp t=>ops.any λo=>o.dst == some t && (match o.op with
  |.indexAddr ty _ _=>(match P.underlying ty with|some (.array _ _)=>true|_=>false)
  |_=>false)
 |_=>false
def OX(P:Program)(t:TypeId)(f:Nat):Option (Nat×TypeId):=match P.underlying t with
 |some (.struct fs)=>match fs[f]? with
  |some fd=>match P.info? fd.type with
   |some i=>if i.size=0 then none else some (fd.offset,fd.type)
   |none=>none
  |none=>none
 |_=>none
def Fj(P:Program):List Field->Nat->Option (V2)
 |[],_=>some []
 |f::fs,j=>if f.name≠"_"/\f.offset=j then(match(match P.underlying f.type with
   |some .bool=>some 0
   |some (.int _)=>some 1
   |some .string=>some 2
   |_=>none),Fj P fs (j+1)with
  |some k,some ks=>some (k::ks)
  |_,_=>none)else none
def KT(P:Program)(f:Nat):Bool:=match P.funcs[f]? with
 |some fn=>fn.body.isSome && fn.name != "runtime.NumGoroutine"
 |none=>false
def D4(inl:V2)(f:Nat):Bool:=inl.contains (f+3000000)
def Fk(P:Program)(t:TypeId):Bool:=match P.underlying t with
 |some (.slice _)=>true
 |_=>false
def D5(P:Program)(ops:Array Oper)(d:Nat):Option Nat:=ops.findSome? λo=>match o.op with
 |.load t (.tmp p)=>if o.dst == some d && Fk P t then some p else none
 |_=>none
def GG(P:Program)(inl:V2)(ops:Array Oper)(x:Operand):Bool:=match x with
 |.tmp p=>ops.any λo=>match o.op with
  |.call c=>match c.callee with
   |.value (.func f)=>D4 inl f && c.args.any λa=>match a with
    |.tmp d=>D5 P ops d == some p
    |_=>false
   |_=>false
  |_=>false
 |_=>false
def Z0J(P:Program)(ops:Array Oper)(x:Operand):Option Nat:=match x with
 |.tmp e=>ops.findSome? λo=>match o.op with
  |.indexAddr _ (.tmp d) _=>if o.dst == some e then D5 P ops d else none
  |_=>none
 |_=>none
def TG(P:Program)(ops:Array Oper)(x:Operand):Bool:=match x with
 |.tmp p=>ops.any λo=>match o.op with
  |.store _ y _=>Z0J P ops y == some p
  |_=>false
 |_=>false
def Fl(P:Program)(ops:Array Oper)(args:Array Operand):Option Nat:=args.findSome? λa=>match a with
 |.tmp d=>D5 P ops d
 |_=>none
def D6(P:Program)(inl:V2)(ops:Array Oper)(f:Nat)(args:Array Operand)(as:List AO):AY :=
 if D4 inl f then(match Fl P ops args with
  |some p=>.scall f as (.s p)
  |none=>.icall f as)
 else if inl.contains f then .icall f as else if inl.contains (f+1000000)then .pcall f as else if inl.contains 9999999 && inl.contains (f+2000000)then .xcall f as else if inl.contains 9999996 && inl.contains (f+7000000)then .fcall f as else .call f as
def TH:T->Bool
 |.lst _ _=>true
 |_=>false
def Xg(P:Program)(inl:V2)(ops:Array Oper):Op->Option AY
 |.move x|.assign x=>(AZ x).map .mov
 |.pick c a b=>match AZ c,AZ a,AZ b with
  |some c,some a,some b=>some (.pick c a b)
  |_,_,_=>none
 |.alloc e=>(Cr P e).map .alloc
 |.box _ x=>(AZ x).map .box
 |.build t ps=>match P.underlying t,Cr P t with
  |some (.struct fs),some zs=>match fs.toList.mapM (λf=>(P.info? f.type).map λi=>(f.offset,i.size))with
   |some places=>(AQ (λp:Nat×Operand=>match places[p.1]?,AZ p.2 with
    |some q,some x=>some (q.1,q.2,x)
    |_,_=>none) ps.toList).map (.build zs)
   |none=>none
  |_,_=>none
 |.buildSlice t n ps=>match P.underlying t with
  |some (.slice e)=>match P.info? e with
   |some i=>if n*i.size<=16777216/\0<i.size then(match AQ (λp:Nat×Operand=>(AZ p.2).map λx=>(p.1,x)) ps.toList with
     |some qs=>(match GF P e with
      |some zs=>if zs.length=i.size then some (if(inl.contains 9999992 && zs.any TH)=true then .bsliceX e i.size n zs qs else .bslice e i.size n zs qs)else none
      |none=>match i.zero with
       |some (.pointer none)=>if i.size=1 then some (.bptrs n qs)else none
       |_=>none)
     |none=>none)else none
   |none=>none
  |_=>none
 |.load t x=>match Un P t,AZ x with
  |some n,some x'=>some (if(n.isNone && Fk P t && (inl.contains 9999998 || GG P inl ops x || (inl.contains 9999992 && TG P ops x)))=true then .loadU (inl.contains 9999998) x' else .load n x')
  |_,_=>none
 |.store t x v=>match P.info? t,AZ x,AZ v with
  |some i,some x',some v=>some (match(if inl.contains 9999992=true then Z0J P ops x else none)with
   |some p=>.storeP i.size x' v (.s p)
   |none=>if ZBK P ops x=true then .storeF i.size x' v else .store i.size x' v)
  |_,_,_=>none
 |.nilCheck x=>(AZ x).map .nilchk
 |.binOp op t x y _=>match AZ x,AZ y with
  |some x',some y'=>match P.underlying t with
   |some (.int _)|some .string=>some (.bin op x' y')
   |some .bool=>match op with
    |.eql=>some (.beq false x' y')
    |.neq=>some (.beq true x' y')
    |_=>none
   |some (.slice _)=>match op,y with
    |.eql,.const (.slice none 0 0)=>some (.nileq false true x')
    |.neq,.const (.slice none 0 0)=>some (.nileq true true x')
    |_,_=>none
   |some (.pointer _)=>match op,y with
    |.eql,.const (.pointer none)=>some (.nileq false false x')
    |.neq,.const (.pointer none)=>some (.nileq true false x')
    |_,_=>none
   |some (.struct fs)=>match Fj P fs.toList 0 with
    |some ks=>if P.stoodInHeld t=false/\P.eqGuardType P.depth t=false then(match op with
     |.eql=>some (.aeq false ks x' y')
     |.neq=>some (.aeq true ks x' y')
     |_=>none)else none
    |none=>none
   |_=>none
  |_,_=>none
 |.unOp op _ x=>(AZ x).map (.un op)
 |.convert s d x=>match P.underlying s,P.underlying d with
  |some _,some (.int k)=>(AZ x).map (.conv k)
  |some (.slice e),some .string=>match P.underlying e with
   |some (.int .u8)=>(AZ x).map .tostr
   |_=>none
  |_,_=>none
 |.makeFunc (.func f) first caps=>if first.isEmpty then(AQ AZ caps.toList).map (.mkfn f)else none
 |.makeSlice t l c=>match P.underlying t with
  |some (.slice e)=>match P.info? e,GF P e,AZ l,AZ c with
   |some i,some zs,some l,some c=>if zs.length=i.size/\0<i.size then some (.mkslice e i.size i.bytes zs l c)else none
   |_,_,_,_=>none
  |_=>none
 |.slice t x lo hi none=>match(match P.underlying t with
   |some .string=>some none
   |some (.slice e)=>(P.info? e).map λi=>some i.size
   |_=>none),AZ x,(match lo with|none=>some none|some o=>(AZ o).map some),(match hi with|none=>some none|some o=>(AZ o).map some)with
  |some sz,some x,some lo,some hi=>some (.slice sz x lo hi)
  |_,_,_,_=>none
 |.fieldAddr t x f=>match OX P t f,AZ x with
  |some (off,_),some x=>some (.faddr off x)
  |_,_=>none
 |.field t x f=>match OX P t f,AZ x with
  |some (off,u),some x=>(Un P u).map λn=>.field off n x
  |_,_=>none
 |.indexAddr t x i=>match P.underlying t with
  |some (.slice e)=>match P.info? e,AZ x,AZ i with
   |some inf,some x,some i=>some (.iaddr inf.size x i)
   |_,_,_=>none
  |some (.array n e)=>match P.info? e,AZ x,AZ i with
   |some inf,some x,some i=>some (.aaddr n inf.size x i)
   |_,_,_=>none
  |_=>none
 |.index t x i=>match P.underlying t,AZ x,AZ i with
  |some .string,some x,some i=>some (.index x i)
  |some (.array n e),some x,some i=>match P.info? e,Un P e with
   |some inf,some m=>some (.aidx n inf.size m x i)
   |_,_=>none
  |_,_,_=>none
 |.extract x i=>(AZ x).map λx=>.ext x i
 |.call c=>match c.callee with
  |.builtin .len=>match c.args.toList,c.argTypes.toList with
   |[x],[t]=>match P.underlying t with
    |some (.slice _)=>(AZ x).map (.len false)
    |some .string=>(AZ x).map (.len true)
    |_=>none
   |_,_=>none
  |.builtin .append=>match c.args.toList,c.argTypes.toList with
   |[x,y],[t,u]=>match P.underlying t,P.underlying u with
    |some (.slice e),some (.slice _)=>match P.info? e,AZ x,AZ y with
     |some i,some x',some y'=>match i.zero with
      |some z=>if 0<i.size/\z.cells.size=i.size/\t=u/\e≠Co then some (.append e i.size i.bytes (ZBJ ops y) x' y')else none
      |none=>none
     |_,_,_=>none
    |_,_=>none
   |_,_=>none
  |.builtin .max=>match c.args.toList with
   |[x,y]=>match AZ x,AZ y with
    |some x,some y=>some (.mm true x y)
    |_,_=>none
   |_=>none
  |.builtin .min=>match c.args.toList with
   |[x,y]=>match AZ x,AZ y with
    |some x,some y=>some (.mm false x y)
    |_,_=>none
   |_=>none
  |.value (.func f)=>if KT P f=true then(AQ AZ c.args.toList).map (D6 P inl ops f c.args)else none
  |.value x=>match AZ x,AQ AZ c.args.toList with
   |some x,some as=>some (.dcall x as)
   |_,_=>none
  |_=>none
 |_=>none
def B0(P:Program)(inl:V2)(nt:Nat)(ops:Array Oper)(o:Oper):Option MO :=
 if o.dst.all (·<nt)=true then match Xg P inl ops o.op,(match o.guard with
  |none=>some none
  |some (j,b)=>((ops[j]?).bind (·.dst)).map λd=>some (d,b))with
 |some k,some g=>some { dst:=o.dst,guard:=g,op:=k }
 |_,_=>none
 else none
def VW(o:Oper):V2:=o.after.toList.filterMap λe=>if Region.binds .any e then some e.on else none
def B2:List (V2)->Nat->Bool
 |[],_=>true
 |b::bs,i=>b.all (·<i) && B2 bs (i+1)
def comp(P:Program)(inl:V2)(nt:Nat):Code->List (V2)->Option (Za×List (V2))
 |.skip,ks=>some (.skip,ks)
 |.region _ ops draw,k::ks=>match AQ (B0 P inl nt ops) ops.toList with
  |some os=>if draw then(if B2 (ops.toList.map VW) 0=true/\P.follows .mixedOrders=true/\Region.noSelect ops=true then some (if inl.contains 9999995 then .drwF os (ops.toList.map VW) k else .drw os (ops.toList.map VW) k,ks)else none)else some (if inl.contains 9999995 then .regF os k else .reg os k,ks)
  |none=>none
 |.seq a b,ks=>match comp P inl nt a ks with
  |some (x,ks)=>match comp P inl nt b ks with
   |some (y,ks)=>some (.seq x y,ks)
   |none=>none
  |none=>none
 |.cond c a b,ks=>match AZ c,comp P inl nt a ks with
  |some c,some (x,ks)=>match comp P inl nt b ks with
   |some (y,ks)=>some (.cond c x y,ks)
   |none=>none
  |_,_=>none
 |.block id b,ks=>match comp P inl nt b ks with
  |some (x,ks)=>some (.block id x,ks)
  |none=>none
 |.loop b,k::ks=>match comp P inl nt b ks with
  |some (x,ks)=>some (.loop k x,ks)
  |none=>none
 |.exit id,ks=>some (.exit id,ks)
 |.ret,ks=>some (.ret,ks)
 |_,_=>none
def IA(P:Program):ResultVar->Option Cp
 |.tmp t=>some (.tmp t)
 |.cell a t=>(Un P t).map (.cell a)
def C2(P:Program):Nat->TypeId->List TypeId
 |0,t=>[t]
 |n+1,t=>match P.underlying t with
  |some (.struct fs)=>fs.toList.flatMap λf=>C2 P n f.type
  |_=>[t]
def GH(P:Program)(x d:Bool)(t:TypeId):List (Option (Nat×Nat)):=(C2 P 8 t).map λc=>match P.underlying c with
 |some (.slice e)=>some (if d then(P.cellsOf e,0)else(if(x && (C2 P 8 e).any (Fk P))=true then 1000000000+e else e,P.cellsOf e))
 |_=>none
def Cj(P:Program)(x:Bool)(d:TypeId->Bool):List Cp->List TypeId->List Cp
 |.tmp t::rs,ty::CP=>.tmpO t (GH P x (d ty) ty)::Cj P x d rs CP
 |.cell a n::rs,ty::CP=>.cellO a n (GH P x (d ty) ty)::Cj P x d rs CP
 |r::rs,_::CP=>r::Cj P x d rs CP
 |rs,[]=>rs
 |[],_=>[]
def GI(P:Program)(inl:V2)(keeps:List (V2))(f:Func):Option Ab:=match f.body with
 |some c=>match comp P inl f.ntmps c keeps,AQ (IA P) f.results.toList with
  |some (b,[]),some rs=>(if f.params.size+f.nfree<=f.ntmps then some { np:=f.params.size+f.nfree,nt:=f.ntmps,res:=if inl.contains 9999994 then Cj P (inl.contains 9999992) (λt=>!(inl.contains 9999993 && inl.contains (20000000+t))) rs f.resultTypes.toList else if inl.contains 9999997 then Cj P (inl.contains 9999992) (λ_=>false) rs f.resultTypes.toList else rs,body:=b } else none)
  |_,_=>none
 |none=>none
mutual
inductive TR (w:World):T->Value->V2->Prop
 |int (k:IntKind) (n:Int):TR w (.int k n) (.int k n) []
 |bool (b:Bool):TR w (.bool b) (.bool b) []
 |str (s:V5):TR w (.str s) (.string s) []
 |nil:TR w .nil (.slice none 0 0) []
 |any {v:Value} (h:v.oneCell'=true):TR w .any v []
 |lst0 (sz:Nat) (a:Option Addr) (cap:Nat):TR w (.lst sz []) (.slice a 0 cap) []
 |lst {sz:Nat} {es:WA} {g off cap:Nat} {c:Array Value} {e:TypeId} {fz:Nat×Nat} {fp:V2} (hne:es≠[]) (hsz:0<sz) (hcap:es.length<=cap)
   (hg:w.heap[g]?=some (.cells c e fz)) (hlen:∀x∈es,x.length=sz) (hc:AK w es.flatten ((c.toList.drop off).take (es.length*sz)) fp) :
   TR w (.lst sz es) (.slice (some ⟨g,off,none⟩) es.length cap) (g::fp)
inductive AK (w:World):V4->V3->V2->Prop
 |nil:AK w [] [] []
 |cons {t:T} {v:Value} {fp:V2} {ts:V4} {vs:V3} {fq:V2} (h:TR w t v fp) (hs:AK w ts vs fq):AK w (t::ts) (v::vs) (fp++fq)
end
section
variable{w w':World}{fp:V2}{ts us:V4}{vs:V3}{t:T}{v:Value}
theorem TR.frame(h:TR w t v fp):(∀g∈fp,w'.heap[g]?=w.heap[g]?)->TR w' t v fp:=by
 refine TR.rec (motive_1:=λt v fp _=>(∀g∈fp,w'.heap[g]?=w.heap[g]?)->TR w' t v fp) (motive_2:=λts vs fp _=>(∀g∈fp,w'.heap[g]?=w.heap[g]?)->AK w' ts vs fp)
  ?_ ?_ ?_ ?_ ?_ ?_ ?_ ?_ ?_ h
 .intro k n _;exact .int k n
 .intro b _;exact .bool b
 .intro s _;exact .str s
 .intro _;exact .nil
 .intro v h _;exact .any h
 .intro sz a cap _;exact .lst0 sz a cap
 .intro sz es g off cap c e fz fp hne hsz hcap hg hlen _ ih hf;exact .lst hne hsz hcap (by rw[hf g Om];exact hg) hlen (ih λg hg=>hf g (by simp[hg]))
 .intro _;exact .nil
 .intro t v fp ts vs fq _ _ ih1 ih2 hf;exact .cons (ih1 λg hg=>hf g (by simp[hg])) (ih2 λg hg=>hf g (by simp[hg]))
theorem AK.frame(h:AK w ts vs fp):(∀g∈fp,w'.heap[g]?=w.heap[g]?)->AK w' ts vs fp:=by
 induction ts generalizing vs fp with
 |nil=>cases h;exact λ_=>.nil
 |cons t ts ih =>
  cases h with
  |cons h hs=>exact λhf=>.cons (h.frame λg hg=>hf g (by simp[hg])) (ih hs λg hg=>hf g (by simp[hg]))
theorem TR.lt(h:TR w t v fp):∀g∈fp,g<w.heap.size:=by
 refine TR.rec (motive_1:=λt v fp _=>∀g∈fp,g<w.heap.size) (motive_2:=λts vs fp _=>∀g∈fp,g<w.heap.size)
  ?_ ?_ ?_ ?_ ?_ ?_ ?_ ?_ ?_ h
 .simp
 .intro _ g hg;cases hg
 .intro _ g hg;cases hg
 .intro g hg;cases hg
 .simp
 .simp
 .grind
 .intro g hg;cases hg
 .grind
theorem AK.lt(h:AK w ts vs fp):∀g∈fp,g<w.heap.size:=by
 induction ts generalizing vs fp with
 |nil=>cases h;intro g hg;cases hg
 |cons t ts ih =>
  cases h with
  |cons h hs =>
   intro g hg;rcases Yi.1 hg with hg|hg
   .exact h.lt g hg
   .exact ih hs g hg
theorem TR.one(h:TR w t v fp):v.oneCell'=true:=by cases h<;>first|rfl|assumption
theorem AK.one(h:AK w ts vs fp):∀v∈vs,v.oneCell'=true:=by
 induction ts generalizing vs fp with
 |nil=>cases h;intro v hv;cases hv
 |cons t ts ih =>
  cases h with
  |cons h hs =>
   intro v hv
   cases hv with
   |head=>exact h.one
   |tail _ hv=>exact ih hs v hv
theorem AK.length(h:AK w ts vs fp):ts.length=vs.length:=by
 induction ts generalizing vs fp with
 |nil=>cases h;rfl
 |cons t ts ih =>
  cases h with
  |cons h hs=>simp[ih hs]
theorem AK.append{xs:V3}{fq:V2}(h:AK w ts vs fp)(h':AK w us xs fq):AK w (ts++us) (vs++xs) (fp++fq):=by
 induction ts generalizing vs fp with
 |nil=>cases h;exact h'
 |cons t ts ih =>
  cases h with
  |cons h hs=>simpa[DT]using AK.cons h (ih hs)
theorem AK.split(h:AK w (ts++us) vs fp) :
  ∃fa fb,fp=fa++fb/\AK w ts (vs.take ts.length) fa/\AK w us (vs.drop ts.length) fb:=by
 induction ts generalizing vs fp with
 |nil=>exact⟨[],fp,rfl,.nil,h⟩
 |cons t ts ih =>
  cases h with
  |cons h hs =>
   obtain⟨fa,fb,rfl,h1,h2⟩:=ih hs;exact⟨_++fa,fb,Om,.cons h h1,h2⟩
theorem AK.at(h:AK w ts vs fp){i:Nat}(hi:ts[i]?=some t) :
  ∃v fq,vs[i]?=some v/\TR w t v fq/\∀g∈fq,g∈fp:=by
 induction ts generalizing vs fp i with
 |nil=>simp at hi
 |cons t' ts ih =>
  cases h with
  |cons h hs =>
   grind
theorem AK.flat(h:AK w ts vs fp)(hf:ts.all ZX=true):fp=[]:=by
 induction ts generalizing vs fp with
 |nil=>cases h;rfl
 |cons t ts ih =>
  cases h with
  |cons h hs =>
   simp only[Cz,Yd]at hf;rw[ih hs hf.2];cases h<;>first|rfl|simp[ZX]at hf
end
mutual
inductive OW (w:World) (base:Nat):T->Value->Prop
 |sc {x:T} (v:Value) (h:ZX x=true):OW w base x v
 |lst0 (sz:Nat) (v:Value):OW w base (.lst sz []) v
 |lst {sz:Nat} {es:WA} {v:Value} {e:TypeId} {xs:V3} (ho:w.ownsRow base e sz v es.length xs) (hs:Ba w base es.flatten xs):OW w base (.lst sz es) v
inductive Ba (w:World) (base:Nat):V4->V3->Prop
 |nil:Ba w base [] []
 |cons {t:T} {v:Value} {ts:V4} {vs:V3} (h:OW w base t v) (hs:Ba w base ts vs):Ba w base (t::ts) (v::vs)
end
section
variable{w w':World}{base base':Nat}{ts us:V4}{t:T}{vs xs:V3}{v:Value}{fp:V2}
theorem OW.frame(h:OW w base t v):∀{fp:V2},TR w t v fp->(∀g∈fp,w'.heap[g]?=w.heap[g]?)->OW w' base t v:=by
 refine OW.rec (motive_1:=λt v _=>∀{fp:V2},TR w t v fp->(∀g∈fp,w'.heap[g]?=w.heap[g]?)->OW w' base t v)
  (motive_2:=λts vs _=>∀{fp:V2},AK w ts vs fp->(∀g∈fp,w'.heap[g]?=w.heap[g]?)->Ba w' base ts vs) ?_ ?_ ?_ ?_ ?_ h
 .intro x v hs fp _ _;exact .sc v hs
 .intro sz v fp _ _;exact .lst0 sz v
 .intro sz es v e xs ho _ ih fp hT hf
  cases hT with
  |lst0=>exact .lst0 _ _
  |@lst _ _ g off cap c te fz fp' hne hsz hcap hg hlen hc =>
   rcases ho.2 with⟨hv,_⟩|⟨g',cap',cur,hv,hb,hg',h1,h2,h3,h4⟩
   .cases hv
   .cases hv;rw[hg]at hg';cases hg';rw[Yq,h4]at hc;exact .lst ⟨ho.1,.inr ⟨g,cap,c,rfl,hb,by rw[hf g Om];exact hg,h1,h2,h3,h4⟩⟩ (ih hc λg hg=>hf g (by simp[hg]))
 .intro fp _ _;exact .nil
 .intro t v ts vs _ _ ih1 ih2 fp hT hf
  cases hT with
  |cons h hs=>exact .cons (ih1 h λg hg=>hf g (by simp[hg])) (ih2 hs λg hg=>hf g (by simp[hg]))
theorem Ba.frame(h:Ba w base ts vs)(hT:AK w ts vs fp)(hf:∀g∈fp,w'.heap[g]?=w.heap[g]?):Ba w' base ts vs:=by
 induction ts generalizing vs fp with
 |nil=>cases h;exact .nil
 |cons t ts ih =>
  cases h with
  |cons h hs =>
   cases hT with
   |cons hT hTs=>exact .cons (h.frame hT λg hg=>hf g (by simp[hg])) (ih hs hTs λg hg=>hf g (by simp[hg]))
theorem OW.ge(h:OW w base t v):∀{fp:V2},TR w t v fp->∀g∈fp,base<=g:=by
 refine OW.rec (motive_1:=λt v _=>∀{fp:V2},TR w t v fp->∀g∈fp,base<=g)
  (motive_2:=λts vs _=>∀{fp:V2},AK w ts vs fp->∀g∈fp,base<=g) ?_ ?_ ?_ ?_ ?_ h
 .intro x v hs fp hT g hg;cases hT<;>first|cases hg;done|simp[ZX]at hs
 .intro sz v fp hT g hg
  cases hT with
  |lst0=>cases hg
  |lst hne=>exact absurd rfl hne
 .intro sz es v e xs ho _ ih fp hT x hx
  cases hT with
  |lst0=>cases hx
  |@lst _ _ g off cap c te fz fp' hne hsz hcap hg hlen hc =>
   rcases ho.2 with⟨hv,_⟩|⟨g',cap',cur,hv,hb,hg',h1,h2,h3,h4⟩
   .cases hv
   .grind
 .intro fp hT g hg;cases hT;cases hg
 .intro t v ts vs _ _ ih1 ih2 fp hT g hg
  cases hT with
  |cons h hs =>
   grind
theorem Ba.ge(h:Ba w base ts vs)(hT:AK w ts vs fp):∀g∈fp,base<=g:=by
 induction ts generalizing vs fp with
 |nil=>cases hT;intro g hg;cases hg
 |cons t ts ih =>
  cases h with
  |cons h hs =>
   cases hT with
   |cons hT hTs =>
    intro g hg;rcases Yi.1 hg with hg|hg
    .exact h.ge hT g hg
    .exact ih hs hTs g hg
theorem IB(hb:base'<=base){e:TypeId}{sz n:Nat}(ho:w.ownsRow base e sz v n xs):w.ownsRow base' e sz v n xs:=by
 refine⟨ho.1,?_⟩;rcases ho.2 with h|⟨g,cap,cur,h1,h2,h3⟩
 .exact .inl h
 .exact .inr ⟨g,cap,cur,h1,Y8 hb h2,h3⟩
theorem OW.mono(hb:base'<=base)(h:OW w base t v):OW w base' t v:=by
 refine OW.rec (motive_1:=λt v _=>OW w base' t v) (motive_2:=λts vs _=>Ba w base' ts vs) ?_ ?_ ?_ ?_ ?_ h
 .intro x v hs;exact .sc v hs
 .intro sz v;exact .lst0 sz v
 .intro sz es v e xs ho _ ih;exact .lst (IB hb ho) ih
 .exact .nil
 .intro t v ts vs _ _ ih1 ih2;exact .cons ih1 ih2
theorem Ba.mono(hb:base'<=base)(h:Ba w base ts vs):Ba w base' ts vs:=by
 induction ts generalizing vs with
 |nil=>cases h;exact .nil
 |cons t ts ih=>cases h with|cons h hs=>exact .cons (h.mono hb) (ih hs)
theorem Ba.append(h:Ba w base ts vs)(h':Ba w base us xs):Ba w base (ts++us) (vs++xs):=by
 induction ts generalizing vs with
 |nil=>cases h;exact h'
 |cons t ts ih=>cases h with|cons h hs=>exact .cons h (ih hs)
theorem Ba.split(h:Ba w base (ts++us) vs):Ba w base ts (vs.take ts.length)/\Ba w base us (vs.drop ts.length):=by
 induction ts generalizing vs with
 |nil=>exact⟨.nil,h⟩
 |cons t ts ih =>
  cases h with
  |cons h hs=>exact⟨.cons h (ih hs).1,(ih hs).2⟩
theorem Ba.splice{A B C:V4}{ys:V3}(hc:Ba w base (A++B++C) xs)(ht:Ba w base ts ys):Ba w base (A++ts++C) (xs.take A.length++ys++xs.drop (A.length+B.length)):=by
 have h1:=hc.split;have h2:=h1.1.split;have e1:(xs.take (A++B).length).take A.length=xs.take A.length:=by rw[Fe,DJ Om]
 rw[e1]at h2;have h3:=h1.2;rw[Yu]at h3;exact(h2.1.append ht).append h3
def easy:T->Bool
 |.lst _ (_::_)=>false
 |_=>true
theorem OW.easy(v:Value)(h:AM.easy t=true):OW w base t v:=by
 cases t with
 |lst sz es =>
  cases es with
  |nil=>exact .lst0 _ _
  |cons e es=>cases h
 |_=>exact .sc _ rfl
theorem Ba.easy:∀{ts:V4} {vs:V3},ts.length=vs.length->ts.all AM.easy=true->Ba w base ts vs
 |[],[],_,_=>.nil
 |[],_::_,h,_=>by cases h
 |_::_,[],h,_=>by cases h
 |t::ts,v::vs,h,he=>by
  simp only[Cz,Yd]at he;exact .cons (.easy v he.1) (Ba.easy (by simpa using h) he.2)
theorem Z0K(h:ZX t=true):AM.easy t=true:=by cases t<;>first|rfl|cases h
theorem ZBL(h:ts.all ZX=true):ts.all AM.easy=true:=by
 simp_all [Yn,Z0K]
theorem Z0L{es:WA}(h:flat es=true):es.flatten.all AM.easy=true:=by
 rw[Yn];intro t ht;obtain⟨x,hx,ht⟩:=rD.1 ht;simp only[flat,Yn]at h
 grind [Z0K]
end
structure Root where
 v:Value
 fp:V2
 ex:V2:=[]
def Xr:Value->Option Nat
 |.pointer (some a)=>some a.block
 |.slice (some a) _ _=>some a.block
 |_=>none
def X3(r:Root)(g:Nat):Prop:=Xr r.v=some g\/g∈r.ex
def OY{r:Root}(hx:r.ex=[]){g:Nat}:X3 r g↔Xr r.v=some g:=by simp[X3,hx]
abbrev Map:=Nat->Option Root
structure Bi where
 a:Nat->Prop
 f:Nat->Prop
 z:Nat->Prop
def Free(N:Bi)(ρ:Map)(h:WM)(g:Nat):Prop:=N.a g/\∀b r,ρ b=some r->gt h b≠.dead->¬X3 r g
mutual
inductive RV (ρ:Map) (w:World) (F:Nat->Prop):AV->Value->Prop
 |top (v:Value):RV ρ w F .top v
 |nilp:RV ρ w F .nilp (.pointer none)
 |t {x:T} {v:Value} {fp:V2} (h:TR w x v fp) (hf:∀g∈fp,F g):RV ρ w F (.t x) v
 |agg {cs:XQ} {c:Array Value} (h:Ay ρ w F cs c.toList) (h1:∀v∈c.toList,v.oneCell'=true):RV ρ w F (.agg cs) (.agg c)
 |tup {cs:XQ} {c:Array Value} (h:Ay ρ w F cs c.toList):RV ρ w F (.tup cs) (.tuple c)
 |ptr {b off g:Nat} {r:Root} (hr:ρ b=some r) (hv:r.v=.pointer (some ⟨g,0,none⟩)):RV ρ w F (.ptr b off) (.pointer (some ⟨g,off,none⟩))
 |eptr {b i sz off g n cap:Nat} {r:Root} (hr:ρ b=some r) (hv:r.v=.slice (some ⟨g,0,none⟩) n cap):RV ρ w F (.eptr b i sz off) (.pointer (some ⟨g,i*sz+off,none⟩))
 |iptr {cs:V4} {off g o:Nat} {c:Array Value} {e:TypeId} {fz:Nat×Nat} {fp:V2} (hg:w.heap[g]?=some (.cells c e fz)) (hF:F g)
   (hc:AK w cs ((c.toList.drop o).take cs.length) fp) (hf:∀g∈fp,F g):RV ρ w F (.iptr cs off) (.pointer (some ⟨g,o+off,none⟩))
 |own {b:Nat} {r:Root} (hr:ρ b=some r) (h1:r.v.oneCell'=true):RV ρ w F (.own b) r.v
 |bsl {b n g:Nat} {r:Root} (hr:ρ b=some r) (hv:r.v=.pointer (some ⟨g,0,none⟩)):RV ρ w F (.bsl b n) (.slice (some ⟨g,0,none⟩) n n)
 |fn {f:Nat} {cs:XQ} {c:Array Value} (h:Ay ρ w F cs c.toList):RV ρ w F (.fn f cs) (.func (.func f) #[] c)
inductive Ay (ρ:Map) (w:World) (F:Nat->Prop):XQ->V3->Prop
 |nil:Ay ρ w F [] []
 |cons {a:AV} {v:Value} {as:XQ} {vs:V3} (h:RV ρ w F a v) (hs:Ay ρ w F as vs):Ay ρ w F (a::as) (v::vs)
end
structure X7 (ρ:Map) (w:World) (F:Nat->Prop) (ρ':Map) (w':World) (F':Nat->Prop):Prop where
 root:∀b r,ρ b=some r->∃r',ρ' b=some r'/\r'.v=r.v
 free:∀g,g<w.heap.size->F g->F' g/\w'.heap[g]?=w.heap[g]?
section
variable{ρ ρ':Map}{w w':World}{F F':Nat->Prop}{vs:V3}{as:XQ}{a:AV}
theorem X7.refl:X7 ρ w F ρ w F:=⟨λ_ r h=>⟨r,h,rfl⟩,λ_ _ h=>⟨h,rfl⟩⟩
theorem X7.trans{ρ'':Map}{w'':World}{F'':Nat->Prop}(h1:X7 ρ w F ρ' w' F')(h2:X7 ρ' w' F' ρ'' w'' F'')(hl:w.heap.size<=w'.heap.size):X7 ρ w F ρ'' w'' F'':=by
 refine⟨λb r hb=>?_,λg hg hF=>?_⟩
 .obtain⟨r1,q1,q2⟩:=h1.root b r hb;obtain⟨r2,q3,q4⟩:=h2.root b r1 q1
  simp_all
 .obtain⟨p1,p2⟩:=h1.free g hg hF;obtain⟨p3,p4⟩:=h2.free g Z p1
  simp_all
theorem RV.keep(hk:X7 ρ w F ρ' w' F'){v:Value}(h:RV ρ w F a v):RV ρ' w' F' a v:=by
 refine RV.rec (motive_1:=λa v _=>RV ρ' w' F' a v) (motive_2:=λas vs _=>Ay ρ' w' F' as vs) ?_ ?_ ?_ ?_ ?_ ?_ ?_ ?_ ?_ ?_ ?_ ?_ ?_ h
 .exact λv=>.top v
 .exact .nilp
 .intro x v fp h hf;exact .t (h.frame λg hg=>(hk.free g (h.lt g hg) (hf g hg)).2) λg hg=>(hk.free g (h.lt g hg) (hf g hg)).1
 .intro cs c _ h1 ih;exact .agg ih h1
 .intro cs c _ ih;exact .tup ih
 .intro b off g r hr hv;obtain⟨r',h1,h2⟩:=hk.root b r hr;exact .ptr h1 (h2.trans hv)
 .intro b i sz off g n cap r hr hv;obtain⟨r',h1,h2⟩:=hk.root b r hr;exact .eptr h1 (h2.trans hv)
 .intro cs off g o c e fz fp hg hF hc hf;have hl:g<w.heap.size:=(Yc5.1 hg).1;exact .iptr (by rw[(hk.free g hl hF).2];exact hg) (hk.free g hl hF).1 (hc.frame λg hg=>(hk.free g (hc.lt g hg) (hf g hg)).2)
   λg hg=>(hk.free g (hc.lt g hg) (hf g hg)).1
 .intro b r hr ho;obtain⟨r',h1,h2⟩:=hk.root b r hr;rw[<-h2];exact .own h1 (by rw[h2];exact ho)
 .intro b n g r hr hv;obtain⟨r',h1,h2⟩:=hk.root b r hr;exact .bsl h1 (h2.trans hv)
 .intro f cs c _ ih;exact .fn ih
 .exact .nil
 .intro a v as vs _ _ ih1 ih2;exact .cons ih1 ih2
theorem Ay.keep(hk:X7 ρ w F ρ' w' F')(h:Ay ρ w F as vs):Ay ρ' w' F' as vs:=by
 induction as generalizing vs with
 |nil=>cases h;exact .nil
 |cons a as ih=>cases h with|cons h hs=>exact .cons (h.keep hk) (ih hs)
theorem Ay.length(h:Ay ρ w F as vs):as.length=vs.length:=by
 induction as generalizing vs with
 |nil=>cases h;rfl
 |cons a as ih=>cases h with|cons h hs=>simp[ih hs]
theorem Ay.at(h:Ay ρ w F as vs){i:Nat}(hi:as[i]?=some a):∃v,vs[i]?=some v/\RV ρ w F a v:=by
 induction as generalizing vs i with
 |nil=>simp at hi
 |cons a' as ih =>
  cases h with
  |cons h hs =>
   grind
theorem Ay.append{bs:XQ}{xs:V3}(h:Ay ρ w F as vs)(h':Ay ρ w F bs xs):Ay ρ w F (as++bs) (vs++xs):=by
 induction as generalizing vs with
 |nil=>cases h;exact h'
 |cons a as ih=>cases h with|cons h hs=>exact .cons h (ih hs)
theorem Ay.take(h:Ay ρ w F as vs)(n:Nat):Ay ρ w F (as.take n) (vs.take n):=by
 induction as generalizing vs n with
 |nil=>cases h;simpa using Ay.nil
 |cons a as ih =>
  cases h with
  |cons h hs=>cases n with|zero=>exact .nil|succ n=>exact .cons h (ih hs n)
theorem Ay.drop(h:Ay ρ w F as vs)(n:Nat):Ay ρ w F (as.drop n) (vs.drop n):=by
 induction as generalizing vs n with
 |nil=>cases h;simpa using Ay.nil
 |cons a as ih =>
  cases h with
  |cons h hs=>cases n with|zero=>exact .cons h hs|succ n=>exact ih hs n
theorem Ay.of_TRs{ts:V4}{fp:V2}(h:AK w ts vs fp)(hf:∀g∈fp,F g):Ay ρ w F (ts.map .t) vs:=by
 induction ts generalizing vs fp with
 |nil=>cases h;exact .nil
 |cons t ts ih=>cases h with|cons h hs=>exact .cons (.t h λg hg=>hf g (by simp[hg])) (ih hs λg hg=>hf g (by simp[hg]))
end
def GJ(N:Bi)(base:Nat)(ρ:Map)(w:World)(F:Nat->Prop)(r:Root):Ax->Prop
 |.dead=>True
 |.box cs=>r.ex=[]/\∃g c e,r.v=.pointer (some ⟨g,0,none⟩)/\base<=g/\w.heap[g]?=some (.cells c e (0,0))/\Ay ρ w F cs c.toList/\∀v∈c.toList,v.oneCell'=true
 |.arr e sz fr es=>r.ex=[]/\∃e' xs,(e=Co\/e'=e)/\w.ownsRow base e' sz r.v es.length xs/\0<sz/\(∀x∈es,x.length=sz)/\AK w es.flatten xs r.fp/\(∀g∈r.fp,F g)/\
   (fr=true->r.fp.Nodup/\∀g∈r.fp,N.f g)/\(fr=true->Ba w base es.flatten xs)
 |.xarr e sz es=>∃e' xs,(e=Co\/e'=e)/\w.ownsRow base e' sz r.v es.length xs/\0<sz/\(∀x∈es,x.length=sz)/\AK w es.flatten xs r.ex/\Ba w base es.flatten xs/\r.ex.Nodup/\∀g∈r.ex,Xr r.v≠some g
 |.det e sz es i off b=>∃e' xs rb fa fc,(e=Co\/e'=e)/\w.ownsRow base e' sz r.v es.length xs/\0<sz/\(∀x∈es,x.length=sz)/\ρ b=some rb/\xs[i*sz+off]?=some rb.v/\off<sz/\i<es.length/\
   r.ex=fa++fc/\AK w (es.flatten.take (i*sz+off)) (xs.take (i*sz+off)) fa/\AK w (es.flatten.drop (i*sz+off+1)) (xs.drop (i*sz+off+1)) fc/\
   Ba w base (es.flatten.take (i*sz+off)) (xs.take (i*sz+off))/\Ba w base (es.flatten.drop (i*sz+off+1)) (xs.drop (i*sz+off+1))/\r.ex.Nodup/\∀g∈r.ex,Xr r.v≠some g
def Xm:Ax->Bool
 |.arr _ _ fr _=>fr
 |_=>false
structure Rel (N:Bi) (base:Nat) (ρ:Map) (h:WM) (w:World):Prop where
 hb:base<=w.heap.size
 hN:∀g,w.heap.size<=g->N.a g/\N.f g
 hO:∀b r g,ρ b=some r->gt h b≠.dead->X3 r g->N.a g/\N.f g
 blk:∀b,gt h b≠.dead->∃r,ρ b=some r/\GJ N base ρ w (Free N ρ h) r (gt h b)
 inj:∀b b' r r' g,ρ b=some r->ρ b'=some r'->gt h b≠.dead->gt h b'≠.dead->X3 r g->X3 r' g->b=b'
 apart:∀b b' r r' g,ρ b=some r->ρ b'=some r'->Xm (gt h b)=true->Xm (gt h b')=true->g∈r.fp->g∈r'.fp->b=b'
theorem Vh(h:WM)(b c:Nat)(x:Ax):gt (stB h b x) c=if c=b then x else gt h c:=by
 induction h generalizing b c with
 |nil =>
  induction b generalizing c with
  |zero=>cases c<;>simp[stB,gt]
  |succ b ih =>
   cases c with
   |zero=>simp[stB,gt]
   |succ c=>simpa[stB,gt]using ih c
 |cons y h ih =>
  cases b with
  |zero=>cases c<;>simp[stB,gt]
  |succ b =>
   cases c with
   |zero=>simp[stB,gt]
   |succ c=>simpa[stB,gt]using ih b c
def Aq(ρ:Map)(n:Nat)(r:Root):Map:=λb=>if b=n then some r else ρ b
def TI(h:WM)(u u':List (Nat×Ax)):upd h (u++u')=upd (upd h u) u':=by
 induction u generalizing h with
 |nil=>rfl
 |cons x u ih=>exact ih _
def Fm(h:WM)(ks:V2)(b:Nat):gt (upd h (kill ks)) b=if b∈ks then .dead else gt h b:=by
 induction ks generalizing h with
 |nil=>simp[kill,upd]
 |cons k ks ih =>
  show gt (upd (stB h k .dead) (kill ks)) b=_
  grind [Vh]
def GK(h:WM)(ks:V2)(n:Nat)(x:Ax)(b:Nat):gt (upd h (kill ks++[(n,x)])) b=if b=n then x else if b∈ks then .dead else gt h b:=by
 rw[TI];show gt (stB _ n x) b=_;rw[Vh,Fm]
section
variable{N:Bi}{base:Nat}{ρ:Map}{h:WM}{w w':World}{r:Root}{n g e sz:Nat}{x:Ax}{ks:V2}{row:Option Nat}{v:Value}{xs:V3}{F:Nat->Prop}
theorem Zqt(ho:w.ownsRow base e sz v n xs)(hg:Xr v=some g):base<=g/\g<w.heap.size:=by
 rcases ho.2 with⟨hv,_⟩|⟨g',cap,cur,hv,hb,hh,_⟩
 .rw[hv]at hg;simp[Xr]at hg
 .rw[hv]at hg;simp[Xr]at hg
  grind
theorem GJ.lt(hx:GJ N base ρ w F r x)(hd:x≠.dead)(hg:X3 r g):base<=g/\g<w.heap.size:=by
 cases x with
 |dead=>exact absurd rfl hd
 |box cs =>
  obtain⟨h0,g',c,e,hv,hb,hh,_⟩:=hx;rw[OY h0]at hg;rw[hv]at hg;simp[Xr]at hg
  grind
 |arr e sz fr es =>
  obtain⟨h0,e',xs,_,ho,_⟩:=hx;rw[OY h0]at hg
  exact Zqt ho hg
 |xarr e sz es =>
  obtain⟨e',xs,_,ho,_,_,ht,how,_⟩:=hx;rcases hg with hg|hg
  .exact Zqt ho hg
  .exact⟨how.ge ht g hg,ht.lt g hg⟩
 |det e sz es i off b =>
  obtain⟨e',xs,rb,fa,fc,he,ho,hsz,hl,hrb,hcell,q1,q2,hex,hA,hC,oA,oC,_⟩:=hx;rcases hg with hg|hg
  .exact Zqt ho hg
  .rw[hex]at hg;rcases Yi.1 hg with hg|hg
   .exact⟨oA.ge hA g hg,hA.lt g hg⟩
   .exact⟨oC.ge hC g hg,hC.lt g hg⟩
theorem Rel.lt(R:Rel N base ρ h w){b:Nat}(hr:ρ b=some r)(hd:gt h b≠.dead)(hg:X3 r g):base<=g/\g<w.heap.size:=by
 obtain⟨r',h1,h2⟩:=R.blk b hd;rw[hr]at h1;cases h1;exact h2.lt hd hg
def Vi(ρ:Map)(h:WM)(b g:Nat):Prop:=∃r,ρ b=some r/\gt h b≠.dead/\X3 r g
theorem ZBM(hn:∀r0,ρ n=some r0->r0.v=r.v)(hg:w.grownBy w' row)
  (hrow:∀g,row=some g->∃b,Vi ρ h b g) (hblk:∀g,X3 r g->w.heap.size<=g\/∃b,Vi ρ h b g) :
  X7 ρ w (Free N ρ h) (Aq ρ n r) w' (Free N (Aq ρ n r) (upd h (kill ks++[(n,x)]))):=by
 constructor
 .intro b r0 hr;by_cases hb:b=n
  .subst hb;exact⟨r,by simp[Aq],(hn r0 hr).symm⟩
  .exact⟨r0,by simp[Aq,hb,hr],rfl⟩
 .intro g hlt hf;constructor
  .refine⟨hf.1,?_⟩;intro b rb hr hd he;rw[GK]at hd;by_cases hb:b=n
   .subst hb;simp[Aq]at hr;subst hr;rcases hblk g he with h1|⟨b',r',h1,h2,h3⟩
    .omega
    .exact hf.2 b' r' h1 h2 h3
   .simp[Aq,hb]at hr;simp[hb]at hd;exact hf.2 b rb hr hd.2 he
  .refine hg.block g hlt λhe=>?_
   obtain⟨b',r',h1,h2,h3⟩:=hrow g he.symm;exact hf.2 b' r' h1 h2 h3
theorem Zqu(ho:w.ownsRow base e sz v n xs)(hsame:∀g,Xr v=some g->w'.heap[g]?=w.heap[g]?):w'.ownsRow base e sz v n xs:=by
 refine⟨ho.1,?_⟩;rcases ho.2 with h0|⟨g,cap,cur,hv,hb,hh,rest⟩
 .exact .inl h0
 .exact .inr ⟨g,cap,cur,hv,hb,by rw[hsame g (by rw[hv];rfl)];exact hh,rest⟩
theorem GJ.keep{F':Nat->Prop}{ρ':Map}(hx:GJ N base ρ w F r x)(hk:X7 ρ w F ρ' w' F')
  (hsame:∀g,X3 r g->w'.heap[g]?=w.heap[g]?):GJ N base ρ' w' F' r x:=by
 cases x with
 |dead=>trivial
 |box cs =>
  obtain⟨h0,g,c,e,hv,hb,hh,h1,h2⟩:=hx
  exact⟨h0,g,c,e,hv,hb,by rw[hsame g (.inl (by rw[hv];rfl))];exact hh,h1.keep hk,h2⟩
 |arr e sz fr es =>
  obtain⟨h0,e',xs,he,ho,hsz,hl,ht,hf,hfr,how⟩:=hx
  exact⟨h0,e',xs,he,Zqu ho λg hg=>hsame g (.inl hg),hsz,hl,ht.frame λg hg=>(hk.free g (ht.lt g hg) (hf g hg)).2,λg hg=>(hk.free g (ht.lt g hg) (hf g hg)).1,hfr,
   λhft=>(how hft).frame ht λg hg=>(hk.free g (ht.lt g hg) (hf g hg)).2⟩
 |xarr e sz es =>
  obtain⟨e',xs,he,ho,hsz,hl,ht,how,rest⟩:=hx
  exact⟨e',xs,he,Zqu ho λg hg=>hsame g (.inl hg),hsz,hl,ht.frame λg hg=>hsame g (.inr hg),how.frame ht λg hg=>hsame g (.inr hg),rest⟩
 |det e sz es i off b =>
  obtain⟨e',xs,rb,fa,fc,he,ho,hsz,hl,hrb,hcell,h1,h2,hex,hA,hC,oA,oC,rest⟩:=hx;obtain⟨OZ,Aac,hv'⟩:=hk.root b rb hrb;have hfr2:∀g∈fa,w'.heap[g]?=w.heap[g]?:=λg hg=>hsame g (.inr (by rw[hex];simp[hg]))
  have TJ:∀g∈fc,w'.heap[g]?=w.heap[g]?:=λg hg=>hsame g (.inr (by rw[hex];simp[hg]))
  exact⟨e',xs,OZ,fa,fc,he,Zqu ho λg hg=>hsame g (.inl hg),hsz,hl,Aac,by rw[hv'];exact hcell,h1,h2,hex,hA.frame hfr2,hC.frame TJ,oA.frame hA hfr2,oC.frame hC TJ,rest⟩
theorem TK(R:Rel N base ρ h w)(hn:∀r0,ρ n=some r0->r0.v=r.v)(hg:w.grownBy w' row)
  (hrow:∀g,row=some g->∃b,(b∈ks\/b=n)/\Vi ρ h b g) (hblk:∀g,X3 r g->w.heap.size<=g\/∃b,(b∈ks\/b=n)/\Vi ρ h b g)
  (hB:X7 ρ w (Free N ρ h) (Aq ρ n r) w' (Free N (Aq ρ n r) (upd h (kill ks++[(n,x)])))->
   GJ N base (Aq ρ n r) w' (Free N (Aq ρ n r) (upd h (kill ks++[(n,x)]))) r x)
  (hfp:Xm x=true->∀g∈r.fp,∀d rd,d ∉ ks->d≠n->ρ d=some rd->Xm (gt h d)=true->g ∉ rd.fp) :
  Rel N base (Aq ρ n r) (upd h (kill ks++[(n,x)])) w'/\X7 ρ w (Free N ρ h) (Aq ρ n r) w' (Free N (Aq ρ n r) (upd h (kill ks++[(n,x)])))/\
   ∀g,g<w.heap.size->¬N.a g->w'.heap[g]?=w.heap[g]?:=by
 have hk:X7 ρ w (Free N ρ h) (Aq ρ n r) w' (Free N (Aq ρ n r) (upd h (kill ks++[(n,x)]))) :=
  ZBM hn hg (λg e=>let ⟨b,_,ho⟩:=hrow g e;⟨b,ho⟩) (λg e=>(hblk g e).imp id λ⟨b,_,ho⟩=>⟨b,ho⟩)
 have hB:=hB hk;refine⟨⟨Y8 R.hb hg.size,λg hl=>R.hN g (Y8 hg.size hl),?_,?_,?_,?_⟩,hk,?_⟩
 .intro b rb g hrb hd hgb;rw[GK]at hd;by_cases hb:b=n
  .subst hb;simp[Aq]at hrb;subst hrb;rcases hblk g hgb with h1|⟨c,_,rc,h1,h2,h3⟩
   .exact R.hN g h1
   .exact R.hO c rc g h1 h2 h3
  .simp[Aq,hb]at hrb;simp[hb]at hd;exact R.hO b rb g hrb hd.2 hgb
 .intro b hd;rw[GK]at hd;by_cases hb:b=n
  .subst hb;exact⟨r,by simp[Aq],by rw[GK];simpa using hB⟩
  .simp[hb]at hd;obtain⟨rb,h1,h2⟩:=R.blk b hd.2;refine⟨rb,by simp[Aq,hb,h1],?_⟩;rw[GK];simp only[hb,hd.1,if_false];refine h2.keep hk λg hgb=>?_
   refine hg.block g (h2.lt hd.2 hgb).2 λe=>?_
   obtain⟨b',hb',r',h1',h2',h3'⟩:=hrow g e.symm;have:=R.inj b b' rb r' g h1 h1' hd.2 h2' hgb h3'
   simp_all
 .intro b b' rb OZ g h1 h1' hd hd' hgb hgb';rw[GK]at hd hd';by_cases hb:b=n<;>by_cases hb':b'=n
  .rw[hb,hb']
  .exfalso;subst hb;simp[Aq]at h1;subst h1;simp[Aq,hb']at h1';simp[hb']at hd';rcases hblk g hgb with h0|⟨c,hc,rc,hc1,hc2,hc3⟩
   .have:=(R.lt h1' hd'.2 hgb').2;omega
   .have:=R.inj b' c OZ rc g h1' hc1 hd'.2 hc2 hgb' hc3
    simp_all
  .exfalso;subst hb';simp[Aq]at h1';subst h1';simp[Aq,hb]at h1;simp[hb]at hd;rcases hblk g hgb' with h0|⟨c,hc,rc,hc1,hc2,hc3⟩
   .have:=(R.lt h1 hd.2 hgb).2;omega
   .have:=R.inj b c rb rc g h1 hc1 hd.2 hc2 hgb hc3
    simp_all
  .simp[Aq,hb]at h1;simp[Aq,hb']at h1';simp[hb]at hd;simp[hb']at hd';exact R.inj b b' rb OZ g h1 h1' hd.2 hd'.2 hgb hgb'
 .intro b b' rb OZ g h1 h1' hf hf' hgb hgb';rw[GK]at hf hf';by_cases hb:b=n<;>by_cases hb':b'=n
  .rw[hb,hb']
  .exfalso;subst hb;simp[Aq]at h1;subst h1;simp[Aq,hb']at h1';simp only[hb',if_false]at hf';simp only[if_true]at hf;by_cases hk':b'∈ks
   .simp[hk',Xm]at hf'
   .grind
  .exfalso;subst hb';simp[Aq]at h1';subst h1';simp[Aq,hb]at h1;simp only[hb,if_false]at hf;simp only[if_true]at hf';by_cases hk':b∈ks
   .simp[hk',Xm]at hf
   .grind
  .simp[Aq,hb]at h1;simp[Aq,hb']at h1';simp only[hb,if_false]at hf;simp only[hb',if_false]at hf';by_cases hk1:b∈ks
   .simp[hk1,Xm]at hf
   .by_cases hk2:b'∈ks
    .simp[hk2,Xm]at hf'
    .simp only[hk1,if_false]at hf;simp only[hk2,if_false]at hf';exact R.apart b b' rb OZ g h1 h1' hf hf' hgb hgb'
 .intro g hl hn';refine hg.block g hl λe=>?_
  obtain⟨c,_,rc,h1,h2,h3⟩:=hrow g e.symm;exact hn' (R.hO c rc g h1 h2 h3).1
theorem IC(R:Rel N base ρ h w)(hn:∀r0,ρ n=some r0->r0.v=r.v)(hg:w.grownBy w' row)
  (hrow:∀g,row=some g->∃b,(b∈ks\/b=n)/\Vi ρ h b g) (hblk:∀g,Xr r.v=some g->w.heap.size<=g\/∃b,(b∈ks\/b=n)/\Vi ρ h b g)
  (hB:X7 ρ w (Free N ρ h) (Aq ρ n r) w' (Free N (Aq ρ n r) (upd h (kill ks++[(n,x)])))->
   GJ N base (Aq ρ n r) w' (Free N (Aq ρ n r) (upd h (kill ks++[(n,x)]))) r x)
  (hfp:Xm x=true->∀g∈r.fp,∀d rd,d ∉ ks->d≠n->ρ d=some rd->Xm (gt h d)=true->g ∉ rd.fp) (hx:r.ex=[]:=by rfl) :
  Rel N base (Aq ρ n r) (upd h (kill ks++[(n,x)])) w'/\X7 ρ w (Free N ρ h) (Aq ρ n r) w' (Free N (Aq ρ n r) (upd h (kill ks++[(n,x)])))/\
   ∀g,g<w.heap.size->¬N.a g->w'.heap[g]?=w.heap[g]? :=
 TK R hn hg hrow (λg hg'=>hblk g ((OY hx).1 hg')) hB hfp
end
open Go.RowKit (Below)
def XB(ρ:Map)(w:World)(F:Nat->Prop)(e:Env)(tmps:Array Value):Prop:=∀s,RV ρ w F (lk s e) (tmps.getD s undef)
def AR(P:Program)(N:Bi)(base:Nat)(ρ:Map)(h:WM)(w:World)(s:Sem Next)(v:AV)(u:List (Nat×Ax)):Prop :=
 ∃val w' ρ',((s.run P w=.ok (.value val) w')\/(s.run P w=.ok .skip w'/\val=undef))/\RV ρ' w' (Free N ρ' (upd h u)) v val/\Rel N base ρ' (upd h u) w'/\
  X7 ρ w (Free N ρ h) ρ' w' (Free N ρ' (upd h u))/\(∀b,b ∉ u.map Prod.fst->ρ' b=ρ b)/\Below base w w'/\∀g,g<w.heap.size->¬N.a g->w'.heap[g]?=w.heap[g]?
section
variable{P:Program}{N:Bi}{base:Nat}{ρ:Map}{h:WM}{w:World}{F:Nat->Prop}{e:Env}{a:Act}{v val:Value}{t:TypeId}{cs zs:XQ}{nx:Nat}{x:AV}{s:Sem Next}
theorem RV.bool_inv{b:Bool}(hv:RV ρ w F (.t (.bool b)) v):v=.bool b:=by
 cases hv with|t h hf=>cases h;rfl
theorem RV.int_inv{k:IntKind}{n:Int}(hv:RV ρ w F (.t (.int k n)) v):v=.int k n:=by
 cases hv with|t h hf=>cases h;rfl
theorem RV.str_inv{s:V5}(hv:RV ρ w F (.t (.str s)) v):v=.string s:=by
 cases hv with|t h hf=>cases h;rfl
theorem RV.nil_inv(hv:RV ρ w F (.t .nil) v):v=.slice none 0 0:=by
 cases hv with|t h hf=>cases h;rfl
theorem RV.int_mk(k:IntKind)(n:Int):RV ρ w F (.t (.int k n)) (.int k n):=.t (.int k n) (by intro g hg;cases hg)
theorem RV.bool_mk(b:Bool):RV ρ w F (.t (.bool b)) (.bool b):=.t (.bool b) (by intro g hg;cases hg)
theorem RV.str_mk(s:V5):RV ρ w F (.t (.str s)) (.string s):=.t (.str s) (by intro g hg;cases hg)
theorem Zqv{x:T}(hv:C0 v=some x):TR w x v []:=by
 unfold C0 at hv;split at hv<;>cases hv
 .exact .int _ _
 .exact .bool _
 .exact .str _
 .exact .nil
theorem Z0M(hv:C1 v=some x):RV ρ w F x v/\v.oneCell'=true:=by
 unfold C1 at hv;split at hv
 .cases hv;exact⟨.nilp,rfl⟩
 .obtain⟨t,ht,rfl⟩:=Yo.1 hv;exact⟨.t (Zqv ht) (by intro g hg;cases hg),(Zqv (w:=w) ht).one⟩
theorem QR{α β:Type}{f:α->Option β}{x:α}{xs:List α}{ys:List β}(hm:AQ f (x::xs)=some ys):∃y zs,f x=some y/\AQ f xs=some zs/\ys=y::zs:=by
 unfold AQ at hm
 grind
theorem Zqw{cs:V3}(hm:AQ C1 cs=some zs):Ay ρ w F zs cs/\∀v∈cs,v.oneCell'=true:=by
 induction cs generalizing zs with
 |nil=>cases hm;exact⟨.nil,by intro v hv;cases hv⟩
 |cons c cs ih =>
  obtain⟨y,ys,h1,h2,rfl⟩:=QR hm;obtain⟨ha,hb⟩:=Z0M (ρ:=ρ) (w:=w) (F:=F) h1;obtain⟨hc,hd⟩:=ih h2;exact⟨.cons ha hc,by intro v hv;cases hv with|head=>exact hb|tail _ hv=>exact hd v hv⟩
theorem Zqx{cs:V3}{zs:V4}(hm:AQ C0 cs=some zs):AK w zs cs []:=by
 induction cs generalizing zs with
 |nil=>cases hm;exact .nil
 |cons c cs ih =>
  obtain⟨y,ys,h1,h2,rfl⟩:=QR hm;exact AK.cons (Zqv h1) (ih h2)
theorem ZBN(hv:Dq v=some x):RV ρ w F x v:=by
 unfold Dq at hv;split at hv
 .rename_i cs
  cases hm:AQ C1 cs.toList with
  |none=>simp[hm]at hv
  |some zs =>
   simp[hm]at hv;subst hv;obtain⟨h1,h2⟩:=Zqw (ρ:=ρ) (w:=w) (F:=F) hm;exact .agg h1 h2
 .exact(Z0M hv).1
theorem ZY(hE:XB ρ w F e a.tmps){x:Operand}{o:AO}(ho:AZ x=some o):RV ρ w F (ev e o) (a.eval x):=by
 cases x with
 |tmp t=>simp[AZ]at ho;subst ho;exact hE t
 |const v =>
  simp only[AZ]at ho
  cases hv:Dq v with
  |none=>simp[hv]at ho
  |some y=>simp[hv]at ho;subst ho;exact ZBN hv
 |global g=>simp[AZ]at ho
 |func f=>simp[AZ]at ho;subst ho;exact .fn .nil
theorem GL(hE:XB ρ w F e a.tmps){xs:List Operand}{os:List AO}(hm:AQ AZ xs=some os):Ay ρ w F (os.map (ev e)) (xs.map a.eval):=by
 induction xs generalizing os with
 |nil=>cases hm;exact .nil
 |cons x xs ih =>
  obtain⟨y,ys,h1,h2,rfl⟩:=QR hm;exact .cons (ZY hE h1) (ih h2)
theorem GM{v:AV}(hc:cellsOf v=some cs)(hv:RV ρ w F v val):Ay ρ w F cs val.cells.toList/\∀x∈val.cells.toList,x.oneCell'=true:=by
 cases hv with
 |top v=>simp[cellsOf]at hc
 |tup h=>simp[cellsOf]at hc
 |agg h h1=>simp[cellsOf]at hc;subst hc;exact⟨h,h1⟩
 |nilp=>simp[cellsOf]at hc;subst hc;exact⟨.cons .nilp .nil,by simp[Value.cells,Value.oneCell']⟩
 |t h hf =>
  simp[cellsOf]at hc;subst hc;have h1:=h.one
  have:val.cells=#[val]:=by cases val<;>first|rfl|simp[Value.oneCell']at h1
  rw[this]
  exact⟨.cons (.t h hf) .nil,by simpa using h1⟩
 |ptr hr hv=>simp[cellsOf]at hc;subst hc;exact⟨.cons (.ptr hr hv) .nil,by simp[Value.cells,Value.oneCell']⟩
 |eptr hr hv=>simp[cellsOf]at hc;subst hc;exact⟨.cons (.eptr hr hv) .nil,by simp[Value.cells,Value.oneCell']⟩
 |iptr hg hF h2 hf=>simp[cellsOf]at hc;subst hc;exact⟨.cons (.iptr hg hF h2 hf) .nil,by simp[Value.cells,Value.oneCell']⟩
 |@own b r hr h1 =>
  simp[cellsOf]at hc;subst hc
  have:r.v.cells=#[r.v]:=by cases hh:r.v<;>first|rfl|(rw[hh]at h1;simp[Value.oneCell']at h1)
  rw[this]
  exact⟨.cons (.own hr h1) .nil,by simpa using h1⟩
 |bsl hr hv=>simp[cellsOf]at hc;subst hc;exact⟨.cons (.bsl hr hv) .nil,by simp[Value.cells,Value.oneCell']⟩
 |fn h=>simp[cellsOf]at hc;subst hc;exact⟨.cons (.fn h) .nil,by simp[Value.cells,Value.oneCell']⟩
theorem AR.same(R:Rel N base ρ h w){v:AV}(hs:s.run P w=.ok (.value val) w)(hv:RV ρ w (Free N ρ h) v val):AR P N base ρ h w s v [] :=
 ⟨val,w,ρ,.inl hs,hv,R,.refl,λ_ _=>rfl,Below.refl _ _,λ_ _ _=>rfl⟩
theorem Z0N(w:World)(o:Obj):w.grownBy (w.alloc o) none:=World.grownBy_alloc w o none
theorem AR.newBox(R:Rel N base ρ h w)(hn:ρ nx=none){c:Array Value}
  (hs:s.run P w=.ok (.value (.pointer (some ⟨w.heap.size,0,none⟩))) (w.alloc (.cells c t))) (hc:Ay ρ w (Free N ρ h) cs c.toList) (h1:∀v∈c.toList,v.oneCell'=true) :
  AR P N base ρ h w s (.ptr nx 0) [(nx,.box cs)]:=by
 have hp:=IC R (n:=nx) (ks:=[]) (x:=.box cs) (r:=⟨.pointer (some ⟨w.heap.size,0,none⟩),[],[]⟩) (row:=none) (w':=w.alloc (.cells c t))
  (by intro r0 h0;rw[hn]at h0;cases h0) (Z0N w _) (by intro g hg;cases hg) (by intro g hg;simp[Xr]at hg;exact .inl Z)
  (λhk=>⟨rfl,w.heap.size,c,t,rfl,R.hb,heap_alloc_new w _,hc.keep hk,h1⟩) (by intro hf;cases hf)
 refine⟨_,_,Aq ρ nx ⟨.pointer (some ⟨w.heap.size,0,none⟩),[],[]⟩,.inl hs,?_,hp.1,hp.2.1,?_,(Below.refl _ _).alloc R.hb _,hp.2.2⟩
 .exact .ptr (r:=⟨.pointer (some ⟨w.heap.size,0,none⟩),[],[]⟩) (by simp[Aq]) rfl
 .intro b hb;simp at hb;simp[Aq,hb]
theorem Fn{n:Option Nat}{v:AV}{x:Value}(h:RV ρ w F v x):RV ρ w F (wz1 n v) x:=by
 unfold wz1;split
 .cases h with
  |t hT hf=>cases hT;exact .t (.lst0 _ _ _) (by intro g hg;cases hg)
 .exact h
theorem Zqy:∀{ns:List (Option Nat)} {vs:XQ} {xs:V3},Ay ρ w F vs xs->Ay ρ w F (OV ns vs) xs
 |[],_,_,h=>by unfold OV;exact h
 |n::ns,[],_,h=>by unfold OV;exact h
 |n::ns,v::vs,_,h=>by
  unfold OV
  cases h with
  |cons h hs=>exact .cons (Fn h) (Zqy hs)
theorem D7{i:TypeInfo}{z:Value}(hi:P.info? t=some i)(hz:i.zero=some z)(w:World):(zeroValue t).run P w=.ok z w:=by
 simp[zeroValue,typeInfo,hi,hz]
theorem D8(R:Rel N base ρ h w)(hn:ρ nx=none)(hz:Cr P t=some zs) :
  AR P N base ρ h w (do pure (.value (<-Instr.alloc t true (.tuple #[])))) (.ptr nx 0) [(nx,.box zs)]:=by
 unfold Cr at hz
 cases hi:P.info? t with
 |none=>simp[hi]at hz
 |some i =>
  cases hzz:i.zero with
  |none=>simp[hi,hzz]at hz
  |some z =>
   simp[hi,hzz]at hz;obtain⟨zs0,hz,rfl⟩:=hz;obtain⟨h1,h2⟩:=Zqw (ρ:=ρ) (w:=w) (F:=Free N ρ h) hz;exact .newBox R hn (c:=z.cells) (t:=t) (by simp[Instr.alloc,D7 hi hzz,newVar,newRow]) (Zqy h1) h2
theorem ID(R:Rel N base ρ h w)(hn:ρ nx=none){v:AV}(hv:RV ρ w (Free N ρ h) v val)(hc:cellsOf v=some cs) :
  AR P N base ρ h w (do pure (.value (<-Instr.box t val))) (.ptr nx 0) [(nx,.box cs)]:=by
 obtain⟨h1,h2⟩:=GM hc hv;exact .newBox R hn (c:=val.cells) (t:=t) (by simp[Instr.box,newVar,newRow]) h1 h2
end
open Go.RowKit (Below)
section
variable{P:Program}{N:Bi}{base:Nat}{ρ:Map}{h:WM}{w:World}{F:Nat->Prop}{e:Env}{a:Act}{t te:TypeId}{g o off k sz i:Nat}{c:Array Value}{fz:Nat×Nat}{v val:Value}{fp:V2}{n:Option Nat}{cs ts:V4}{es:WA}{F':Nat->Prop}{x:AV}{xs:V3}
theorem QS(g o j:Nat):(⟨g,o,none⟩:Addr).add j=⟨g,o+j,none⟩:=by unfold Addr.add;split<;>simp_all
theorem Z0O{n:Nat}(hg:w.heap[g]?=some (.cells c t fz)){j:Nat}(hj:((c.toList.drop o).take n)[j]?=some v) :
  w.cell? ((⟨g,o,none⟩:Addr).add j)=some v:=by
 rw[QS,cell_of_row w g (o+j) c t fz hg]
 grind
theorem rN(hn:Un P t=some n)(w:World):(isAgg t).run P w=.ok n.isSome w:=by
 unfold Un at hn;split at hn
 .rename_i fs hu;cases hi:P.info? t<;>simp[hi]at hn;subst hn;simp[isAgg,run_underlying hu]
 .rename_i m el hu;cases hi:P.info? t<;>simp[hi]at hn;subst hn;simp[isAgg,run_underlying hu]
 .rename_i d h1 h2 hu;simp at hn;subst hn;simp only[isAgg,Sem.run_bind,run_underlying hu,Result.andThen_ok];simp
 .cases hn
theorem Zqz(hn:Un P t=some (some k)):∃i,P.info? t=some i/\i.size=k:=by
 unfold Un at hn;split at hn
 .simp_all
 .simp_all
 .simp at hn
 .cases hn
theorem Zq0(hn:Un P t=some none)(hg:w.heap[g]?=some (.cells c te fz))(hv:c.toList[o]?=some v) :
  (loadVar t ⟨g,o,none⟩).run P w=.ok v w:=by
 have hc:w.cell? ⟨g,o,none⟩=some v:=by rw[cell_of_row w g o c te fz hg];simpa using hv
 simp[loadVar,rN hn,hc]
theorem Z0P(hn:Un P t=some (some k))(hg:w.heap[g]?=some (.cells c te fz)){vs:V3}
  (hv:(c.toList.drop o).take k=vs) (hl:vs.length=k):(loadVar t ⟨g,o,none⟩).run P w=.ok (.agg vs.toArray) w:=by
 obtain⟨i,hi,hs⟩:=Zqz hn;have:=run_loadCells_list (P:=P) w ⟨g,o,none⟩ vs (λj v hj=>Z0O (n:=k) hg (by rw[hv];exact hj));rw[hl]at this;simp[loadVar,rN hn,sizeOf,typeInfo,hi,hs,this]
theorem Zq1(hn:Un P t=some n)(hg:w.heap[g]?=some (.cells c te fz)){cs:XQ}
  (hc:Ay ρ w F cs c.toList) (h1:∀v∈c.toList,v.oneCell'=true) {v:AV} (hv:U9 cs o n=some v):∃val,(loadVar t ⟨g,o,none⟩).run P w=.ok val w/\RV ρ w F v val:=by
 cases n with
 |none =>
  obtain⟨val,h2,h3⟩:=hc.at hv
  grind [Zq0]
 |some k =>
  simp only[U9]at hv;split at hv
  .rename_i hle;simp at hv;subst hv;have hl:=hc.length;refine⟨_,Z0P hn hg rfl (by simp;simp at hl;omega),.agg (by simpa using(hc.drop o).take k) ?_⟩
   grind
  .cases hv
theorem Zq2(hn:Un P t=some n)(hg:w.heap[g]?=some (.cells c te fz))
  (hc:AK w cs ((c.toList.drop o).take cs.length) fp) (hf:∀g∈fp,F g) {v:AV} (hv:KQ cs off n=some v):∃val,(loadVar t ⟨g,o+off,none⟩).run P w=.ok val w/\RV ρ w F v val:=by
 cases n with
 |none =>
  simp only[KQ]at hv
  cases hx:cs[off]? with
  |none=>simp[hx]at hv
  |some x =>
   simp[hx]at hv;subst hv;obtain⟨val,fq,h2,h3,h4⟩:=hc.at hx;refine⟨val,Zq0 hn hg ?_,.t h3 λg hg=>hf g (h4 g hg)⟩
   grind
 |some k =>
  simp only[KQ]at hv;split at hv
  .rename_i hle;simp at hv;subst hv;have hl:=hc.length;simp at hl;have hR:=Ay.of_TRs (ρ:=ρ) hc hf;have e1:(c.toList.drop (o+off)).take k=((((c.toList.drop o).take cs.length).drop off).take k):=by
    grind [List.drop_take,List.drop_drop]
   refine⟨_,Z0P hn hg e1 (by simp;omega),.agg ?_ ?_⟩
   .simpa[List.map_drop,List.map_take]using(hR.drop off).take k
   .intro v hv;exact hc.one v (Is (Dk hv))
  .cases hv
theorem RV.scalT{F:Nat->Prop}{x:T}(h:RV ρ w F (.t x) v)(hs:ZX x=true):RV ρ w F' (.t x) v:=by
 cases h with
 |t hT _ =>
  refine .t hT λg hg=>?_
  cases hT<;>first|cases hg;done|simp[ZX]at hs
theorem Ay.scalT{F F':Nat->Prop}:∀{cs:XQ} {vs:V3},Ay ρ w F cs vs->cs.all (λc=>match c with|.t x=>ZX x|_=>false)=true->Ay ρ w F' cs vs
 |[],_,h,_=>by cases h;exact .nil
 |c::cs,_,h,hs=>by
  cases h with
  |cons h hs' =>
   simp only[Cz,Yd]at hs;refine .cons ?_ (Ay.scalT hs' hs.2)
   cases c with
   |t x=>exact h.scalT hs.1
   |_=>cases hs.1
theorem RV.scal1{F:Nat->Prop}(h:RV ρ w F x v)(hs:AM.scal1 x=true):RV ρ w F' x v:=by
 cases x with
 |t x=>exact h.scalT hs
 |agg cs =>
  cases h with
  |agg hc h1=>exact .agg (hc.scalT hs) h1
 |_=>cases hs
theorem Z0Q{c t:T}(h:TR w t v fp):TR w (Dn c t) v fp:=by
 unfold Dn;split
 .cases h;exact .lst0 _ _ _
 .exact h
theorem IE:∀{cs ts:V4} {vs:V3} {fp:V2},AK w ts vs fp->AK w (wk cs ts) vs fp
 |[],_,_,_,h=>by unfold wk;exact h
 |c::cs,[],_,_,h=>by unfold wk;exact h
 |c::cs,t::ts,_,_,h=>by
  unfold wk
  cases h with
  |cons h hs=>exact .cons (Z0Q h) (IE hs)
theorem Dr{base:Nat}:∀{cs ts:V4} {vs:V3},Ba w base ts vs->Ba w base (wk cs ts) vs
 |[],_,_,h=>by simpa[wk]using h
 |c::cs,[],_,h=>by simpa[wk]using h
 |c::cs,t::ts,_,h=>by
  cases h with
  |cons h hs =>
   refine .cons ?_ (Dr hs);unfold Dn;split
   .exact .lst0 _ _
   .exact h
theorem KU:∀{cs ts:V4},(wk cs ts).length=ts.length
 |[],_=>by unfold wk;rfl
 |c::cs,[]=>by unfold wk;rfl
 |c::cs,t::ts=>by unfold wk;simp[KU (cs:=cs) (ts:=ts)]
theorem AK.elem(hc:AK w es.flatten xs fp)(hl:∀x∈es,x.length=sz)(hi:es[i]?=some cs) :
  ∃fq,AK w cs ((xs.drop (i*sz)).take cs.length) fq/\∀g∈fq,g∈fp:=by
 induction es generalizing xs fp i with
 |nil=>simp at hi
 |cons x es ih =>
  rw[OJ]at hc;obtain⟨fa,fb,rfl,h1,h2⟩:=hc.split
  cases i with
  |zero =>
   grind
  |succ i =>
   obtain⟨fq,h3,h4⟩:=ih h2 (λy hy=>hl y (by simp[hy])) (by simpa using hi);refine⟨fq,?_,λg hg=>by simp[h4 g hg]⟩;rw[hl x Om,Iq]at h3
   grind
theorem QT(hl:∀x∈es,x.length=sz):es.flatten.length=es.length*sz:=by
 induction es with
 |nil=>simp
 |cons x es ih =>
  grind
theorem AK.splice{A B C:V4}{ys:V3}{fq:V2}(hc:AK w (A++B++C) xs fp)(ht:AK w ts ys fq) :
  ∃fa fb fc,fp=fa++fb++fc/\AK w (A++ts++C) (xs.take A.length++ys++xs.drop (A.length+B.length)) (fa++fq++fc):=by
 obtain⟨fab,fc,rfl,h1,h2⟩:=hc.split;obtain⟨fa,fb,rfl,h3,h4⟩:=h1.split;refine⟨fa,fb,fc,rfl,?_⟩;have e1:(xs.take (A++B).length).take A.length=xs.take A.length:=by rw[Fe];congr 1;simp
 rw[e1]at h3;rw[Yu]at h2;exact(h3.append ht).append h2
theorem rO(hi:es[i]?=some cs)(hle:off+ts.length<=cs.length) :
  es.flatten=((es.take i).flatten++cs.take off)++(cs.drop off).take ts.length++(cs.drop (off+ts.length)++(es.drop (i+1)).flatten)/\
  (es.set i (AF cs off ts)).flatten=((es.take i).flatten++cs.take off)++ts++(cs.drop (off+ts.length)++(es.drop (i+1)).flatten):=by
 have hlt:i<es.length:=by
  grind
 have hsplit:es=es.take i++cs::es.drop (i+1):=by
  have:=Y0.1 hi;obtain⟨_,rfl⟩:=this;simp
 constructor
 .grind [List.flatten_append,List.flatten_cons,List.drop_drop,List.take_append_drop,List.append_assoc]
 .have:es.set i (AF cs off ts)=es.take i++AF cs off ts::es.drop (i+1):=by
   grind
  rw[this,E2,OJ];simp[AF,DT]
theorem rP{i:TypeInfo}(hi:P.info? t=some i)(hg:w.heap[g]?=some (.cells c te (0,0)))(hs:val.cells.size=i.size)
  (hle:o+i.size<=c.size) (h1:∀v∈val.cells.toList,v.oneCell'=true) :
  (storeVar t ⟨g,o,none⟩ val).run P w=.ok () (w.setRow g (c.toList.take o++val.cells.toList++c.toList.drop (o+i.size)).toArray):=by
 have:=run_storeCells_at P g o te val.cells.toList 0 c w hg (by simp[hs];omega) h1;simp only[Dz,Y1,hs]at this;simp[storeVar,sizeOf,typeInfo,hi,hs,this]
theorem GN(w:World)(g:Nat)(cs:Array Value):w.grownBy (w.setRow g cs) (some g) :=
 ⟨rfl,rfl,rfl,Om,λk _ hk=>setRow_other w g k cs λe=>hk (by rw[e])⟩
theorem Below.setRow{w:World}{base:Nat}(hg:base<=g)(cs:Array Value):Below base w (w.setRow g cs) :=
 ⟨rfl,rfl,rfl,Om,λk hk=>setRow_other w g k cs Z⟩
theorem ZBO(R:Rel N base ρ h w){b:Nat}{cs:XQ}(hb:gt h b=.box cs){v:AV}{vs:XQ}{px:Value}(hx:x=.ptr b off)(hpx:RV ρ w (Free N ρ h) x px)
  (hc:cellsOf v=some vs) (hv:RV ρ w (Free N ρ h) v val) {i:TypeInfo} (hi:P.info? t=some i) (hl:vs.length=i.size) (hle:off+i.size<=cs.length) :
  AR P N base ρ h w (do Instr.storeAt t px val;pure .skip) .top [(b,.box (VT cs off vs))]:=by
 subst hx
 cases hpx with
 |@ptr _ _ g r hr Bx =>
  have hd:gt h b≠.dead:=by rw[hb];intro hc;cases hc
  obtain⟨r',h1,h2⟩:=R.blk b hd;rw[hr]at h1;cases h1;rw[hb]at h2;obtain⟨hx0,g',c,te,hv',hbase,hh,hcs,hone⟩:=h2;rw[Bx]at hv';cases hv';obtain⟨hvs,hone'⟩:=GM hc hv;have hcl:=hcs.length;have hvl:=hvs.length;simp only[Y1]at hcl hvl;have hrun:=rP (P:=P) hi hh (o:=off) (val:=val) Z Z hone';have hnew:Ay ρ w (Free N ρ h) (VT cs off vs) (c.toList.take off++val.cells.toList++c.toList.drop (off+i.size)):=by
   rw[VT,hl];exact((hcs.take off).append hvs).append (hcs.drop _)
  have hp:=IC R (n:=b) (ks:=[]) (x:=.box (VT cs off vs)) (r:=r) (row:=some g) (w':=w.setRow g (c.toList.take off++val.cells.toList++c.toList.drop (off+i.size)).toArray)
   (by intro r0 h0;rw[hr]at h0;cases h0;rfl) (GN w g _)
   (by intro g' hg';cases hg';exact⟨b,.inr rfl,r,hr,hd,.inl (by rw[Bx];rfl)⟩)
   (by intro g' hg';exact .inr ⟨b,.inr rfl,r,hr,hd,.inl hg'⟩)
   (λhk=>⟨hx0,g,_,te,Bx,hbase,setRow_heap w g c _ te _ hh,hnew.keep hk,by
    intro x hx;change x∈c.toList.take off++val.cells.toList++c.toList.drop (off+i.size)at hx;rcases Yi.1 hx with hx|hx
    .rcases Yi.1 hx with hx|hx
     .exact hone x (Dk hx)
     .exact hone' x hx
    .exact hone x (Is hx)⟩)
   (by intro hf;cases hf) hx0
  refine⟨undef,_,Aq ρ b r,.inr ⟨by simp[Instr.storeAt,Instr.sureAddr,hrun],rfl⟩,.top _,hp.1,hp.2.1,?_,Below.setRow hbase _,hp.2.2⟩;intro b' hb';simp at hb';simp[Aq,hb']
end
open Go.RowKit (Below)
section
variable{P:Program}{N:Bi}{base:Nat}{ρ:Map}{h:WM}{w w':World}{F:Nat->Prop}{e:Env}{a:Act}{ks fp ks':V2}{f fr:Bool}{r:Root}{b el sz off:Nat}{vs cs:XQ}{ts xs:V4}{es:WA}{v:AV}{val px:Value}{x:Ax}{t:TypeId}
theorem O0{l:V2}:VU l=true↔l.Nodup:=by
 induction l with
 |nil=>simp[VU]
 |cons x l ih=>simp[VU,ih]
structure Bj (N:Bi) (base:Nat) (ρ:Map) (h:WM) (ks:V2) (fp:V2) (f:Bool):Prop where
 free:∀g∈fp,Free N ρ h g\/∃k∈ks,Vi ρ h k g
 fresh:f=true->∀g∈fp,N.f g/\∃k∈ks,∃r,ρ k=some r/\((gt h k≠.dead/\X3 r g)\/(Xm (gt h k)=true/\g∈r.fp))
 nodup:f=true->ks.Nodup->fp.Nodup
theorem KV(hx:Xm x=true):x≠.dead:=by intro hc;rw[hc]at hx;cases hx
theorem Rel.free_fp(R:Rel N base ρ h w){k:Nat}(hr:ρ k=some r)(hf:Xm (gt h k)=true):∀g∈r.fp,Free N ρ h g:=by
 obtain⟨r',h1,h2⟩:=R.blk k (KV hf);rw[hr]at h1;cases h1
 cases hx:gt h k with
 |dead=>rw[hx]at hf;cases hf
 |box cs=>rw[hx]at hf;cases hf
 |arr e sz fr es =>
  rw[hx]at h2;obtain⟨_,_,xs,_,_,_,_,_,h6,_⟩:=h2
  exact h6
 |xarr e sz es=>rw[hx]at hf;cases hf
 |det e sz es i off b=>rw[hx]at hf;cases hf
theorem Bj.nil(f:Bool):Bj N base ρ h [] [] f:=⟨(by intro g hg;cases hg),(by intro _ g hg;cases hg),λ_ _=>Y2⟩
theorem Bj.append(R:Rel N base ρ h w){ls fq:V2}{g:Bool}(A:Bj N base ρ h ks fp f)(B:Bj N base ρ h ls fq g):Bj N base ρ h (ks++ls) (fp++fq) (f && g):=by
 refine⟨?_,?_,?_⟩
 .intro x hx;rcases Yi.1 hx with hx|hx
  .exact(A.free x hx).imp id λ⟨k,hk,ho⟩=>⟨k,by simp[hk],ho⟩
  .exact(B.free x hx).imp id λ⟨k,hk,ho⟩=>⟨k,by simp[hk],ho⟩
 .intro hf x hx;simp only[Yd]at hf;rcases Yi.1 hx with hx|hx
  .obtain⟨h1,k,hk,h2⟩:=A.fresh hf.1 x hx;exact⟨h1,k,by simp[hk],h2⟩
  .obtain⟨h1,k,hk,h2⟩:=B.fresh hf.2 x hx;exact⟨h1,k,by simp[hk],h2⟩
 .intro hf hn;simp only[Yd]at hf;rw[CA]at hn|-;refine⟨A.nodup hf.1 hn.1,B.nodup hf.2 hn.2.1,?_⟩;intro x hx y hy hxy;subst hxy;obtain⟨_,k,hk,r,h1,h3⟩:=A.fresh hf.1 x hx;obtain⟨_,l,hl,s,h4,h6⟩:=B.fresh hf.2 x hy;refine hn.2.2 k hk l hl ?_;rcases h3 with⟨h2,h3⟩|⟨h2,h3⟩<;>rcases h6 with⟨h5,h6⟩|⟨h5,h6⟩
  .exact R.inj k l r s x h1 h4 h2 h5 h3 h6
  .exact absurd h3 ((R.free_fp h4 h5 x h6).2 k r h1 h2)
  .exact absurd h6 ((R.free_fp h1 h2 x h3).2 l s h4 h5)
  .exact R.apart k l r s x h1 h4 h2 h5 h3 h6
theorem TL(R:Rel N base ρ h w)(hr:ρ b=some r)(hb:gt h b=.arr el sz fr es) :
  ∃fp,TR w (.lst sz es) r.v fp/\Bj N base ρ h [b] fp fr/\(∀g∈fp,Xr r.v=some g\/g∈r.fp)/\(fr=true->OW w base (.lst sz es) r.v):=by
 have hd:gt h b≠.dead:=by rw[hb];intro hc;cases hc
 obtain⟨r',h1,h2⟩:=R.blk b hd;rw[hr]at h1;cases h1;have h2':=h2;rw[hb]at h2;obtain⟨hex,e',xs,he',ho,hsz,hl,ht,hf,hfr,how⟩:=h2;by_cases hne:es=[]
 .subst hne;refine⟨[],?_,⟨(by intro g hg;cases hg),(by intro _ g hg;cases hg),λ_ _=>Y2⟩,(by intro g hg;cases hg),λ_=>.lst0 _ _⟩;rcases ho.2 with⟨hv,_⟩|⟨g,cap,cur,hv,_⟩
  .rw[hv];exact .lst0 _ _ _
  .rw[hv];exact .lst0 _ _ _
 .rcases ho.2 with⟨hv,hz⟩|⟨g,cap,cur,hv,hbg,hg,hcap,_,hcs,htake⟩
  .simp_all
  .have hblk:Xr r.v=some g:=by rw[hv];rfl
   refine⟨g::r.fp,?_,⟨?_,?_,?_⟩,?_,λhft=>.lst ho (how hft)⟩
   .rw[hv];refine .lst hne hsz hcap hg hl ?_
    simp_all
   .intro x hx
    cases hx with
    |head=>exact .inr ⟨b,Om,r,hr,hd,.inl hblk⟩
    |tail _ hx=>exact .inl (hf x hx)
   .intro hft x hx
    cases hx with
    |head=>exact⟨(R.hO b r g hr hd (.inl hblk)).2,b,Om,r,hr,.inl ⟨hd,.inl hblk⟩⟩
    |tail _ hx=>exact⟨(hfr hft).2 x hx,b,Om,r,hr,.inr ⟨by rw[hb];exact hft,hx⟩⟩
   .intro hft _;refine Ir.2 ⟨λhx=>?_,(hfr hft).1⟩;exact(hf g hx).2 b r hr hd (.inl hblk)
   .simp_all
theorem D9(R:Rel N base ρ h w)(hr:ρ b=some r)(hb:gt h b=.xarr el sz es)(hs:es.flatten.all ZX=true) :
  ∃fp,TR w (.lst sz es) r.v fp/\Bj N base ρ h [b] fp true/\OW w base (.lst sz es) r.v:=by
 have hd:gt h b≠.dead:=by rw[hb];intro hc;cases hc
 obtain⟨r',h1,h2⟩:=R.blk b hd;rw[hr]at h1;cases h1;rw[hb]at h2;obtain⟨e',xs,_,ho,hsz,hl,ht,how,_⟩:=h2;have hx:=ht.flat hs;rw[hx]at ht;by_cases hz:es=[]
 .subst hz;refine⟨[],?_,⟨(by intro g hg;cases hg),(by intro _ g hg;cases hg),λ_ _=>Y2⟩,.lst0 _ _⟩;rcases ho.2 with⟨hv,_⟩|⟨g,cap,cur,hv,_⟩<;>rw[hv]<;>exact .lst0 _ _ _
 .rcases ho.2 with⟨_,hz'⟩|⟨g,cap,cur,hv,hbg,hg,hcap,_,hcs',htake⟩
  .simp_all
  .have hblk:Xr r.v=some g:=by rw[hv];rfl
   refine⟨[g],?_,⟨?_,?_,?_⟩,.lst ho how⟩
   .rw[hv];refine .lst hz hsz hcap hg hl ?_
    simp_all
   .intro x hx;obtain rfl:x=g:=by simpa using hx
    exact .inr ⟨b,Om,r,hr,hd,.inl hblk⟩
   .intro _ x hx;obtain rfl:x=g:=by simpa using hx
    exact⟨(R.hO b r x hr hd (.inl hblk)).2,b,Om,r,hr,.inl ⟨hd,.inl hblk⟩⟩
   .simp
theorem Fo(R:Rel N base ρ h w){x:T}(ht:DB h v=some (x,f,ks))(hv:RV ρ w (Free N ρ h) v val) :
  ∃fp,TR w x val fp/\Bj N base ρ h ks fp f/\(f=true->OW w base x val):=by
 cases hv with
 |t hT hf =>
  simp[DB]at ht;obtain⟨rfl,rfl,rfl⟩:=ht;refine⟨_,hT,⟨λg hg=>.inl (hf g hg),λhs=>?_,λhs _=>?_⟩,λhs=>.sc _ hs⟩
  .cases hT<;>first|(intro g hg;cases hg;done)|simp[ZX]at hs
  .cases hT<;>first|exact Y2|simp[ZX]at hs
 |@own b r hr h1 =>
  simp only[DB]at ht;split at ht
  .grind [TL]
  .rename_i el sz es hb;split at ht
   .rename_i hs;cases ht;obtain⟨fp,h2,h3,h4⟩:=D9 R hr hb hs;exact⟨fp,by simpa using h2,h3,λ_=>by simpa using h4⟩
   .cases ht
  .cases ht
 |_=>simp[DB]at ht
theorem rQ(R:Rel N base ρ h w){vals:V3}(ht:A9 h vs=some (xs,f,ks))(hv:Ay ρ w (Free N ρ h) vs vals) :
  ∃fp,AK w xs vals fp/\Bj N base ρ h ks fp f/\(f=true->Ba w base xs vals):=by
 induction vs generalizing xs f ks vals with
 |nil=>simp[A9]at ht;obtain⟨rfl,rfl,rfl⟩:=ht;cases hv;exact⟨[],.nil,.nil _,λ_=>.nil⟩
 |cons v vs ih =>
  cases hv with
  |cons hv hvs =>
   simp only[A9]at ht;split at ht
   .rename_i x f1 k1 xs1 f2 k2 h1 h2;simp at ht;obtain⟨rfl,rfl,rfl⟩:=ht;obtain⟨fp,h3,h4,h7⟩:=Fo R h1 hv;obtain⟨fq,h5,h6,h8⟩:=ih h2 hvs;refine⟨fp++fq,.cons h3 h5,h4.append R h6,λhf=>?_⟩;simp only[Yd]at hf;exact .cons (h7 hf.1) (h8 hf.2)
   .cases ht
theorem rR(ht:A9 h vs=some (xs,f,ks)):xs.length=vs.length:=by
 induction vs generalizing xs f ks with
 |nil=>simp[A9]at ht;obtain⟨rfl,_⟩:=ht;rfl
 |cons v vs ih =>
  simp only[A9]at ht
  grind
theorem Zq3(R:Rel N base ρ h w)(A:Bj N base ρ h ks fp f){n:Nat}{row:Option Nat}
  (hk:X7 ρ w (Free N ρ h) (Aq ρ n r) w' (Free N (Aq ρ n r) (upd h (kill ks'++[(n,x)])))) (hg:w.grownBy w' row) (hsub:∀k∈ks,k∈ks')
  (hrow:∀g k,k∈ks->Vi ρ h k g->row≠some g/\¬X3 r g) (hlt:∀g∈fp,g<w.heap.size) :
  ∀g∈fp,Free N (Aq ρ n r) (upd h (kill ks'++[(n,x)])) g/\w'.heap[g]?=w.heap[g]?:=by
 intro g hgf;rcases A.free g hgf with h1|⟨k,hks,ho⟩
 .exact hk.free g (hlt g hgf) h1
 .obtain⟨h2,h3⟩:=hrow g k hks ho;refine⟨⟨?_,?_⟩,hg.block g (hlt g hgf) (λe=>h2 e.symm)⟩
  .obtain⟨rk,hk1,hk2,hk3⟩:=ho;exact(R.hO _ rk g hk1 hk2 hk3).1
  intro b rb hrb hd he;rw[GK]at hd;by_cases hb:b=n
  .subst hb;simp[Aq]at hrb;subst hrb;exact h3 he
  .simp[Aq,hb]at hrb;simp[hb]at hd;obtain⟨rk,hk1,hk2,hk3⟩:=ho;have:=R.inj b k rb rk g hrb hk1 hd.2 hk2 he hk3
   simp_all
theorem Z0R(R:Rel N base ρ h w)(A:Bj N base ρ h ks fp f)(hf:f=true)(hsub:∀k∈ks,k∈ks'){g d:Nat}{rd:Root}(hg:g∈fp)(hd:d ∉ ks')
  (hr:ρ d=some rd) (hfd:Xm (gt h d)=true):g ∉ rd.fp:=by
 intro hgd;obtain⟨_,k,hk,r,h1,h3⟩:=A.fresh hf g hg;rcases h3 with⟨h2,h3⟩|⟨h2,h3⟩
 .exact(R.free_fp hr hfd g hgd).2 k r h1 h2 h3
 .exact hd (R.apart k d r rd g h1 hr h2 hfd h3 hgd▸hsub k hk)
theorem ZBP(R:Rel N base ρ h w){i sz':Nat}(hb:gt h b=.arr el sz fr es){cs:V4}(hi:es[i]?=some cs)
  (hpx:RV ρ w (Free N ρ h) (.eptr b i sz' off) px) (hsz':sz'=sz) (hc:cellsOf v=some vs) (hv:RV ρ w (Free N ρ h) v val) (ht:A9 h vs=some (ts,f,ks)) {inf:TypeInfo} (Ck:P.info? t=some inf) (hl:vs.length=inf.size) (hle:off+inf.size<=cs.length) (hnd:VU (b::ks)=true) :
  AR P N base ρ h w (do Instr.storeAt t px val;pure .skip) .top (kill ks++[(b,.arr el sz (fr && f) (es.set i (AF cs off (wk (cs.drop off) ts))))]):=by
 subst hsz';rw[O0,Ir]at hnd;have hd:gt h b≠.dead:=by rw[hb];intro hc;cases hc
 obtain⟨r,hr,hB⟩:=R.blk b hd;rw[hb]at hB;obtain⟨hex,BV,xs,hel,ho,hsz,hlen,htr,hfree,hfr,how⟩:=hB
 cases hpx with
 |@eptr _ _ _ _ g n cap r2 hr2 Bx =>
  rw[hr]at hr2;cases hr2;rcases ho.2 with⟨hv0,hz⟩|⟨g',cap',cur,hv',hbg,hg,hcap,hcm,hcs,htake⟩
  .rw[Bx]at hv0;cases hv0
  .rw[Bx]at hv';cases hv';obtain⟨hvs,hone⟩:=GM hc hv;obtain⟨fq,Ds,hT,hto⟩:=rQ R ht hvs;have htl:=rR ht;have hwl:(wk (cs.drop off) ts).length=ts.length:=KU;replace Ds:=IE (cs:=cs.drop off) Ds;replace hto:=λhf=>Dr (cs:=cs.drop off) (hto hf)
   have hvl:=hvs.length;simp only[Y1]at hvl;have TM:cs.length=sz':=hlen cs (Y3 hi);have hilt:i<es.length:=(Y0.1 hi).1;have hmul:i*sz'+sz'<=es.length*sz':=by
    have:=DA sz' (show i+1<=es.length from hilt)
    rwa [DK,Gx]at this
   have TN:es.length*sz'<=cap*sz':=DA _ hcap;have hblk:Xr r.v=some g:=by rw[Bx];rfl
   have hrun:=rP (P:=P) Ck hg (o:=i*sz'+off) (val:=val) Z Z hone;have hfl:=rO (ts:=wk (cs.drop off) ts) (off:=off) hi Z;rw[hfl.1]at htr how;obtain⟨fa,fb,fc,hfp,hnew⟩:=htr.splice Ds;rw[<-hfl.2]at hnew;have BE:(fr && f)=true->_:=λBu=>by
    simp only[Yd]at Bu;have:=(how Bu.1).splice (hto Bu.2);rw[<-hfl.2]at this;exact this
   have hAl:((es.take i).flatten++cs.take off).length=i*sz'+off:=by
    rw[Yu,QT λx hx=>hlen x (Dk hx)];simp;rw[DJ Z,DJ Z]
   have hBl:((cs.drop off).take (wk (cs.drop off) ts).length).length=inf.size:=by simp;omega
   rw[hAl,hBl]at hnew BE;have hxl:xs.length=es.length*sz':=ho.1;have hlt1:=htr.lt;have hlt2:=Ds.lt;have hgx:∀g∈fa++fq++fc,g∈r.fp\/g∈fq:=by
    intro x hx;simp only[Yi]at hx;rcases hx with(hx|hx)|hx
    .exact .inl (by rw[hfp];simp[hx])
    .exact .inr hx
    .exact .inl (by rw[hfp];simp[hx])
   have hset:∀x∈es.set i (AF cs off (wk (cs.drop off) ts)),x.length=sz':=by
    intro x hx;rcases DV hx with hx|hx
    .exact hlen x hx
    .subst hx;simp[AF];omega
   have hp:=IC R (n:=b) (ks:=ks) (x:=.arr el sz' (fr && f) (es.set i (AF cs off (wk (cs.drop off) ts)))) (r:=⟨r.v,fa++fq++fc,[]⟩) (row:=some g)
    (w':=w.setRow g (cur.toList.take (i*sz'+off)++val.cells.toList++cur.toList.drop (i*sz'+off+inf.size)).toArray)
    (by intro r0 h0;rw[hr]at h0;cases h0;rfl) (GN w g _)
    (by intro g' hg';cases hg';exact⟨b,.inr rfl,r,hr,hd,.inl hblk⟩)
    (by intro g' hg';exact .inr ⟨b,.inr rfl,r,hr,hd,.inl hg'⟩)
    (λhk=>by
     have hta:=Zq3 R hT hk (GN w g _) (λk hk=>hk) (by
      intro g' k hk' ho';have hne:g'≠g:=by
       intro he;subst he;obtain⟨rk,h1,h2,h3⟩:=ho';exact hnd.1 (R.inj b k r rk g' hr h1 hd h2 (.inl hblk) h3▸hk')
      exact⟨λhe=>hne (by cases he;rfl),λhe=>hne (by rw[OY rfl]at he;rw[hblk]at he;cases he;rfl)⟩) hlt2
     have hall:∀g'∈fa++fq++fc,Free N (Aq ρ b ⟨r.v,fa++fq++fc,[]⟩) (upd h (kill ks++[(b,.arr el sz' (fr && f) (es.set i (AF cs off (wk (cs.drop off) ts))))])) g'/\
       (w.setRow g (cur.toList.take (i*sz'+off)++val.cells.toList++cur.toList.drop (i*sz'+off+inf.size)).toArray).heap[g']?=w.heap[g']?:=by
      intro g' hg';rcases hgx g' hg' with h1|h1
      .exact hk.free g' (hlt1 g' h1) (hfree g' h1)
      .exact hta g' h1
     refine⟨rfl,BV,xs.take (i*sz'+off)++val.cells.toList++xs.drop (i*sz'+off+inf.size),hel,⟨?_,.inr ⟨g,cap,_,Bx▸Om,hbg,setRow_heap w g cur _ BV _ hg,by simpa using hcap,hcm,?_,?_⟩⟩,hsz,hset,?_,λg' hg'=>(hall g' hg').1,?_,λBu=>(BE Bu).frame hnew λg' hg'=>(hall g' hg').2⟩
     .simp only[Yu,Yw,Tw,Y1,CD];omega
     .simp only[Yc6,Yu,Yw,Tw,Y1];omega
     .rw[<-htake];simp only[CD];have e1:(cur.toList.take (es.length*sz')).take (i*sz'+off)=cur.toList.take (i*sz'+off):=by rw[Fe];congr 1;omega
      rw[e1];have hl1:(cur.toList.take (i*sz'+off)++val.cells.toList).length=i*sz'+off+inf.size:=by simp;omega
      rw[List.take_append,hl1,Tu Z,OI]
     .exact hnew.frame λg' hg'=>(hall g' hg').2
     .intro DE;simp only[Yd]at DE;have h1:=(hfr DE.1);have h2:=hT.nodup DE.2 hnd.2;constructor
      .rw[hfp]at h1;have h3:=h1.1;have hdis:∀x,x∈fq->x ∉ r.fp:=by
        intro x hx hx';obtain⟨_,k,hk',rk,h4,h6⟩:=hT.fresh DE.2 x hx;have hfb:Xm (gt h b)=true:=by rw[hb];exact DE.1
        rcases h6 with⟨h5,h6⟩|⟨h5,h6⟩
        .exact(R.free_fp hr hfb x hx').2 k rk h4 h5 h6
        .exact hnd.1 (R.apart b k r rk x hr h4 hfb h5 hx' h6▸hk')
       rw[hfp]at hdis;rw[CA,CA]at h3|-;refine⟨⟨h3.1.1,h2,?_⟩,h3.2.1,?_⟩
       .intro x hx y hy hxy;subst hxy;exact hdis x hy (by simp[hx])
       .intro x hx y hy hxy;subst hxy;rcases Yi.1 hx with hx|hx
        .exact h3.2.2 x (by simp[hx]) x hy rfl
        .exact hdis x hx (by simp[hy])
      .intro x hx;rcases hgx x hx with hx|hx
       .exact h1.2 x hx
       .exact(hT.fresh DE.2 x hx).1)
    (by
     intro Bu x hx d rd hdk hdn hrd hfd;simp only[Xm,Yd]at Bu;rcases hgx x hx with hx|hx
     .intro hx';exact hdn (R.apart b d r rd x hr hrd (by rw[hb];exact Bu.1) hfd hx hx'▸rfl)
     .exact Z0R R hT Bu.2 (λk hk=>hk) hx hdk hrd hfd)
   refine⟨undef,_,Aq ρ b ⟨r.v,fa++fq++fc,[]⟩,.inr ⟨by simp[Instr.storeAt,Instr.sureAddr,hrun],rfl⟩,.top _,hp.1,hp.2.1,?_,Below.setRow hbg _,hp.2.2⟩;intro b' hb';simp at hb';simp[Aq,hb'.2]
theorem Fp{vs:V3}(h:AK w ts vs fp)(hf:∀g∈fp,F g):Ay ρ w F (BU cs ts) vs:=by
 induction ts generalizing cs vs fp with
 |nil=>cases h;cases cs with
  |nil=>exact .nil
  |cons c cs=>cases c<;>exact .nil
 |cons t ts ih =>
  cases h with
  |cons h hs =>
   have h1:∀c,RV ρ w F (.t (Dn c t)) _:=λc=>.t (Z0Q h) λg hg=>hf g (by simp[hg])
   have h2:RV ρ w F (.t t) _:=.t h λg hg=>hf g (by simp[hg])
   have h3:=λcs=>ih (cs:=cs) hs λg hg=>hf g (by simp[hg])
   cases cs with
   |nil =>
    have h4:=h3 [];unfold BU at h4|-
    exact .cons h2 h4
   |cons c cs =>
    cases c<;>unfold BU<;>first|exact .cons h2 (h3 cs)|exact .cons (h1 _) (h3 cs)
theorem Fq:(BU cs ts).length=ts.length:=by
 induction ts generalizing cs with
 |nil=>cases cs with
  |nil=>rfl
  |cons c cs=>cases c<;>rfl
 |cons t ts ih =>
  cases cs with
  |nil=>simp[BU]
  |cons c cs=>cases c<;>simp[BU,ih]
theorem ZBQ(R:Rel N base ρ h w)(hb:gt h b=.box cs)(hpx:RV ρ w (Free N ρ h) (.ptr b off) px)
  (hc:cellsOf v=some vs) (hv:RV ρ w (Free N ρ h) v val) (ht:A9 h vs=some (ts,f,ks)) {i:TypeInfo} (hi:P.info? t=some i) (hl:vs.length=i.size) (hle:off+i.size<=cs.length) (hnd:VU (b::ks)=true) :
  AR P N base ρ h w (do Instr.storeAt t px val;pure .skip) .top (kill ks++[(b,.box (VT cs off (BU (cs.drop off) ts)))]):=by
 rw[O0,Ir]at hnd
 cases hpx with
 |@ptr _ _ g r hr Bx =>
  have hd:gt h b≠.dead:=by rw[hb];intro hc;cases hc
  obtain⟨r',h1,h2⟩:=R.blk b hd;rw[hr]at h1;cases h1;rw[hb]at h2;obtain⟨hx0,g',c,te,hv',hbase,hh,hcs,hone⟩:=h2;rw[Bx]at hv';cases hv';obtain⟨hvs,hone'⟩:=GM hc hv;obtain⟨fq,Ds,hT,-⟩:=rQ R ht hvs;have htl:=rR ht;have hcl:=hcs.length;have hvl:=hvs.length;simp only[Y1]at hcl hvl;have hblk:Xr r.v=some g:=by rw[Bx];rfl
  have hlt2:=Ds.lt;have hrun:=rP (P:=P) hi hh (o:=off) (val:=val) Z Z hone';have hwl:(BU (cs.drop off) ts).length=i.size:=by rw[Fq];omega
  have hp:=IC R (n:=b) (ks:=ks) (x:=.box (VT cs off (BU (cs.drop off) ts))) (r:=r) (row:=some g) (w':=w.setRow g (c.toList.take off++val.cells.toList++c.toList.drop (off+i.size)).toArray)
   (by intro r0 h0;rw[hr]at h0;cases h0;rfl) (GN w g _)
   (by intro g' hg';cases hg';exact⟨b,.inr rfl,r,hr,hd,.inl hblk⟩)
   (by intro g' hg';exact .inr ⟨b,.inr rfl,r,hr,hd,.inl hg'⟩)
   (λhk=>by
    have hta:=Zq3 R hT hk (GN w g _) (λk hk=>hk) (by
     intro g' k hk' ho';have hne:g'≠g:=by
      intro he;subst he;obtain⟨rk,h1,h2,h3⟩:=ho';exact hnd.1 (R.inj b k r rk g' hr h1 hd h2 (.inl hblk) h3▸hk')
     exact⟨λhe=>hne (by cases he;rfl),λhe=>hne (by rw[OY hx0]at he;rw[hblk]at he;cases he;rfl)⟩) hlt2
    have hnew:Ay (Aq ρ b r) (w.setRow g (c.toList.take off++val.cells.toList++c.toList.drop (off+i.size)).toArray) (Free N (Aq ρ b r) (upd h (kill ks++[(b,.box (VT cs off (BU (cs.drop off) ts)))])))
      (VT cs off (BU (cs.drop off) ts)) (c.toList.take off++val.cells.toList++c.toList.drop (off+i.size)):=by
     have e:VT cs off (BU (cs.drop off) ts)=cs.take off++BU (cs.drop off) ts++cs.drop (off+i.size):=by rw[VT,hwl]
     have hh2:=(((hcs.take off).keep hk).append (Fp (cs:=cs.drop off) (Ds.frame λg' hg'=>(hta g' hg').2) λg' hg'=>(hta g' hg').1)).append ((hcs.drop (off+i.size)).keep hk);rw[<-e]at hh2;exact hh2
    exact⟨hx0,g,_,te,Bx,hbase,setRow_heap w g c _ te _ hh,hnew,by
     intro x hx;change x∈c.toList.take off++val.cells.toList++c.toList.drop (off+i.size)at hx;rcases Yi.1 hx with hx|hx
     .rcases Yi.1 hx with hx|hx
      .exact hone x (Dk hx)
      .exact hone' x hx
     .exact hone x (Is hx)⟩)
   (by intro hf;cases hf) hx0
  refine⟨undef,_,Aq ρ b r,.inr ⟨by simp[Instr.storeAt,Instr.sureAddr,hrun],rfl⟩,.top _,hp.1,hp.2.1,?_,Below.setRow hbase _,hp.2.2⟩;intro b' hb';simp at hb';simp[Aq,hb'.2]
end
open Go.RowKit (Below)
section
variable{P:Program}{N:Bi}{base:Nat}{ρ:Map}{h:WM}{w w':World}{F:Nat->Prop}{e:Env}{a:Act}{sz el n:Nat}{v:Value}{xs:V3}{f:Bool}{ks:V2}{t ty:TypeId}{i:TypeInfo}
theorem rS(ho:w.ownsRow base el sz v n xs):v.oneCell'=true:=by
 rcases ho.2 with⟨hv,_⟩|⟨g,cap,cur,hv,_⟩<;>rw[hv]<;>rfl
theorem TO(R:Rel N base ρ h w){nx:Nat}(hn:ρ nx=none){s:Sem Next}{vv:Value}(hs:s.run P w=.ok (.value vv) w'){row:Option Nat}(hg:w.grownBy w' row)(hsz:0<sz){es1 es2:WA}{xs1 xs2:V3}{fp1 fp2:V2}{fr1:Bool}{kd:V2}
  (hown:w'.ownsRow base el sz vv (es1.length+es2.length) (xs1++xs2)) (hl1:∀x∈es1,x.length=sz) (hl2:∀x∈es2,x.length=sz)
  (ht1:AK w es1.flatten xs1 fp1) (ht2:AK w es2.flatten xs2 fp2) (hT:Bj N base ρ h ks fp2 f) (hnd:ks.Nodup)
  (hD1:∀g∈fp1,Free N ρ h g) (hD2:fr1=true->fp1.Nodup/\∀g∈fp1,N.f g)
  (hD3:fr1=true->∀g∈fp1,∀d rd,d ∉ kd++ks->ρ d=some rd->Xm (gt h d)=true->g ∉ rd.fp)
  (hD4:fr1=true->∀g∈fp1,∀k∈ks,∀rk,ρ k=some rk->Xm (gt h k)=true->g ∉ rk.fp)
  (hrow:∀g,row=some g->∃b∈kd,Vi ρ h b g) (hblk:∀g,Xr vv=some g->w.heap.size<=g\/∃b∈kd,Vi ρ h b g)
  (hap:∀g k,k∈ks->Vi ρ h k g->¬∃b∈kd,Vi ρ h b g)
  (hW1:fr1=true->Ba w base es1.flatten xs1) (hW2:f=true->Ba w base es2.flatten xs2) {lb:Nat} (hlb:lb=Co\/el=lb) :
  AR P N base ρ h w s (.own nx) (kill (kd++ks)++[(nx,.arr lb sz (fr1 && f) (es1++es2))]):=by
 have hlt1:=ht1.lt;have hlt2:=ht2.lt;have hp:=IC R (n:=nx) (ks:=kd++ks) (x:=.arr lb sz (fr1 && f) (es1++es2)) (r:=⟨vv,fp1++fp2,[]⟩) (row:=row) (w':=w')
  (by intro r0 h0;rw[hn]at h0;cases h0) hg
  (by intro g hg';obtain⟨b,hb,ho⟩:=hrow g hg';exact⟨b,.inl (by simp[hb]),ho⟩)
  (by intro g hg';exact(hblk g hg').imp id λ⟨b,hb,ho⟩=>⟨b,.inl (by simp[hb]),ho⟩)
  (λhk=>by
   have hta:=Zq3 R hT hk hg (λk hk=>by simp[hk]) (by
    intro g k hk' ho;refine⟨λhe=>hap g k hk' ho (hrow g he),λhe=>?_⟩;rw[OY rfl]at he;rcases hblk g he with h1|h1
    .obtain⟨rk,h2,h3,h4⟩:=ho;have:=(R.lt h2 h3 h4).2;omega
    .exact hap g k hk' ho h1) hlt2
   have hall:∀g∈fp1++fp2,Free N (Aq ρ nx ⟨vv,fp1++fp2,[]⟩) (upd h (kill (kd++ks)++[(nx,.arr lb sz (fr1 && f) (es1++es2))])) g/\w'.heap[g]?=w.heap[g]?:=by
    intro g hg';rcases Yi.1 hg' with h1|h1
    .exact hk.free g (hlt1 g h1) (hD1 g h1)
    .exact hta g h1
   refine⟨rfl,el,xs1++xs2,hlb,by simpa using hown,hsz,?_,?_,λg hg'=>(hall g hg').1,?_,λBu=>by
    simp only[Yd]at Bu;rw[E2]
    exact((hW1 Bu.1).append (hW2 Bu.2)).frame (ht1.append ht2) λg hg'=>(hall g hg').2⟩
   .intro x hx;rcases Yi.1 hx with hx|hx
    .exact hl1 x hx
    .exact hl2 x hx
   .rw[E2];exact(ht1.append ht2).frame λg hg'=>(hall g hg').2
   .intro Bu;simp only[Yd]at Bu;obtain⟨h1,h2⟩:=hD2 Bu.1;refine⟨CA.2 ⟨h1,hT.nodup Bu.2 hnd,?_⟩,?_⟩
    .intro x hx y hy hxy;subst hxy;obtain⟨_,k,hk',rk,h4,h6⟩:=hT.fresh Bu.2 x hy;rcases h6 with⟨h5,h6⟩|⟨h5,h6⟩
     .exact(hD1 x hx).2 k rk h4 h5 h6
     .exact hD4 Bu.1 x hx k hk' rk h4 h5 h6
    .intro x hx;rcases Yi.1 hx with hx|hx
     .exact h2 x hx
     .exact(hT.fresh Bu.2 x hx).1)
  (by
   intro Bu x hx d rd hdk _ hrd hfd;simp only[Xm,Yd]at Bu;rcases Yi.1 hx with hx|hx
   .exact hD3 Bu.1 x hx d rd hdk hrd hfd
   .exact Z0R R hT Bu.2 (λk hk=>by simp[hk]) hx hdk hrd hfd)
 refine⟨vv,w',Aq ρ nx ⟨vv,fp1++fp2,[]⟩,.inl hs,.own (r:=⟨vv,fp1++fp2,[]⟩) (by simp[Aq]) (rS hown),hp.1,hp.2.1,?_,?_,hp.2.2⟩
 .intro b hb;simp at hb;simp[Aq,hb.2]
 .refine(Below.refl _ _).grown hg R.hb λk hk=>?_
  obtain⟨b,_,rb,h1,h2,h3⟩:=hrow k hk;exact(R.lt h1 h2 h3).1
theorem rT{el:TypeId}(ht:P.underlying t=some (.slice el))(hi:P.info? el=some i)(ba:Option Addr)(n cap:Nat)(hle:n<=cap)(b2:Option Addr)(c2:Nat) :
  (Builtin.append_ #[t,t] ty #[.slice ba n cap,.slice b2 0 c2]).run P w=.ok (.slice ba n cap) w:=by
 cases ba<;>cases b2<;>simp[Builtin.append_,run_underlying ht,sizeOf,typeInfo,hi,Builtin.lenOf,hle,Builtin.firstCells,loadCells,loadCellsFrom,storeCells]
theorem rU{el:TypeId}{z:Value}(ht:P.underlying t=some (.slice el))(hi:P.info? el=some i)(hz:i.zero=some z)(hzs:z.cells.size=i.size)(hown:w.ownsRow base el i.size v n xs){b2:Option Addr}{m c2:Nat}{news:V3}(hl:news.length=m*i.size)
  (hsrc:m=0\/∃ad,b2=some ad/\∀j u,news[j]?=some u->w.cell? (ad.add j)=some u) (h1:∀u∈news,u.oneCell'=true)
  (h63:n+m<=140737488355328) (hbytes:(n+m)*i.bytes<=140737488355328) (hbase:base<=w.heap.size) :
  ∃v' w' row,(Builtin.append_ #[t,t] ty #[v,.slice b2 m c2]).run P w=.ok v' w'/\w'.ownsRow base el i.size v' (n+m) (xs++news)/\w.grownBy w' row/\(∀g,row=some g->Xr v=some g)/\
   (∀g,Xr v'=some g->w.heap.size<=g\/Xr v=some g):=by
 have hmax:n+m<=maxLen:=by simp only[maxLen];omega
 rcases hsrc with rfl|⟨ad,rfl,hnews⟩
 .have hnil:news=[]:=OM (by simpa using hl);subst hnil;refine⟨v,w,none,?_,by simpa using hown,⟨rfl,rfl,rfl,Yk _,λ_ _ _=>rfl⟩,(by intro g hg;cases hg),λg hg=>.inr hg⟩;rcases hown.2 with⟨hv,hn⟩|⟨g,cap,cur,hv,_,_,hcap,_⟩
  .simp_all [rT,Yk]
  .simp_all [rT]
 .have hlen:(xs++news).length=(n+m)*i.size:=by rw[Yu,hown.1,hl,DK]
  by_cases hm:m=0
  .subst hm;have hnil:news=[]:=OM (by simpa using hl);subst hnil;refine⟨v,w,none,?_,by simpa using hown,⟨rfl,rfl,rfl,Yk _,λ_ _ _=>rfl⟩,(by intro g hg;cases hg),λg hg=>.inr hg⟩;rcases hown.2 with⟨hv,hn⟩|⟨g,cap,cur,hv,_,_,hcap,_⟩
   .simp_all [rT,Yk]
   .simp_all [rT]
  .have grown:∀(old:Nat),old<n+m->
     (w.drew.alloc (.cells (xs.toArray++news.toArray++Builtin.zeroCells z.cells (grownCap w (n+m) old el-(n+m))) el)).ownsRow base el i.size
      (.slice (some ⟨w.heap.size,0,none⟩) (n+m) (grownCap w (n+m) old el)) (n+m) (xs++news)/\
     w.grownBy (w.drew.alloc (.cells (xs.toArray++news.toArray++Builtin.zeroCells z.cells (grownCap w (n+m) old el-(n+m))) el)) none:=by
    intro old ho;have hge:=grownCap_ge w (n+m) old el;have hcm:grownCap w (n+m) old el<=maxLen:=grownCap_le_maxLen w (n+m) old el hmax;refine⟨⟨hlen,.inr ⟨w.heap.size,_,_,rfl,hbase,heap_alloc_new w.drew _,hge,hcm,?_,?_⟩⟩,⟨rfl,rfl,rfl,Om,λk hk _=>Go.RowKit.Below.heap_alloc w.drew _ k hk⟩⟩
    .simp only[Array.size_append,Yc6,size_zeroCells,hzs,hown.1,hl,<-DK];congr 1;omega
    .grind
   rcases hown.2 with⟨rfl,rfl⟩|⟨g,cap,cur,rfl,hbg,hg,hnc,hcm,hcs,htake⟩
   .have hx:xs=[]:=OM (by simpa using hown.1);subst hx;have hr:=run_append_nil (P:=P) w t ty el i z ht hi hz ad m c2 news hl hnews Z Z (by have hb:=hbytes;simp only[Yv]at hb;omega);have hgr:=grown 0 Z;simp only[Yv,DW,Array.empty_append]at hgr|-;exact⟨_,_,none,hr,hgr.1,hgr.2,(by intro g hg;cases hg),by intro g hg;simp[Xr]at hg;exact .inl Z⟩
   .by_cases hroom:n+m<=cap
    .have hfit:n*i.size+news.length<=cur.size:=by rw[hl,hcs,<-DK];exact DA _ hroom
     have hr:=run_append_room (P:=P) w t ty el i ht hi g n cap cur hg ad m c2 news hl hnews h1 hroom hfit;refine⟨_,_,some g,hr,⟨hlen,.inr ⟨g,cap,_,rfl,hbg,setRow_heap w g cur _ el _ hg,hroom,hcm,?_,?_⟩⟩,GN w g _,(by intro g' hg';cases hg';rfl),λg' hg'=>.inr hg'⟩
     .grind
     .grind
    .have holds:∀j u,xs[j]?=some u->w.cell? ((⟨g,0,none⟩:Addr).add j)=some u:=hown.cells (g:=g) rfl;have hr:=run_append_grow (P:=P) w t ty el i z ht hi hz ⟨g,0,none⟩ n cap xs hown.1 holds ad m c2 news hl hnews Z Z (growslice_fits Z hbytes);have hgr:=grown cap Z;exact⟨_,_,none,hr,hgr.1,hgr.2,(by intro g' hg';cases hg'),by intro g' hg';simp[Xr]at hg';exact .inl Z⟩
theorem Fs(R:Rel N base ρ h w){mv:Bool}{v:AV}{ys:WA}{val:Value}(hsz:0<sz)(hs:Qs h sz mv v=some (ys,f,ks))(hv:RV ρ w (Free N ρ h) v val) :
  ∃b2 c2 news fp,val=.slice b2 ys.length c2/\news.length=ys.length*sz/\(ys.length=0\/∃ad,b2=some ad/\∀j u,news[j]?=some u->w.cell? (ad.add j)=some u)/\
   AK w ys.flatten news fp/\(∀x∈ys,x.length=sz)/\Bj N base ρ h ks fp f/\ks.Nodup/\(∀k∈ks,v=.own k)/\(f=true->Ba w base ys.flatten news):=by
 cases hv with
 |@t x val fp hT hf =>
  cases hT with
  |nil =>
   simp[Qs]at hs;obtain⟨rfl,rfl,rfl⟩:=hs
   exact⟨none,0,[],[],rfl,Om,.inl rfl,.nil,Om,.nil _,Y2,Om,λ_=>.nil⟩
  |lst0 sz' ad cap =>
   simp[Qs]at hs;obtain⟨rfl,rfl,rfl,rfl⟩:=hs
   exact⟨ad,cap,[],[],rfl,Om,.inl rfl,.nil,Om,.nil _,Y2,Om,λ_=>.nil⟩
  |@lst sz' es g off cap c te fz fp' hne hsz' hcap hg hlen hc =>
   simp[Qs]at hs;obtain⟨rfl,rfl,rfl,rfl⟩:=hs;refine⟨_,cap,_,fp',rfl,?_,.inr ⟨_,rfl,λj u hj=>Z0O hg hj⟩,hc,hlen,⟨λg' hg'=>.inl (hf g' (by simp[hg'])),λhfl=>?_,λhfl _=>?_⟩,Y2,Om,λhfl=>.easy hc.length (Z0L hfl)⟩
   .rw[<-hc.length,QT hlen]
   .have:fp'=[]:=hc.flat (by
     simp only[AM.flat,Yn]at hfl|-;intro y hy;obtain⟨x,hx,hy⟩:=rD.1 hy
     exact hfl x hx y hy)
    subst this;intro g hg;cases hg
   .have:fp'=[]:=hc.flat (by
     simp only[AM.flat,Yn]at hfl|-;intro y hy;obtain⟨x,hx,hy⟩:=rD.1 hy
     exact hfl x hx y hy)
    subst this
    exact Y2
  |_=>simp[Qs]at hs
 |@own b r hr h1 =>
  simp only[Qs]at hs;split at hs
  .rename_i el sz' fr es hb;split at hs
   .rename_i hse;subst hse;have hd:gt h b≠.dead:=by rw[hb];intro hc;cases hc
    obtain⟨r',h2,h3⟩:=R.blk b hd;rw[hr]at h2;cases h2;rw[hb]at h3;obtain⟨_,_,xs,_,ho,_,hl,ht,hf,hfr,how⟩:=h3;have hval:∃b2 c2,r.v=.slice b2 es.length c2/\(es.length=0\/∃ad,b2=some ad/\∀j u,xs[j]?=some u->w.cell? (ad.add j)=some u):=by
     rcases ho.2 with⟨hv,hz⟩|⟨g,cap,cur,hv,hbg,hg,hcap,_,hcs,htake⟩
     .exact⟨none,0,by rw[hv,hz],.inl hz⟩
     .exact⟨some ⟨g,0,none⟩,cap,hv,.inr ⟨_,rfl,ho.cells (g:=g) (by rw[hv];rfl)⟩⟩
    obtain⟨b2,c2,hv2,hsrc⟩:=hval;split at hs
    .simp at hs;obtain⟨rfl,rfl,rfl⟩:=hs;refine⟨b2,c2,xs,r.fp,hv2,ho.1,hsrc,ht,hl,⟨λg hg=>.inl (hf g hg),λhft g hg=>⟨(hfr hft).2 g hg,b,Om,r,hr,.inr ⟨by rw[hb];exact hft,hg⟩⟩,λhft _=>(hfr hft).1⟩,Om,Om,how⟩
    .simp at hs;obtain⟨rfl,rfl,rfl⟩:=hs
     have TP:AM.flat es=true->r.fp=[]:=λhfl=>ht.flat (by
      simp only[AM.flat,Yn]at hfl|-;intro y hy;obtain⟨x,hx,hy⟩:=rD.1 hy
      exact hfl x hx y hy)
     refine⟨b2,c2,xs,r.fp,hv2,ho.1,hsrc,ht,hl,⟨λg hg=>.inl (hf g hg),λhft=>?_,λhft _=>?_⟩,Y2,Om,λhft=>.easy ht.length (Z0L hft)⟩
     .rw[TP hft];intro g hg;cases hg
     .rw[TP hft];exact Y2
   .cases hs
  .cases hs
 |_=>simp[Qs]at hs
end
end Go.AM
