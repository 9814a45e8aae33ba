/-
  Parts of the proofs for this seat: AMCore AMW AMComp AMRel AMStep AMOps1 AMOps2 AMOps3 AMOps4.
-/
import Derived.Below
import Derived.Calls
import Derived.Great.BuildSlice
import Derived.Laws.AppendOwn
import Derived.Laws.MakeOwn
import Derived.Still
import Derived.WalkKit
set_option linter.all false
namespace Go.AM
def Ypx{c:Prop}[Decidable c]{α:Sort _}{a b:α}(h:c:=by omega):ite c a b=a:=if_pos h
def Ynx{c:Prop}[Decidable c]{α:Sort _}{a b:α}(h:¬c:=by omega):ite c a b=b:=if_neg h
abbrev V4:=List (List Int)
abbrev V6:=List Int
abbrev UB:=List Nat
abbrev UC:=List Value
abbrev UP:=ByteArray
abbrev Ya:=@if_pos
abbrev Yb:=@if_neg
abbrev Yc:=@List.getElem_mem
abbrev Yd:=@Nat.zero_le
abbrev Ye:=@Eq.trans
abbrev Yf:=@List.getElem?_eq_getElem
abbrev Yg:=@Bool.and_eq_true
abbrev Yh:=@Nat.le_refl
abbrev Yi:=@List.drop_eq_getElem_cons
abbrev Yj:=@Int.not_lt
abbrev Yk:=@Int.toNat_natCast
abbrev Yl:=@List.mem_append
abbrev Ym:=@List.length_cons
abbrev Yn:=@List.length_append
abbrev Yo:=@List.drop_length
abbrev Yp:=@List.take_length
abbrev Yq:=@Option.map_eq_some_iff
abbrev Yr:=@List.mem_map
abbrev Ys:=@List.drop_zero
abbrev Yt:=@List.length_take
abbrev Yu:=@Nat.zero_add
abbrev Yv:=@Array.length_toList
abbrev Yw:=@Bool.true_and
abbrev Yx:=@List.map_cons
abbrev Yy:=@List.all_eq_true
abbrev Yz:=@Int.natCast_add
abbrev Y0:=@Int.cast_ofNat_Int
abbrev Y1:=@Nat.le_trans
abbrev Y2:=@List.getElem?_eq_some_iff
abbrev Y3:=@List.mem_cons
abbrev Y4:=@List.take_succ_eq_append_getElem
abbrev Y5:=@List.flatten_cons
abbrev Y6:=@List.mem_of_getElem?
abbrev Y7:=@List.nil_append
abbrev Y8:=@List.foldl_cons
abbrev Y9:=@List.length_map
abbrev Yba:=@Nat.min_eq_left
abbrev Ybb:=@List.append_nil
abbrev Ybc:=@List.mem_filter
abbrev Ybd:=@Nat.mul_le_mul_right
abbrev Ybe:=@List.mem_of_mem_take
abbrev Ybf:=@List.nodup_nil
abbrev Ybg:=@List.nodup_append
abbrev Ybh:=@List.all_cons
abbrev Ybi:=@List.map_append
abbrev Ybj:=@List.length_drop
abbrev Ybk:=@List.flatten_append
abbrev Ybl:=@Bool.false_eq_true
abbrev Ybm:=@Option.some.injEq
abbrev Ybn:=@List.length_pos_iff
abbrev Ybo:=@List.append_assoc
abbrev Ybp:=@Nat.add_zero
abbrev Ybq:=@Array.toList_map
abbrev Ybr:=@List.length_nil
abbrev Ybs:=@List.length_filter_le
abbrev Ybt:=@List.pairwise_cons
abbrev Ybu:=@Nat.add_mul
abbrev Ybv:=@Bool.eq_iff_iff
abbrev Ybw:=@Prod.mk.injEq
abbrev Ybx:=@List.drop_drop
abbrev Yby:=@Nat.lt_of_lt_of_le
abbrev Ybz:=@Bool.false_or
abbrev Yb0:=@Nat.lt_succ_self
abbrev Yb1:=@List.drop_of_length_le
abbrev Yb2:=@List.take_take
abbrev Yb3:=@List.take_of_length_le
abbrev Yb4:=@List.map_congr_left
abbrev Yb5:=@List.filter_cons
abbrev Yb6:=@Array.getElem?_eq_some_iff
abbrev Yb7:=@List.mem_range
abbrev Yb8:=@List.mem_of_mem_drop
abbrev Yb9:=@List.take_append_drop
abbrev Yca:=@Nat.one_mul
abbrev Ycb:=@List.take_left'
abbrev Ycc:=@Array.getElem?_toList
abbrev Ycd:=@List.mem_flatten
abbrev Yce:=@List.drop_take
abbrev Ycf:=@List.length_set
abbrev Ycg:=@List.eq_nil_of_length_eq_zero
abbrev Ych:=@List.getElem?_take
abbrev Yci:=@List.getElem?_map
abbrev Ycj:=@Array.toList_inj
abbrev Yck:=@Nat.lt_or_ge
abbrev Ycl:=@Array.getD_eq_getD_getElem?
abbrev Ycm:=@List.map_nil
abbrev Ycn:=@List.length_eq_zero_iff
abbrev Yco:=@List.filter_cons_of_pos
abbrev Ycp:=@List.filter_eq_nil_iff
abbrev Ycq:=@Bool.false_and
abbrev Ycr:=@List.size_toArray
abbrev Ycs:=@List.pairwise_iff_getElem
abbrev Yct:=@List.mem_append_left
abbrev Ycu:=@List.cons_append
abbrev Ycv:=@Int.toNat_of_nonneg
abbrev Ycw:=@Nat.sub_self
abbrev Ycx:=@Array.getElem?_eq_getElem
abbrev Ycy:=@List.nodup_cons
abbrev Ycz:=@List.ext_getElem
abbrev Yc0:=@List.replicate_succ
abbrev Yc1:=@Nat.add_assoc
abbrev Yc2:=@Nat.lt_trichotomy
abbrev Yc3:=@Bool.or_eq_true
abbrev Yc4:=@List.mem_append_right
abbrev Yc5:=@List.cons.injEq
abbrev Yc6:=@List.range_succ
abbrev Yc7:=@List.filter_append
abbrev Yc8:=@List.range'_succ
abbrev Yc9:=@Nat.le_of_lt
abbrev Yda:=@List.getElem?_append_left
abbrev Ydb:=@List.drop_eq_nil_of_le
abbrev Ydc:=@List.mem_or_eq_of_mem_set
abbrev Ydd:=@List.length_replicate
abbrev Yde:=@List.any_eq_false
abbrev Ydf:=@Int.lt_or_eq_of_le
abbrev Ydg:=@List.getElem?_append_right
abbrev Ydh:=@Array.getElem?_modify
abbrev Ydi:=@Option.bind_eq_some_iff
abbrev Ydj:=@Nat.mul_le_mul
abbrev Ydk:=@List.map_replicate
abbrev Ydl:=@List.any_cons
abbrev Ydm:=@List.headD_eq_head?_getD
abbrev Ydn:=@List.mergeSort_perm
abbrev Ydo:=@List.map_inj_right
abbrev Ydp:=@List.filter_cons_of_neg
abbrev Ydq:=@List.getElem?_drop
abbrev Ydr:=@List.eq_of_mem_replicate
abbrev Yds:=@List.getElem?_eq_none
abbrev Ydt:=@List.flatMap_cons
abbrev Ydu:=@List.getElem?_of_mem
abbrev Ydv:=@Array.getElem?_append_left
abbrev Ydw:=@List.getD_eq_getElem?_getD
inductive T where
 |int (k:IntKind) (n:Int)
 |bool (b:Bool)
 |str (s:UP)
 |nil
 |any
 |lst (sz:Nat) (es:List (List T))
 deriving Inhabited
inductive AV where
 |top
 |nilp
 |t (x:T)
 |agg (cs:List AV)
 |tup (vs:List AV)
 |ptr (b off:Nat)
 |eptr (b i sz off:Nat)
 |iptr (cs:List T) (off:Nat)
 |own (b:Nat)
 |bsl (b n:Nat)
 |fn (f:Nat) (caps:List AV)
 deriving Inhabited
inductive Blk where
 |dead
 |box (cs:List AV)
 |arr (e:TypeId) (sz:Nat) (fr:Bool) (es:List (List T))
 |xarr (e:TypeId) (sz:Nat) (es:List (List T))
 |det (e:TypeId) (sz:Nat) (es:List (List T)) (i off b:Nat)
 deriving Inhabited
abbrev V1:=Option (AV × List Blk)
abbrev V2:=List AV
abbrev V3:=AV × List Blk
abbrev V5:=List (List T)
abbrev UA:=List Blk
abbrev UD:=List T
def unk:TypeId:=1000000000
abbrev Env:=List (Nat×AV)
def lk(s:Nat):Env->AV
 |[]=>.top
 |(k,v)::e=>if k=s then v else lk s e
def gt(h:UA)(b:Nat):Blk:=(h[b]?).getD .dead
def stB:UA->Nat->Blk->UA
 |[],0,x=>[x]
 |[],b+1,x=>.dead::stB [] b x
 |_::h,0,x=>x::h
 |y::h,b+1,x=>y::stB h b x
def upd(h:UA):List (Nat×Blk)->UA
 |[]=>h
 |(b,x)::u=>upd (stB h b x) u
inductive Opd where
 |s (i:Nat)
 |c (v:AV)
 deriving Inhabited
def ev(e:Env):Opd->AV
 |.s i=>lk i e
 |.c v=>v
inductive MOp where
 |mov (x:Opd)
 |pick (c a b:Opd)
 |alloc (zs:V2)
 |box (x:Opd)
 |build (zs:V2) (ps:List (Nat×Nat×Opd))
 |bslice (e:TypeId) (sz n:Nat) (zs:UD) (ps:List (Nat×Opd))
 |bsliceX (e:TypeId) (sz n:Nat) (zs:UD) (ps:List (Nat×Opd))
 |bptrs (n:Nat) (ps:List (Nat×Opd))
 |load (n:Option Nat) (x:Opd)
 |loadU (mv:Bool) (x:Opd)
 |store (n:Nat) (x v:Opd)
 |storeF (n:Nat) (x v:Opd)
 |storeP (n:Nat) (x v p:Opd)
 |nilchk (x:Opd)
 |bin (op:BinOp) (x y:Opd)
 |beq (neg:Bool) (x y:Opd)
 |aeq (neg:Bool) (ks:UB) (x y:Opd)
 |nileq (neg sl:Bool) (x:Opd)
 |mm (mx:Bool) (x y:Opd)
 |un (op:UnOp) (x:Opd)
 |conv (k:IntKind) (x:Opd)
 |tostr (x:Opd)
 |mkfn (f:Nat) (caps:List Opd)
 |mkslice (e:TypeId) (sz bytes:Nat) (zs:UD) (l c:Opd)
 |slice (sz:Option Nat) (x:Opd) (lo hi:Option Opd)
 |faddr (off:Nat) (x:Opd)
 |field (off:Nat) (n:Option Nat) (x:Opd)
 |iaddr (sz:Nat) (x i:Opd)
 |index (x i:Opd)
 |aaddr (n sz:Nat) (x i:Opd)
 |aidx (n sz:Nat) (m:Option Nat) (x i:Opd)
 |ext (x:Opd) (i:Nat)
 |len (st:Bool) (x:Opd)
 |append (e:TypeId) (sz bytes:Nat) (mv:Bool) (x y:Opd)
 |call (f:Nat) (args:List Opd)
 |xcall (f:Nat) (args:List Opd)
 |fcall (f:Nat) (args:List Opd)
 |icall (f:Nat) (args:List Opd)
 |scall (f:Nat) (args:List Opd) (p:Opd)
 |pcall (f:Nat) (args:List Opd)
 |dcall (f:Opd) (args:List Opd)
 deriving Inhabited
structure MO where
 dst:Option Nat
 guard:Option (Nat×Bool)   -- slot of the guarding operation,wanted value
 op:MOp
 deriving Inhabited
inductive MCode where
 |skip
 |reg (ops:List MO) (keep:UB)
 |regF (ops:List MO) (keep:UB)
 |drw (ops:List MO) (before:List (UB)) (keep:UB)
 |drwF (ops:List MO) (before:List (UB)) (keep:UB)
 |seq (a b:MCode)
 |cond (c:Opd) (x y:MCode)
 |block (id:Nat) (b:MCode)
 |loop (keep:UB) (b:MCode)
 |exit (id:Nat)
 |ret
 deriving Inhabited
def Xe:T->Bool
 |.lst _ _=>false
 |_=>true
def flat(es:V5):Bool:=es.all λx=>x.all Xe
def cellsOf:AV->Option (V2)
 |.agg cs=>some cs
 |.top|.tup _=>none
 |v=>some [v]
def setCells(cs:V2)(off:Nat)(vs:V2):V2:=cs.take off++vs++cs.drop (off+vs.length)
def setT(cs:UD)(off:Nat)(vs:UD):UD:=cs.take off++vs++cs.drop (off+vs.length)
def toT(h:UA):AV->Option (T×Bool×UB)
 |.t x=>some (x,Xe x,[])
 |.own b=>match gt h b with
  |.arr _ sz fr es=>some (.lst sz es,fr,[b])
  |.xarr _ sz es=>if es.flatten.all Xe=true then some (.lst sz es,true,[b])else none
  |_=>none
 |_=>none
def toTs(h:UA):V2->Option (UD×Bool×UB)
 |[]=>some ([],true,[])
 |v::vs=>match toT h v,toTs h vs with
  |some (x,f,ks),some (xs,g,ls)=>some (x::xs,f && g,ks++ls)
  |_,_=>none
def wk1:T->T->T
 |.lst sz _,.nil=>.lst sz []
 |_,x=>x
def wk:UD->UD->UD
 |c::cs,x::xs=>wk1 c x::wk cs xs
 |_,xs=>xs
def wkA:V2->UD->V2
 |.t c::cs,x::xs=>.t (wk1 c x)::wkA cs xs
 |_::cs,x::xs=>.t x::wkA cs xs
 |[],xs=>xs.map .t
 |_,[]=>[]
def kill(ks:UB):List (Nat×Blk):=ks.map λb=>(b,.dead)
def Vq:UB->Bool
 |[]=>true
 |x::xs=>!xs.contains x && Vq xs
def binT(op:BinOp):T->T->Option T
 |.int k a,.int k' b=>match op with
  |.shl=>if b<0 then none else some (.int k (k.wrap (a*2 ^ (min b.toNat k.bits))))
  |.shr=>if b<0 then none else some (.int k (a.fdiv (2 ^ (min b.toNat k.bits))))
  |_=>if k=k' then(match op with
   |.add=>some (.int k (k.wrap (a+b)))
   |.sub=>some (.int k (k.wrap (a-b)))
   |.mul=>some (.int k (k.wrap (a*b)))
   |.quo=>if b=0 then none else some (.int k (k.wrap (a.tdiv b)))
   |.rem=>if b=0 then none else some (.int k (a.tmod b))
   |.and=>some (.int k (k.wrap (BitVec.ofInt k.bits a &&& BitVec.ofInt k.bits b).toNat))
   |.or=>some (.int k (k.wrap (BitVec.ofInt k.bits a ||| BitVec.ofInt k.bits b).toNat))
   |.xor=>some (.int k (k.wrap (BitVec.ofInt k.bits a ^^^ BitVec.ofInt k.bits b).toNat))
   |.andNot=>some (.int k (k.wrap (BitVec.ofInt k.bits a &&& ~~~ BitVec.ofInt k.bits b).toNat))
   |.eql=>some (.bool (a == b))
   |.neq=>some (.bool (a != b))
   |.lss=>some (.bool (a<b))
   |.leq=>some (.bool (a<=b))
   |.gtr=>some (.bool (a > b))
   |.geq=>some (.bool (a>=b))
   |_=>none)else none
 |.str a,.str b=>match op with
  |.add=>if a.size+b.size<=9223372036854775807 then some (.str (a++b))else none
  |.eql=>some (.bool (a.toList == b.toList))
  |.neq=>some (.bool (!(a.toList == b.toList)))
  |.lss=>some (.bool (Op.bytesLess a.toList b.toList))
  |.leq=>some (.bool (Op.bytesLess a.toList b.toList || a.toList == b.toList))
  |.gtr=>some (.bool (!(Op.bytesLess a.toList b.toList || a.toList == b.toList)))
  |.geq=>some (.bool (!Op.bytesLess a.toList b.toList))
  |_=>none
 |_,_=>none
def unT:UnOp->T->Option T
 |.not,.bool b=>some (.bool !b)
 |.neg,.int k n=>some (.int k (k.wrap (0-n)))
 |_,_=>none
def tEq:Nat->T->T->Option Bool
 |1,.int k a,.int k' b=>if k=k' then some (a == b)else none
 |0,.bool a,.bool b=>some (a == b)
 |2,.str a,.str b=>some (a.toList == b.toList)
 |_,_,_=>none
def eqAs:UB->V2->V2->Option Bool
 |[],[],[]=>some true
 |k::ks,.t a::xs,.t b::ys=>match tEq k a b,eqAs ks xs ys with
  |some r,some s=>some (r && s)
  |_,_=>none
 |_,_,_=>none
def Vi(h:UA):Bool->AV->Option Bool
 |true,.t .nil=>some true
 |true,.t (.lst _ (_::_))=>some false
 |true,.own b=>match gt h b with
  |.arr _ _ _ (_::_)=>some false
  |.xarr _ _ (_::_)=>some false
  |_=>none
 |false,.nilp=>some true
 |false,.ptr _ _=>some false
 |false,.eptr _ _ _ _=>some false
 |false,.iptr _ _=>some false
 |_,_=>none
def Zcw:V5->Option (V6)
 |[]=>some []
 |[.int .u8 n]::es=>(Zcw es).map (n::·)
 |_=>none
def strB(ns:V6):UP:=⟨(ns.map λn=>UInt8.ofNat n.toNat).toArray⟩
def scal1:AV->Bool
 |.t x=>Xe x
 |.agg cs=>cs.all λc=>match c with|.t x=>Xe x|_=>false
 |_=>false
def Vr(h:UA):Bool->AV->Option Nat
 |false,.t (.lst _ es)=>some es.length
 |false,.t .nil=>some 0
 |true,.t (.str s)=>some s.size
 |false,.own b=>match gt h b with
  |.arr _ _ _ es=>some es.length
  |.xarr _ _ es=>some es.length
  |_=>none
 |false,.bsl _ n=>some n
 |_,_=>none
def natOf(n:Int):Option Nat:=if 0<=n then some n.toNat else none
def QT(e:Env):V2->List (Nat×Nat×Opd)->Option (V2)
 |cs,[]=>some cs
 |cs,(off,n,x)::ps=>match cellsOf (ev e x)with
  |some vs=>if vs.length=n/\off+n<=cs.length then QT e (setCells cs off vs) ps else none
  |none=>none
def Vs(h:UA)(e:Env)(sz:Nat):V5->List (Nat×Opd)->Option (V5×Bool×UB)
 |es,[]=>some (es,true,[])
 |es,(i,x)::ps=>match cellsOf (ev e x)with
  |some vs=>match toTs h vs with
   |some (ts,f,ks)=>if i<es.length/\vs.length=sz then(match Vs h e sz (es.set i (wk (es.getD i []) ts)) ps with
    |some (es',g,ls)=>some (es',f && g,ks++ls)
    |none=>none)else none
   |none=>none
  |none=>none
def Kz(e:Env):V2->List (Nat×Opd)->Option (V2)
 |cs,[]=>some cs
 |cs,(i,x)::ps=>match cellsOf (ev e x)with
  |some [v]=>if i<cs.length then Kz e (cs.set i v) ps else none
  |_=>none
def K1(cs:UD)(off:Nat):Option Nat->Option AV
 |none=>(cs[off]?).map .t
 |some n=>if off+n<=cs.length then some (.agg (((cs.drop off).take n).map .t))else none
def VY(cs:V2)(off:Nat):Option Nat->Option AV
 |none=>cs[off]?
 |some n=>if off+n<=cs.length then some (.agg ((cs.drop off).take n))else none
def room:Nat:=140737488355328
def UR(h:UA)(sz:Nat)(mv:Bool):AV->Option (V5×Bool×UB)
 |.t .nil=>some ([],true,[])
 |.t (.lst sz' ys)=>if sz'=sz then some (ys,flat ys,[])else none
 |.own c=>match gt h c with
  |.arr _ sz' fr ys=>if sz'=sz then(if mv then some (ys,fr,[c])else some (ys,flat ys,[]))else none
  |_=>none
 |_=>none
def flatB:Blk->Bool
 |.arr _ _ _ es=>flat es
 |_=>false
def Je(h:UA)(sz:Nat):AV->Option (Nat×V5)
 |.own c=>match gt h c with
  |.xarr _ sz' ys=>if sz'=sz then some (c,ys)else none
  |_=>none
 |_=>none
def bnd(e:Env)(d:Nat):Option Opd->Option Nat
 |none=>some d
 |some o=>match ev e o with
  |.t (.int _ n)=>natOf n
  |_=>none
def Z4(h:UA)(nx:Nat)(e:Env):MOp->Option (AV×List (Nat×Blk))
 |.mov x=>some (ev e x,[])
 |.pick c a b=>match ev e c with
  |.t (.bool true)=>some (ev e a,[])
  |.t (.bool false)=>some (ev e b,[])
  |_=>none
 |.alloc zs=>some (.ptr nx 0,[(nx,.box zs)])
 |.box x=>match cellsOf (ev e x)with
  |some cs=>some (.ptr nx 0,[(nx,.box cs)])
  |none=>none
 |.build zs ps=>match QT e zs ps with
  |some cs=>some (.agg cs,[])
  |none=>none
 |.bslice el sz n zs ps=>match Vs h e sz (List.replicate n zs) ps with
  |some (es,fr,ks)=>if Vq ks then some (.own nx,kill ks++[(nx,.arr el sz fr es)])else none
  |none=>none
 |.bsliceX el sz n zs ps=>match Vs h e sz (List.replicate n zs) ps with
  |some (es,fr,ks)=>if Vq ks/\fr=true/\ks.all (λk=>flatB (gt h k))then some (.own nx,kill ks++[(nx,.xarr el sz es)])else none
  |none=>none
 |.bptrs n ps=>match Kz e (List.replicate n .nilp) ps with
  |some cs=>some (.bsl nx n,[(nx,.box cs)])
  |none=>none
 |.load n x=>match ev e x with
  |.ptr b off=>match gt h b with
   |.box cs=>(VY cs off n).map (·,[])
   |_=>none
  |.eptr b i sz off=>match gt h b with
   |.arr _ sz' _ es=>if sz=sz' then(match es[i]? with
    |some cs=>(K1 cs off n).map (·,[])
    |none=>none)else none
   |.xarr _ sz' es=>if sz=sz' then(match es[i]? with
    |some cs=>match K1 cs off n with
     |some v=>if scal1 v=true then some (v,[])else none
     |none=>none
    |none=>none)else none
   |_=>none
  |.iptr cs off=>(K1 cs off n).map (·,[])
  |_=>none
 |.loadU mv x=>match ev e x with
  |.ptr b off=>match gt h b with
   |.box cs=>(VY cs off none).map (·,[])
   |_=>none
  |.eptr b i sz off=>match gt h b with
   |.xarr el sz' es=>if sz=sz' then(match es[i]? with
    |some cs=>match cs[off]? with
     |some (.lst sz2 (y::ys))=>some (.own nx,[(b,if mv then .xarr el sz' (es.set i (setT cs off [.any]))else .det el sz' es i off nx),(nx,.xarr unk sz2 (y::ys))])
     |some (.lst sz2 [])=>some (.t (.lst sz2 []),[])
     |_=>none
    |none=>none)else none
   |_=>none
  |_=>none
 |.store n x v=>match cellsOf (ev e v)with
  |some vs=>if vs.length=n then(match ev e x with
   |.ptr b off=>match gt h b with
    |.box cs=>if off+n<=cs.length then some (.top,[(b,.box (setCells cs off vs))])else none
    |_=>none
   |.eptr b i sz off=>match gt h b with
    |.arr el sz' fr es=>match es[i]?,toTs h vs with
     |some cs,some (ts,f,ks) =>
      if off+n<=cs.length/\Vq (b::ks)/\sz=sz' then some (.top,kill ks++[(b,.arr el sz' (fr && f) (es.set i (setT cs off (wk (cs.drop off) ts))))])else none
     |_,_=>none
    |.xarr el sz' es=>match es[i]?,toTs h vs with
     |some cs,some (ts,_,_) =>
      if off+n<=cs.length/\ts.all Xe/\sz=sz' then some (.top,[(b,.xarr el sz' (es.set i (setT cs off (wk (cs.drop off) ts))))])else none
     |_,_=>none
    |_=>none
   |_=>none)else none
  |none=>none
 |.storeP n x v p=>match ev e x,ev e p with
  |.eptr c j sz off,.eptr b _ _ _=>match gt h c,gt h b,cellsOf (ev e v)with
   |.xarr el2 sz2 es2,.det el szb es i offb c',some vs=>if c'=c/\b≠c/\vs.length=n then(match es2[j]?,toTs h vs with
    |some cs,some (ts,_,_)=>if off+n<=cs.length/\ts.all Xe/\sz=sz2 then
      some (.top,[(c,.xarr el2 sz2 (es2.set j (setT cs off (wk (cs.drop off) ts)))),(c,.dead),(b,.xarr el szb (es.set i (setT (es.getD i []) offb [.lst sz2 (es2.set j (setT cs off (wk (cs.drop off) ts)))])))])else none
    |_,_=>none)else none
   |_,_,_=>none
  |_,_=>none
 |.storeF n x v=>match cellsOf (ev e v)with
  |some vs=>if vs.length=n then(match ev e x with
   |.ptr b off=>match gt h b with
    |.box cs=>match toTs h vs with
     |some (ts,_,ks)=>if off+n<=cs.length/\Vq (b::ks)then some (.top,kill ks++[(b,.box (setCells cs off (wkA (cs.drop off) ts)))])else none
     |none=>none
    |_=>none
   |_=>none)else none
  |none=>none
 |.nilchk x=>match ev e x with
  |.ptr b off=>some (.ptr b off,[])
  |.eptr b i sz off=>some (.eptr b i sz off,[])
  |.iptr cs off=>some (.iptr cs off,[])
  |.fn f cs=>some (.fn f cs,[])
  |_=>none
 |.bin op x y=>match ev e x,ev e y with
  |.t a,.t b=>(binT op a b).map (.t ·,[])
  |_,_=>none
 |.beq neg x y=>match ev e x,ev e y with
  |.t (.bool a),.t (.bool b)=>some (.t (.bool (neg != (a == b))),[])
  |_,_=>none
 |.aeq neg ks x y=>match ev e x,ev e y with
  |.agg xs,.agg ys=>match eqAs ks xs ys with
   |some r=>some (.t (.bool (neg != r)),[])
   |none=>none
  |_,_=>none
 |.nileq neg sl x=>match Vi h sl (ev e x)with
  |some r=>some (.t (.bool (neg != r)),[])
  |none=>none
 |.mm mx x y=>match ev e x,ev e y with
  |.t (.int k a),.t (.int _ b)=>some (.t (.int k (if mx then(if b > a then b else a)else(if b<a then b else a))),[])
  |_,_=>none
 |.un op x=>match ev e x with
  |.t a=>(unT op a).map (.t ·,[])
  |_=>none
 |.conv k x=>match ev e x with
  |.t (.int _ n)=>some (.t (.int k (k.wrap n)),[])
  |_=>none
 |.tostr x=>match ev e x with
  |.own b=>match gt h b with
   |.arr _ 1 _ es=>(Zcw es).map λns=>(.t (.str (strB ns)),[])
   |_=>none
  |_=>none
 |.mkfn f caps=>some (.fn f (caps.map (ev e)),[])
 |.mkslice el sz bytes zs l c=>match ev e l,ev e c with
  |.t (.int _ l),.t (.int _ c) =>
   if 0<=l/\l<=c/\c.toNat*bytes<=room/\c<=140737488355328 then some (.own nx,[(nx,.arr el sz true (List.replicate l.toNat zs))])else none
  |_,_=>none
 |.slice sz x lo hi=>match bnd e 0 lo with
  |none=>none
  |some l=>match sz,ev e x with
   |none,.t (.str s)=>match bnd e s.size hi with
    |some r=>if l<=r/\r<=s.size then some (.t (.str (s.extract l r)),[])else none
    |none=>none
   |some sz,.t (.lst sz' es)=>match bnd e es.length hi with
    |some r=>if l<=r/\r<=es.length/\sz'=sz then some (.t (.lst sz ((es.take r).drop l)),[])else none
    |none=>none
   |some sz,.own b=>match gt h b with
    |.arr el sz' fr es=>match bnd e es.length hi with
     |some r=>if l=0/\r<=es.length/\sz'=sz then some (.own nx,kill [b]++[(nx,.arr el sz fr (es.take r))])else none
     |none=>none
    |_=>none
   |_,_=>none
 |.faddr off x=>match ev e x with
  |.ptr b o=>some (.ptr b (o+off),[])
  |.eptr b i sz o=>some (.eptr b i sz (o+off),[])
  |.iptr cs o=>some (.iptr cs (o+off),[])
  |_=>none
 |.field off n x=>match ev e x with
  |.agg cs=>(VY cs off n).map (·,[])
  |_=>none
 |.iaddr sz x i=>match ev e i with
  |.t (.int _ n)=>if 0<=n then(match ev e x with
   |.t (.lst sz' es)=>if sz'=sz then(match es[n.toNat]? with
    |some cs=>some (.iptr cs 0,[])
    |none=>none)else none
   |.own b=>match gt h b with
    |.arr _ sz' _ es=>if sz'=sz/\n.toNat<es.length then some (.eptr b n.toNat sz 0,[])else none
    |.xarr _ sz' es=>if sz'=sz/\n.toNat<es.length then some (.eptr b n.toNat sz 0,[])else none
    |_=>none
   |.bsl b m=>if sz=1/\n.toNat<m then some (.ptr b n.toNat,[])else none
   |_=>none)else none
  |_=>none
 |.index x i=>match ev e x,ev e i with
  |.t (.str s),.t (.int _ n)=>if 0<=n then(match s[n.toNat]? with
   |some b=>some (.t (.int .u8 b.toNat),[])
   |none=>none)else none
  |_,_=>none
 |.aaddr n sz x i=>match ev e i with
  |.t (.int _ k)=>if 0<=k/\k.toNat<n then(match ev e x with
   |.ptr b o=>some (.ptr b (o+k.toNat*sz),[])
   |.eptr b j s o=>some (.eptr b j s (o+k.toNat*sz),[])
   |.iptr cs o=>some (.iptr cs (o+k.toNat*sz),[])
   |_=>none)else none
  |_=>none
 |.aidx n sz m x i=>match ev e i with
  |.t (.int _ k)=>if 0<=k/\k.toNat<n then(match ev e x with
   |.agg cs=>(VY cs (k.toNat*sz) m).map (·,[])
   |_=>none)else none
  |_=>none
 |.ext x i=>match ev e x with
  |.tup vs=>(vs[i]?).map (·,[])
  |_=>none
 |.len st x=>match Vr h st (ev e x)with
  |some n=>some (.t (.int .i64 (n:Int)),[])
  |none=>none
 |.append el sz bytes mv x y=>match Je h sz (ev e y)with
  |some (k,ys)=>match ev e x with
    |.t .nil=>if ys.length*bytes<=room/\ys.length<=room then some (.own nx,kill [k]++[(nx,.xarr el sz ys)])else none
    |.own b=>match gt h b with
     |.xarr el' sz' es =>
      if el'=el/\sz'=sz/\b≠k/\(es.length+ys.length)*bytes<=room/\es.length+ys.length<=room then
       some (.own nx,kill [b,k]++[(nx,.xarr el sz (es++ys))])else none
     |_=>none
    |_=>none
  |none=>match UR h sz mv (ev e y)with
   |some (ys,f,ks)=>match ev e x with
    |.t .nil=>if ys.length*bytes<=room/\ys.length<=room then some (.own nx,kill ks++[(nx,.arr el sz f ys)])else none
    |.own b=>match gt h b with
     |.arr el' sz' fr es =>
      if el'=el/\sz'=sz/\Vq (b::ks)/\(es.length+ys.length)*bytes<=room/\es.length+ys.length<=room then
       some (.own nx,kill (b::ks)++[(nx,.arr el sz (fr && f) (es++ys))])else none
     |_=>none
    |_=>none
   |none=>none
 |.call _ _|.xcall _ _|.fcall _ _|.icall _ _|.scall _ _ _|.pcall _ _|.dcall _ _=>none
def frzT(h:UA):AV->Option T
 |.t x=>some x
 |.own b=>match gt h b with
  |.arr _ sz _ es=>some (.lst sz es)
  |.xarr _ sz es=>some (.lst sz es)
  |_=>none
 |_=>none
def VD(h:UA):V2->Option (UD)
 |[]=>some []
 |v::vs=>match frzT h v,VD h vs with
  |some x,some xs=>some (x::xs)
  |_,_=>none
def frz1(h:UA):AV->Option AV
 |.t x=>some (.t x)
 |.nilp=>some .nilp
 |.iptr cs off=>some (.iptr cs off)
 |.own b=>match gt h b with
  |.arr _ sz _ es=>some (.t (.lst sz es))
  |.xarr _ sz es=>some (.t (.lst sz es))
  |_=>none
 |.ptr b off=>match gt h b with
  |.box cs=>match VD h cs with
   |some ts=>some (.iptr ts off)
   |none=>none
  |_=>none
 |.agg cs=>match VD h cs with
  |some ts=>some (.agg (ts.map .t))
  |none=>none
 |_=>none
def Jf(h:UA):V2->Option (V2)
 |[]=>some []
 |v::vs=>match frz1 h v,Jf h vs with
  |some x,some xs=>some (x::xs)
  |_,_=>none
def frz(h:UA):AV->Option AV
 |.fn g cs=>match Jf h cs with
  |some ds=>some (.fn g ds)
  |none=>none
 |v=>frz1 h v
def frzs(h:UA):V2->Option (V2)
 |[]=>some []
 |v::vs=>match frz h v,frzs h vs with
  |some x,some xs=>some (x::xs)
  |_,_=>none
def givA:AV->Bool
 |.t _|.own _|.agg _=>true
 |_=>false
def frzR(h:UA):AV->Option AV
 |.tup vs=>if vs.all givA=true then(match frzs h vs with
  |some ds=>some (.tup ds)
  |none=>none)else none
 |v=>if givA v=true then frz h v else none
mutual
def ren(f:Nat->Nat):AV->AV
 |.agg cs=>.agg (rens f cs)
 |.tup vs=>.tup (rens f vs)
 |.ptr b off=>.ptr (f b) off
 |.eptr b i sz off=>.eptr (f b) i sz off
 |.own b=>.own (f b)
 |.bsl b n=>.bsl (f b) n
 |.fn g cs=>.fn g (rens f cs)
 |v=>v
def rens(f:Nat->Nat):V2->V2
 |[]=>[]
 |v::vs=>ren f v::rens f vs
end
def renB(f:Nat->Nat):Blk->Blk
 |.box cs=>.box (rens f cs)
 |.det e sz es i off b=>.det e sz es i off (f b)
 |b=>b
mutual
def refs:AV->UB
 |.agg cs=>Z9 cs
 |.tup vs=>Z9 vs
 |.ptr b _=>[b]
 |.eptr b _ _ _=>[b]
 |.own b=>[b]
 |.bsl b _=>[b]
 |.fn _ cs=>Z9 cs
 |_=>[]
def Z9:V2->UB
 |[]=>[]
 |v::vs=>refs v++Z9 vs
end
def Wr:Blk->UB
 |.box cs=>Z9 cs
 |.det _ _ _ _ _ b=>[b]
 |_=>[]
structure S where
 env:Env
 stk:List Env
 h:UA
 deriving Inhabited
inductive X where
 |n
 |x (id:Nat)
 |r
def put(d:Option Nat)(v:AV)(e:Env):Env:=match d with
 |some d=>(d,v)::e
 |none=>e
def rst(keep:UB)(e:Env):Env:=keep.map λk=>(k,lk k e)
def scrub(h:UA):AV->AV
 |.own b=>match gt h b with
  |.dead=>.top
  |_=>.own b
 |v=>v
def ZaW(h:UA)(e:Env):Env:=e.map λp=>(p.1,scrub h p.2)
def Xu(h:UA):Nat->UB->UB->UB
 |0,_,acc=>acc
 |_,[],acc=>acc
 |n+1,b::todo,acc=>if acc.contains b then Xu h n todo acc else Xu h n (Wr (gt h b)++todo) (acc++[b])
def idx(b:Nat):UB->Nat->Nat
 |[],i=>i
 |c::cs,i=>if c=b then i else idx b cs (i+1)
def QU(e:Env):UB:=e.flatMap λp=>refs p.2
def renE(f:Nat->Nat)(e:Env):Env:=e.map λp=>(p.1,ren f p.2)
def Uq(h:UA)(ids rs:UB):Bool:=rs.all (ids.contains ·) && ids.all λb=>(Wr (gt h b)).all (ids.contains ·)
def US(keep:UB)(s:S):S :=
 let env:=ZaW s.h (rst keep s.env)
 let rs:=QU env++s.stk.flatMap QU
 let ids:=Xu s.h 200 rs []
 if Uq s.h ids rs then
  let f:=λb=>idx b ids 0
  { env:=renE f env,stk:=s.stk.map (renE f),h:=ids.map λb=>renB f (gt s.h b) }
 else { env:=[],stk:=s.stk,h:=s.h }
def shift(n:Nat)(v:AV):AV:=ren (λb=>b+n) v
def newU(n:Nat):UA->Nat->List (Nat×Blk)
 |[],_=>[]
 |b::bs,i=>(n+i,renB (λc=>c+n) b)::newU n bs (i+1)
mutual
def Qu:AV->Bool
 |.t x=>Xe x
 |.agg cs=>VZ cs
 |.tup cs=>VZ cs
 |.fn _ cs=>VZ cs
 |.iptr _ _=>false
 |_=>true
def VZ:V2->Bool
 |[]=>true
 |v::vs=>Qu v && VZ vs
end
def frB:Blk->Bool
 |.dead=>true
 |.box cs=>VZ cs
 |.arr _ _ fr _=>fr
 |.xarr _ _ _=>true
 |.det _ _ _ _ _ _=>true
def frR(r:AV)(hr:UA):Bool:=Qu r && hr.all frB
def Ua(args:V2):Bool:=(Z9 args).isEmpty
inductive Res where
 |tmp (t:Nat)
 |cell (a:Nat) (n:Option Nat)
 |tmpO (t:Nat) (l:List (Option (Nat×Nat)))
 |cellO (a:Nat) (n:Option Nat) (l:List (Option (Nat×Nat)))
structure MFun where
 np:Nat
 nt:Nat
 res:List Res
 body:MCode
def Jg(s:S):Res->Option AV
 |.tmp t=>some (lk t s.env)
 |.tmpO t _=>some (lk t s.env)
 |.cell a n=>match lk a s.env with
  |.ptr b off=>match gt s.h b with
   |.box cs=>VY cs off n
   |_=>none
  |_=>none
 |.cellO a n _=>match lk a s.env with
  |.ptr b off=>match gt s.h b with
   |.box cs=>VY cs off n
   |_=>none
  |_=>none
def Ub(s:S):List Res->Option (V2)
 |[]=>some []
 |r::rs=>match Jg s r,Ub s rs with
  |some v,some vs=>some (v::vs)
  |_,_=>none
def resAV(rs:List Res)(s:S):Option AV:=match Ub s rs with
 |some [v]=>some v
 |some vs=>some (.tup vs)
 |none=>none
abbrev Ctr:=Nat->V2->UA->AV->UA->Prop
def ZS(h:UA)(vs:V2):UB:=Xu h 200 (Z9 vs) []
def subH(h:UA)(ids:UB):UA:=ids.map λb=>renB (λc=>idx c ids 0) (gt h b)
def subA(ids:UB)(vs:V2):V2:=rens (λc=>idx c ids 0) vs
def bk(ids:UB)(nx i:Nat):Nat:=match ids[i]? with
 |some b=>b
 |none=>nx+(i-ids.length)
def XO(ids:UB)(nx:Nat):UA->Nat->List (Nat×Blk)
 |[],_=>[]
 |b::bs,i=>(bk ids nx i,renB (bk ids nx) b)::XO ids nx bs (i+1)
def xB:Blk->Blk
 |.arr e sz true es=>.xarr e sz es
 |b=>b
def Qv(h:UA)(u:List (Nat×Blk)):AV->Option (List (Nat×Blk))
 |.eptr b _ _ _=>if(u.map Prod.fst).contains b then none else(match gt h b with
  |.det el sz es i off c=>match gt (upd h u) c with
   |.xarr _ sz2 es2=>some [(c,.dead),(b,.xarr el sz (es.set i (setT (es.getD i []) off [.lst sz2 es2])))]
   |_=>none
  |.xarr _ _ _=>some []
  |_=>none)
 |.ptr _ _=>some []
 |_=>none
mutual
def sbV(b:Nat)(d:AV):AV->AV
 |.own c=>if c=b then d else .own c
 |.agg cs=>.agg (sbVs b d cs)
 |.tup cs=>.tup (sbVs b d cs)
 |.fn f cs=>.fn f (sbVs b d cs)
 |v=>v
def sbVs(b:Nat)(d:AV):V2->V2
 |[]=>[]
 |v::vs=>sbV b d v::sbVs b d vs
end
def sbB(b:Nat)(d:AV):Blk->Blk
 |.box cs=>.box (sbVs b d cs)
 |x=>x
def sbE(b:Nat)(d:AV):Env->Env
 |[]=>[]
 |(k,v)::e=>(k,sbV b d v)::sbE b d e
def fzH(b:Nat)(d:AV)(h:UA):UA:=stB (h.map (sbB b d)) b .dead
def fzS(b:Nat)(s:S):Option S:=match gt s.h b with
 |.arr _ sz _ es=>some { env:=sbE b (.t (.lst sz es)) s.env,stk:=s.stk.map (sbE b (.t (.lst sz es))),h:=fzH b (.t (.lst sz es)) s.h }
 |.xarr _ sz es=>some { env:=sbE b (.t (.lst sz es)) s.env,stk:=s.stk.map (sbE b (.t (.lst sz es))),h:=fzH b (.t (.lst sz es)) s.h }
 |_=>none
def fzVs:V2->S->S
 |[],s=>s
 |.own b::vs,s=>fzVs vs ((fzS b s).getD s)
 |_::vs,s=>fzVs vs s
def movOf(j:Nat):List MO->List Opd
 |[]=>[]
 |⟨some d,_,.mov x⟩::os=>if d=j then x::movOf j os else movOf j os
 |_::os=>movOf j os
def cutOf(all:List MO):List MO->List Opd
 |[]=>[]
 |⟨_,_,.slice _ (.s j) _ _⟩::os=>movOf j all++cutOf all os
 |_::os=>cutOf all os
def flA:AV->V2
 |.agg cs=>cs
 |v=>[v]
def preOf(s:S)(j:Nat):List MO->V2
 |[]=>[]
 |⟨some d,_,.mov x⟩::os=>if d=j then flA (ev s.env x)++preOf s j os else preOf s j os
 |⟨some d,_,.load n x⟩::os=>if d=j then(match Z4 s.h 0 s.env (.load n x)with|some (v,_)=>flA v|none=>[])++preOf s j os else preOf s j os
 |_::os=>preOf s j os
def preOs(s:S)(all:List MO):List Opd->V2
 |[]=>[]
 |.s j::xs=>preOf s j all++preOs s all xs
 |_::xs=>preOs s all xs
def ZeF(s:S)(all:List MO):List MO->V2
 |[]=>[]
 |⟨_,_,.icall _ xs⟩::os=>preOs s all xs++ZeF s all os
 |⟨_,_,.call _ xs⟩::os=>preOs s all xs++ZeF s all os
 |_::os=>ZeF s all os
def fzD(os:List MO)(s:S):S:=fzVs ((cutOf os os).map (ev s.env)++ZeF s os os) s
def fzO(o:MO)(s:S):S:=match o.op with
 |.bslice _ _ _ _ ps=>fzVs (ps.map λp=>ev s.env p.2) s
 |.slice _ x _ _=>fzVs [ev s.env x] s
 |.icall _ as=>fzVs ((as.map (ev s.env)).flatMap flA) s
 |.call _ as=>fzVs ((as.map (ev s.env)).flatMap flA) s
 |_=>s
section
variable(Γ:Ctr)
def Wz(f:Nat)(vs:V2)(h:UA)(nx:Nat)(K:AV->List (Nat×Blk)->Prop):Prop :=
 Uq h (ZS h vs) (Z9 vs)=true/\∃r h1,Γ f (subA (ZS h vs) vs) (subH h (ZS h vs)) r h1/\K (ren (bk (ZS h vs) nx) r) (XO (ZS h vs) nx h1 0)
def K3(f:Nat)(vs:V2)(h:UA)(nx:Nat)(K:AV->List (Nat×Blk)->Prop):Prop :=
 Uq h (ZS h vs) (Z9 vs)=true/\∃r hn,Γ f (subA (ZS h vs) vs) (subH h (ZS h vs)) r (subH h (ZS h vs)++hn)/\K (ren (bk (ZS h vs) nx) r) (XO (ZS h vs) nx hn (ZS h vs).length)
def runW(o:MO)(s:S)(K:S->Prop):Prop:=match o.op with
 |.call f args=>∃as,frzs s.h (args.map (ev s.env))=some as/\∃r hr,Γ f as [] r hr/\(Ua (args.map (ev s.env)) || frR r hr)=true/\
   K { s with env:=put o.dst (shift s.h.length r) s.env,h:=upd s.h (newU s.h.length hr 0) }
 |.xcall f args=>∃as,frzs s.h (args.map (ev s.env))=some as/\∃r hr,Γ f as [] r hr/\frR r hr=true/\
   K { s with env:=put o.dst (shift s.h.length r) s.env,h:=upd s.h (newU s.h.length (hr.map xB) 0) }
 |.fcall f args=>∃as,frzs s.h (args.map (ev s.env))=some as/\Ua (args.map (ev s.env))=true/\∃r hr d,Γ f as [] r hr/\frzR hr r=some d/\K { s with env:=put o.dst d s.env,h:=upd s.h [] }
 |.icall f args=>Wz Γ f (args.map (ev s.env)) s.h s.h.length λv u=>K { s with env:=put o.dst v s.env,h:=upd s.h u }
 |.scall f args p=>Wz Γ f (args.map (ev s.env)) s.h s.h.length λv u=>∃u2,Qv s.h u (ev s.env p)=some u2/\K { s with env:=put o.dst v s.env,h:=upd s.h (u++u2) }
 |.pcall f args=>K3 Γ f (args.map (ev s.env)) s.h s.h.length λv u=>K { s with env:=put o.dst v s.env,h:=upd s.h u }
 |.dcall f args=>match ev s.env f with
  |.fn g caps=>Wz Γ g (args.map (ev s.env)++caps) s.h s.h.length λv u=>K { s with env:=put o.dst v s.env,h:=upd s.h u }
  |_=>False
 |k=>match Z4 s.h s.h.length s.env k with
  |some (v,u)=>K { s with env:=put o.dst v s.env,h:=upd s.h u }
  |none=>False
def opW(o:MO)(s:S)(K:S->Prop):Prop:=match o.guard with
 |none=>runW Γ o s K
 |some (g,want)=>match lk g s.env with
  |.t (.bool b)=>if b=want then runW Γ o s K else K { s with env:=put o.dst (.tup []) s.env }
  |.tup []=>K { s with env:=put o.dst (.tup []) s.env }
  |_=>False
def regW:List MO->S->(S->Prop)->Prop
 |[],s,K=>K s
 |o::os,s,K=>opW Γ o s λs'=>regW os s' K
def K4:List MO->S->(S->Prop)->Prop
 |[],s,K=>K s
 |o::os,s,K=>opW Γ o (fzO o s) λs'=>K4 os s' K
structure Foot where
 rs:UB
 ws:UB
 rb:UB
 wb:UB
def Zi6:Opd->UB
 |.s i=>[i]
 |.c _=>[]
def Z8:MOp->List Opd
 |.mov x=>[x]
 |.pick c a b=>[c,a,b]
 |.alloc _=>[]
 |.box x=>[x]
 |.build _ ps=>ps.map λp=>p.2.2
 |.bslice _ _ _ _ ps=>ps.map λp=>p.2
 |.bsliceX _ _ _ _ ps=>ps.map λp=>p.2
 |.bptrs _ ps=>ps.map λp=>p.2
 |.load _ x=>[x]
 |.loadU _ x=>[x]
 |.store _ x v=>[x,v]
 |.storeF _ x v=>[x,v]
 |.storeP _ x v p=>[x,v,p]
 |.nilchk x=>[x]
 |.bin _ x y=>[x,y]
 |.beq _ x y=>[x,y]
 |.aeq _ _ x y=>[x,y]
 |.nileq _ _ x=>[x]
 |.mm _ x y=>[x,y]
 |.un _ x=>[x]
 |.conv _ x=>[x]
 |.tostr x=>[x]
 |.mkfn _ caps=>caps
 |.mkslice _ _ _ _ l c=>[l,c]
 |.slice _ x lo hi=>x::(lo.toList++hi.toList)
 |.faddr _ x=>[x]
 |.field _ _ x=>[x]
 |.iaddr _ x i=>[x,i]
 |.index x i=>[x,i]
 |.aaddr _ _ x i=>[x,i]
 |.aidx _ _ _ x i=>[x,i]
 |.ext x _=>[x]
 |.len _ x=>[x]
 |.append _ _ _ _ x y=>[x,y]
 |.call _ args=>args
 |.xcall _ args=>args
 |.fcall _ args=>args
 |.icall _ args=>args
 |.scall _ args p=>args++[p]
 |.pcall _ args=>args
 |.dcall f args=>f::args
def Qw(h:UA)(rs:UB):UB:=rs++(rs.flatMap λb=>Wr (gt h b))++Xu h 200 rs []
def Qx(k:MOp)(e:Env):UB:=match k with
 |.mov _=>[]
 |.dcall f args=>match ev e f with
  |.fn _ caps=>Z9 (args.map (ev e)++caps)
  |_=>Z9 ((Z8 (.dcall f args)).map (ev e))
 |k=>Z9 ((Z8 k).map (ev e))
def rbOf(k:MOp)(h:UA)(e:Env):UB:=match k with
 |.call f a=>Qw h (Qx (.call f a) e)
 |.xcall f a=>Qw h (Qx (.xcall f a) e)
 |.fcall f a=>Qw h (Qx (.fcall f a) e)
 |.scall f a p=>Qw h (Qx (.scall f a p) e)
 |.icall f a=>Qw h (Qx (.icall f a) e)
 |.pcall f a=>Qw h (Qx (.pcall f a) e)
 |.dcall f a=>Qw h (Qx (.dcall f a) e)
 |k=>Qx k e
def WQ(o:MO)(s:S)(wb:UB):Foot :=
 { rs:=(Z8 o.op).flatMap Zi6++(match o.guard with|some (g,_)=>[g]|none=>[]),ws:=o.dst.toList,rb:=rbOf o.op s.h s.env,wb:=wb }
def Jh(a b:UB):Bool:=a.any (b.contains ·)
def Qy(f g:Foot):Bool:=Jh f.ws (g.rs++g.ws) || Jh g.ws f.rs || Jh f.wb (g.rb++g.wb) || Jh g.wb f.rb
def ZeG:List (UB)->List (UB)->List (UB)
 |[],acc=>acc
 |b::bs,acc=>ZeG bs (acc++[b++b.flatMap λi=>acc.getD i []])
def ZvS(cl:List (UB))(feet:List Foot)(j:Nat):Bool :=
 match feet[j]?,cl[j]? with
 |some g,some c=>(List.range j).all λi=>match feet[i]? with
  |some f=>!Qy f g || c.contains i
  |none=>false
 |_,_=>false
def Ji(before:List (UB))(feet:List Foot):Bool:=(List.range feet.length).all (ZvS (ZeG before []) feet)
def VE(o:MO)(s:S)(K:Foot->S->Prop):Prop:=match o.op with
 |.call f args=>∃as,frzs s.h (args.map (ev s.env))=some as/\∃r hr,Γ f as [] r hr/\(Ua (args.map (ev s.env)) || frR r hr)=true/\
   K (WQ o s ((newU s.h.length hr 0).map Prod.fst)) { s with env:=put o.dst (shift s.h.length r) s.env,h:=upd s.h (newU s.h.length hr 0) }
 |.xcall f args=>∃as,frzs s.h (args.map (ev s.env))=some as/\∃r hr,Γ f as [] r hr/\frR r hr=true/\
   K (WQ o s ((newU s.h.length (hr.map xB) 0).map Prod.fst)) { s with env:=put o.dst (shift s.h.length r) s.env,h:=upd s.h (newU s.h.length (hr.map xB) 0) }
 |.fcall f args=>∃as,frzs s.h (args.map (ev s.env))=some as/\Ua (args.map (ev s.env))=true/\∃r hr d,Γ f as [] r hr/\frzR hr r=some d/\
   K (WQ o s (([]:List (Nat×Blk)).map Prod.fst)) { s with env:=put o.dst d s.env,h:=upd s.h [] }
 |.scall f args p=>Wz Γ f (args.map (ev s.env)) s.h s.h.length λv u=>∃u2,Qv s.h u (ev s.env p)=some u2/\K (WQ o s ((u++u2).map Prod.fst)) { s with env:=put o.dst v s.env,h:=upd s.h (u++u2) }
 |.icall f args=>Wz Γ f (args.map (ev s.env)) s.h s.h.length λv u=>K (WQ o s (u.map Prod.fst)) { s with env:=put o.dst v s.env,h:=upd s.h u }
 |.pcall f args=>K3 Γ f (args.map (ev s.env)) s.h s.h.length λv u=>K (WQ o s (u.map Prod.fst)) { s with env:=put o.dst v s.env,h:=upd s.h u }
 |.dcall f args=>match ev s.env f with
  |.fn g caps=>Wz Γ g (args.map (ev s.env)++caps) s.h s.h.length λv u=>K (WQ o s (u.map Prod.fst)) { s with env:=put o.dst v s.env,h:=upd s.h u }
  |_=>False
 |k=>match Z4 s.h s.h.length s.env k with
  |some (v,u)=>K (WQ o s (u.map Prod.fst)) { s with env:=put o.dst v s.env,h:=upd s.h u }
  |none=>False
def drwG(o:MO)(s:S)(K:Foot->S->Prop):Prop:=match o.guard with
 |none=>VE Γ o s K
 |some (g,want)=>match lk g s.env with
  |.t (.bool b)=>if b=want then VE Γ o s K else K (WQ o s []) { s with env:=put o.dst (.tup []) s.env }
  |.tup []=>K (WQ o s []) { s with env:=put o.dst (.tup []) s.env }
  |_=>False
def drwW:List MO->S->List Foot->(List Foot->S->Prop)->Prop
 |[],s,feet,K=>K feet s
 |o::os,s,feet,K=>drwG Γ o s λf s'=>drwW os s' (feet++[f]) K
def LoopW(keep:UB)(body:(X->S->Prop)->S->Prop)(Q:X->S->Prop)(s:S):Prop :=
 ∃(I:S->Prop) (μ:S->Nat),I (US keep s)/\∀s,I s->body (λx s'=>match x with
  |.n=>I (US keep s')/\μ (US keep s')<μ s
  |x=>Q x s') s
def Wc:MCode->(X->S->Prop)->S->Prop
 |.skip,Q,s=>Q .n s
 |.reg ops keep,Q,s=>regW Γ ops s λs'=>Q .n { s' with env:=rst keep s'.env }
 |.regF ops keep,Q,s=>K4 Γ ops s λs'=>Q .n { s' with env:=rst keep s'.env }
 |.drwF ops before keep,Q,s=>drwW Γ ops (fzD ops s) [] λfeet s'=>Ji before feet=true/\Q .n { s' with env:=rst keep s'.env }
 |.drw ops before keep,Q,s=>drwW Γ ops s [] λfeet s'=>Ji before feet=true/\Q .n { s' with env:=rst keep s'.env }
 |.seq a b,Q,s=>Wc a (λx s'=>match x with|.n=>Wc b Q s'|x=>Q x s') s
 |.cond c x y,Q,s=>match ev s.env c with
  |.t (.bool b)=>if b=true then Wc x Q s else Wc y Q s
  |_=>False
 |.block id b,Q,s=>Wc b (λx s'=>match x with|.x i=>(if i=id then Q .n s' else Q (.x i) s')|x=>Q x s') s
 |.loop keep b,Q,s=>LoopW keep (Wc b) Q s
 |.exit id,Q,s=>Q (.x id) s
 |.ret,Q,s=>Q .r s
end
def UT:V2->Nat->Env
 |[],_=>[]
 |v::vs,i=>(i,v)::UT vs (i+1)
def K5(rs:List Res)(K:AV->S->Prop):X->S->Prop
 |.x _,_=>False
 |_,s=>match resAV rs s with
  |some v=>K v s
  |none=>False
def UU:UA->Nat->Env
 |[],_=>[]
 |b::bs,i=>(i,match b with|.box _=>.ptr i 0|.arr _ _ _ _=>.own i|.xarr _ _ _=>.own i|_=>.top)::UU bs (i+1)
def Xp(h:UA)(e:Env)(i:Nat):Nat:=match scrub h (lk i e)with
 |.ptr b 0=>b
 |.own b=>b
 |_=>h.length+i
def Zi7(k:Nat)(v:AV)(s:S):V1 :=
 let v:=scrub s.h v
 let e:=match s.stk with|[e]=>e|_=>[]
 let rs:=(List.range k).map (Xp s.h e)
 let ids:=Xu s.h 200 ((rs.flatMap λb=>Wr (gt s.h b))++refs v) rs
 if Uq s.h ids (rs++refs v) && Vq rs then
  some (ren (λb=>idx b ids 0) v,ids.map λb=>renB (λb=>idx b ids 0) (gt s.h b))
 else none
def nilB(e sz:Nat):Blk:=if 1000000000<=e then .xarr (e-1000000000) sz []else .arr e sz true []
def UV:List (Option (Nat×Nat))->V2->UA->V2×UA
 |some (e,sz+1)::ps,.t .nil::cs,h=>match UV ps cs (h++[nilB e (sz+1)])with
  |(cs',h')=>(.own h.length::cs',h')
 |_::ps,c::cs,h=>match UV ps cs h with
  |(cs',h')=>(c::cs',h')
 |[],cs,h=>(cs,h)
 |_,[],h=>([],h)
def dat1(n:Nat)(v:AV)(h:UA):V3:=match v with
 |.t .nil=>(.t (.lst n []),h)
 |.own b=>match gt h b with
  |.arr _ sz _ es=>(.t (.lst sz es),fzH b (.t (.lst sz es)) h)
  |.xarr _ sz es=>(.t (.lst sz es),fzH b (.t (.lst sz es)) h)
  |_=>(.own b,h)
 |v=>(v,h)
def Uc:List (Option (Nat×Nat))->V2->UA->V2×UA
 |some (n,0)::ps,c::cs,h=>match dat1 n c h with
  |(c',h1)=>match Uc ps cs h1 with
   |(cs',h')=>(c'::cs',h')
 |_::ps,c::cs,h=>match Uc ps cs h with
  |(cs',h')=>(c::cs',h')
 |_,cs,h=>(cs,h)
def own1(l:List (Option (Nat×Nat)))(v:AV)(h:UA):V3:=match v with
 |.agg cs=>match UV l cs h with
  |(cs',h')=>match Uc l cs' h' with
   |(cs'',h'')=>(.agg cs'',h'')
 |v=>match l with
  |[some (e,sz+1)]=>match v with
   |.t .nil=>(.own h.length,h++[nilB e (sz+1)])
   |v=>(v,h)
  |[some (n,0)]=>dat1 n v h
  |_=>(v,h)
def Ur:List Res->V2->UA->V2×UA
 |.tmpO _ l::rs,v::vs,h=>match own1 l v h with
  |(v',h')=>match Ur rs vs h' with
   |(vs',h'')=>(v'::vs',h'')
 |.cellO _ _ l::rs,v::vs,h=>match own1 l v h with
  |(v',h')=>match Ur rs vs h' with
   |(vs',h'')=>(v'::vs',h'')
 |_::rs,v::vs,h=>match Ur rs vs h with
  |(vs',h')=>(v::vs',h')
 |[],vs,h=>(vs,h)
 |_,[],h=>([],h)
def ownR:List Res->AV->UA->V3
 |[.tmpO _ l],v,h=>own1 l v h
 |[.cellO _ _ l],v,h=>own1 l v h
 |r::q::rs,.tup vs,h=>match Ur (r::q::rs) vs h with
  |(vs',h')=>(.tup vs',h')
 |_,v,h=>(v,h)
def ZeH(rs:List Res)(k:Nat)(v:AV)(s:S):V1:=match ownR rs v s.h with
 |(v',h')=>Zi7 k v' { s with h:=h' }
def FW(Γ:Ctr)(m:MFun)(args:V2)(h0:UA)(r:AV)(hr:UA):Prop :=
 args.length=m.np/\Wc Γ m.body (K5 m.res λv s=>ZeH m.res h0.length v s=some (r,hr)) { env:=UT args 0,stk:=[UU h0 0],h:=h0 }
def valT:Value->Option T
 |.int k n=>some (.int k n)
 |.bool b=>some (.bool b)
 |.string s=>some (.str s)
 |.slice none 0 0=>some .nil
 |_=>none
def valC(v:Value):Option AV:=match v with
 |.pointer none=>some .nilp
 |v=>(valT v).map .t
def mapO{α β:Type}(f:α->Option β):List α->Option (List β)
 |[]=>some []
 |x::xs=>match f x,mapO f xs with
  |some y,some ys=>some (y::ys)
  |_,_=>none
def valAV:Value->Option AV
 |.agg cs=>(mapO valC cs.toList).map .agg
 |v=>valC v
def opd:Operand->Option Opd
 |.tmp t=>some (.s t)
 |.const v=>(valAV v).map .c
 |.func f=>some (.c (.fn f []))
 |.global _=>none
def szsA(P:Program):Nat->Bool->TypeId->List (Option Nat)
 |0,_,_=>[]
 |n+1,a,t=>match P.underlying t with
  |some (.struct fs)=>fs.toList.flatMap λf=>szsA P n a f.type
  |some (.array k e)=>(List.replicate k (szsA P n true e)).flatten
  |some (.slice e)=>[if a then some (match P.info? e with|some i=>i.size|none=>0)else none]
  |_=>[none]
def wz1:Option Nat->AV->AV
 |some s,.t .nil=>.t (.lst s [])
 |_,v=>v
def wzA:List (Option Nat)->V2->V2
 |n::ns,v::vs=>wz1 n v::wzA ns vs
 |_,vs=>vs
def zeroC(P:Program)(t:TypeId):Option (V2):=(((P.info? t).bind (·.zero)).bind λz=>mapO valC z.cells.toList).map (wzA (szsA P 8 false t))
def szs(P:Program):Nat->TypeId->UB
 |0,_=>[]
 |n+1,t=>match P.underlying t with
  |some (.struct fs)=>fs.toList.flatMap λf=>szs P n f.type
  |some (.array k e)=>(List.replicate k (szs P n e)).flatten
  |some (.slice e)=>[match P.info? e with|some i=>i.size|none=>0]
  |_=>[0]
def JM(P:Program)(t:TypeId):Option (UD):=(((P.info? t).bind (·.zero)).bind λz=>mapO valT z.cells.toList).map (wk ((szs P 8 t).map λs=>.lst s []))
def VF(P:Program)(t:TypeId):Option (Option Nat):=match P.underlying t with
 |some (.struct _)|some (.array _ _)=>(P.info? t).map λi=>some i.size
 |some _=>some none
 |none=>none
def Z7W(ops:Array Oper)(x:Operand):Bool:=match x with
 |.tmp t=>ops.any λo=>o.dst == some t && (match o.op with|.buildSlice ..=>true|_=>false)
 |_=>false
def Z7X(P:Program)(ops:Array Oper)(x:Operand):Bool:=match x with
 |.tmp t=>ops.any λo=>o.dst == some t && (match o.op with
  |.indexAddr ty _ _=>(match P.underlying ty with|some (.array _ _)=>true|_=>false)
  |_=>false)
 |_=>false
def Zcx(P:Program)(t:TypeId)(f:Nat):Option (Nat×TypeId):=match P.underlying t with
 |some (.struct fs)=>match fs[f]? with
  |some fd=>match P.info? fd.type with
   |some i=>if i.size=0 then none else some (fd.offset,fd.type)
   |none=>none
  |none=>none
 |_=>none
def okEq(P:Program):List Field->Nat->Option (UB)
 |[],_=>some []
 |f::fs,j=>if f.name≠"_"/\f.offset=j then(match(match P.underlying f.type with
   |some .bool=>some 0
   |some (.int _)=>some 1
   |some .string=>some 2
   |_=>none),okEq P fs (j+1)with
  |some k,some ks=>some (k::ks)
  |_,_=>none)else none
def QV(P:Program)(f:Nat):Bool:=match P.funcs[f]? with
 |some fn=>fn.body.isSome && fn.name != "runtime.NumGoroutine"
 |none=>false
def isMark(inl:UB)(f:Nat):Bool:=inl.contains (f+3000000)
def isSl(P:Program)(t:TypeId):Bool:=match P.underlying t with
 |some (.slice _)=>true
 |_=>false
def ldPtr(P:Program)(ops:Array Oper)(d:Nat):Option Nat:=ops.findSome? λo=>match o.op with
 |.load t (.tmp p)=>if o.dst == some d && isSl P t then some p else none
 |_=>none
def mutLd(P:Program)(inl:UB)(ops:Array Oper)(x:Operand):Bool:=match x with
 |.tmp p=>ops.any λo=>match o.op with
  |.call c=>match c.callee with
   |.value (.func f)=>isMark inl f && c.args.any λa=>match a with
    |.tmp d=>ldPtr P ops d == some p
    |_=>false
   |_=>false
  |_=>false
 |_=>false
def ZvT(P:Program)(ops:Array Oper)(x:Operand):Option Nat:=match x with
 |.tmp e=>ops.findSome? λo=>match o.op with
  |.indexAddr _ (.tmp d) _=>if o.dst == some e then ldPtr P ops d else none
  |_=>none
 |_=>none
def stLd(P:Program)(ops:Array Oper)(x:Operand):Bool:=match x with
 |.tmp p=>ops.any λo=>match o.op with
  |.store _ y _=>ZvT P ops y == some p
  |_=>false
 |_=>false
def markPtr(P:Program)(ops:Array Oper)(args:Array Operand):Option Nat:=args.findSome? λa=>match a with
 |.tmp d=>ldPtr P ops d
 |_=>none
def callK(P:Program)(inl:UB)(ops:Array Oper)(f:Nat)(args:Array Operand)(as:List Opd):MOp :=
 if isMark inl f then(match markPtr P ops args with
  |some p=>.scall f as (.s p)
  |none=>.icall f as)
 else if inl.contains f then .icall f as else if inl.contains (f+1000000)then .pcall f as else if inl.contains 9999999 && inl.contains (f+2000000)then .xcall f as else if inl.contains 9999996 && inl.contains (f+7000000)then .fcall f as else .call f as
def isLst:T->Bool
 |.lst _ _=>true
 |_=>false
def Xi(P:Program)(inl:UB)(ops:Array Oper):Op->Option MOp
 |.move x|.assign x=>(opd x).map .mov
 |.pick c a b=>match opd c,opd a,opd b with
  |some c,some a,some b=>some (.pick c a b)
  |_,_,_=>none
 |.alloc e=>(zeroC P e).map .alloc
 |.box _ x=>(opd x).map .box
 |.build t ps=>match P.underlying t,zeroC P t with
  |some (.struct fs),some zs=>match fs.toList.mapM (λf=>(P.info? f.type).map λi=>(f.offset,i.size))with
   |some places=>(mapO (λp:Nat×Operand=>match places[p.1]?,opd p.2 with
    |some q,some x=>some (q.1,q.2,x)
    |_,_=>none) ps.toList).map (.build zs)
   |none=>none
  |_,_=>none
 |.buildSlice t n ps=>match P.underlying t with
  |some (.slice e)=>match P.info? e with
   |some i=>if n*i.size<=16777216/\0<i.size then(match mapO (λp:Nat×Operand=>(opd p.2).map λx=>(p.1,x)) ps.toList with
     |some qs=>(match JM P e with
      |some zs=>if zs.length=i.size then some (if(inl.contains 9999992 && zs.any isLst)=true then .bsliceX e i.size n zs qs else .bslice e i.size n zs qs)else none
      |none=>match i.zero with
       |some (.pointer none)=>if i.size=1 then some (.bptrs n qs)else none
       |_=>none)
     |none=>none)else none
   |none=>none
  |_=>none
 |.load t x=>match VF P t,opd x with
  |some n,some x'=>some (if(n.isNone && isSl P t && (inl.contains 9999998 || mutLd P inl ops x || (inl.contains 9999992 && stLd P ops x)))=true then .loadU (inl.contains 9999998) x' else .load n x')
  |_,_=>none
 |.store t x v=>match P.info? t,opd x,opd v with
  |some i,some x',some v=>some (match(if inl.contains 9999992=true then ZvT P ops x else none)with
   |some p=>.storeP i.size x' v (.s p)
   |none=>if Z7X P ops x=true then .storeF i.size x' v else .store i.size x' v)
  |_,_,_=>none
 |.nilCheck x=>(opd x).map .nilchk
 |.binOp op t x y _=>match opd x,opd y with
  |some x',some y'=>match P.underlying t with
   |some (.int _)|some .string=>some (.bin op x' y')
   |some .bool=>match op with
    |.eql=>some (.beq false x' y')
    |.neq=>some (.beq true x' y')
    |_=>none
   |some (.slice _)=>match op,y with
    |.eql,.const (.slice none 0 0)=>some (.nileq false true x')
    |.neq,.const (.slice none 0 0)=>some (.nileq true true x')
    |_,_=>none
   |some (.pointer _)=>match op,y with
    |.eql,.const (.pointer none)=>some (.nileq false false x')
    |.neq,.const (.pointer none)=>some (.nileq true false x')
    |_,_=>none
   |some (.struct fs)=>match okEq P fs.toList 0 with
    |some ks=>if P.stoodInHeld t=false/\P.eqGuardType P.depth t=false then(match op with
     |.eql=>some (.aeq false ks x' y')
     |.neq=>some (.aeq true ks x' y')
     |_=>none)else none
    |none=>none
   |_=>none
  |_,_=>none
 |.unOp op _ x=>(opd x).map (.un op)
 |.convert s d x=>match P.underlying s,P.underlying d with
  |some _,some (.int k)=>(opd x).map (.conv k)
  |some (.slice e),some .string=>match P.underlying e with
   |some (.int .u8)=>(opd x).map .tostr
   |_=>none
  |_,_=>none
 |.makeFunc (.func f) first caps=>if first.isEmpty then(mapO opd caps.toList).map (.mkfn f)else none
 |.makeSlice t l c=>match P.underlying t with
  |some (.slice e)=>match P.info? e,JM P e,opd l,opd c with
   |some i,some zs,some l,some c=>if zs.length=i.size/\0<i.size then some (.mkslice e i.size i.bytes zs l c)else none
   |_,_,_,_=>none
  |_=>none
 |.slice t x lo hi none=>match(match P.underlying t with
   |some .string=>some none
   |some (.slice e)=>(P.info? e).map λi=>some i.size
   |_=>none),opd x,(match lo with|none=>some none|some o=>(opd o).map some),(match hi with|none=>some none|some o=>(opd o).map some)with
  |some sz,some x,some lo,some hi=>some (.slice sz x lo hi)
  |_,_,_,_=>none
 |.fieldAddr t x f=>match Zcx P t f,opd x with
  |some (off,_),some x=>some (.faddr off x)
  |_,_=>none
 |.field t x f=>match Zcx P t f,opd x with
  |some (off,u),some x=>(VF P u).map λn=>.field off n x
  |_,_=>none
 |.indexAddr t x i=>match P.underlying t with
  |some (.slice e)=>match P.info? e,opd x,opd i with
   |some inf,some x,some i=>some (.iaddr inf.size x i)
   |_,_,_=>none
  |some (.array n e)=>match P.info? e,opd x,opd i with
   |some inf,some x,some i=>some (.aaddr n inf.size x i)
   |_,_,_=>none
  |_=>none
 |.index t x i=>match P.underlying t,opd x,opd i with
  |some .string,some x,some i=>some (.index x i)
  |some (.array n e),some x,some i=>match P.info? e,VF P e with
   |some inf,some m=>some (.aidx n inf.size m x i)
   |_,_=>none
  |_,_,_=>none
 |.extract x i=>(opd x).map λx=>.ext x i
 |.call c=>match c.callee with
  |.builtin .len=>match c.args.toList,c.argTypes.toList with
   |[x],[t]=>match P.underlying t with
    |some (.slice _)=>(opd x).map (.len false)
    |some .string=>(opd x).map (.len true)
    |_=>none
   |_,_=>none
  |.builtin .append=>match c.args.toList,c.argTypes.toList with
   |[x,y],[t,u]=>match P.underlying t,P.underlying u with
    |some (.slice e),some (.slice _)=>match P.info? e,opd x,opd y with
     |some i,some x',some y'=>match i.zero with
      |some z=>if 0<i.size/\z.cells.size=i.size/\t=u/\e≠unk then some (.append e i.size i.bytes (Z7W ops y) x' y')else none
      |none=>none
     |_,_,_=>none
    |_,_=>none
   |_,_=>none
  |.builtin .max=>match c.args.toList with
   |[x,y]=>match opd x,opd y with
    |some x,some y=>some (.mm true x y)
    |_,_=>none
   |_=>none
  |.builtin .min=>match c.args.toList with
   |[x,y]=>match opd x,opd y with
    |some x,some y=>some (.mm false x y)
    |_,_=>none
   |_=>none
  |.value (.func f)=>if QV P f=true then(mapO opd c.args.toList).map (callK P inl ops f c.args)else none
  |.value x=>match opd x,mapO opd c.args.toList with
   |some x,some as=>some (.dcall x as)
   |_,_=>none
  |_=>none
 |_=>none
def compO(P:Program)(inl:UB)(nt:Nat)(ops:Array Oper)(o:Oper):Option MO :=
 if o.dst.all (·<nt)=true then match Xi P inl ops o.op,(match o.guard with
  |none=>some none
  |some (j,b)=>((ops[j]?).bind (·.dst)).map λd=>some (d,b))with
 |some k,some g=>some { dst:=o.dst,guard:=g,op:=k }
 |_,_=>none
 else none
def Vt(o:Oper):UB:=o.after.toList.filterMap λe=>if Region.binds .any e then some e.on else none
def backB:List (UB)->Nat->Bool
 |[],_=>true
 |b::bs,i=>b.all (·<i) && backB bs (i+1)
def comp(P:Program)(inl:UB)(nt:Nat):Code->List (UB)->Option (MCode×List (UB))
 |.skip,ks=>some (.skip,ks)
 |.region _ ops draw,k::ks=>match mapO (compO P inl nt ops) ops.toList with
  |some os=>if draw then(if backB (ops.toList.map Vt) 0=true/\P.follows .mixedOrders=true/\Region.noSelect ops=true then some (if inl.contains 9999995 then .drwF os (ops.toList.map Vt) k else .drw os (ops.toList.map Vt) k,ks)else none)else some (if inl.contains 9999995 then .regF os k else .reg os k,ks)
  |none=>none
 |.seq a b,ks=>match comp P inl nt a ks with
  |some (x,ks)=>match comp P inl nt b ks with
   |some (y,ks)=>some (.seq x y,ks)
   |none=>none
  |none=>none
 |.cond c a b,ks=>match opd c,comp P inl nt a ks with
  |some c,some (x,ks)=>match comp P inl nt b ks with
   |some (y,ks)=>some (.cond c x y,ks)
   |none=>none
  |_,_=>none
 |.block id b,ks=>match comp P inl nt b ks with
  |some (x,ks)=>some (.block id x,ks)
  |none=>none
 |.loop b,k::ks=>match comp P inl nt b ks with
  |some (x,ks)=>some (.loop k x,ks)
  |none=>none
 |.exit id,ks=>some (.exit id,ks)
 |.ret,ks=>some (.ret,ks)
 |_,_=>none
def ZaX(P:Program):ResultVar->Option Res
 |.tmp t=>some (.tmp t)
 |.cell a t=>(VF P t).map (.cell a)
def cellTs(P:Program):Nat->TypeId->List TypeId
 |0,t=>[t]
 |n+1,t=>match P.underlying t with
  |some (.struct fs)=>fs.toList.flatMap λf=>cellTs P n f.type
  |_=>[t]
def ownTs(P:Program)(x d:Bool)(t:TypeId):List (Option (Nat×Nat)):=(cellTs P 8 t).map λc=>match P.underlying c with
 |some (.slice e)=>some (if d then(P.cellsOf e,0)else(if(x && (cellTs P 8 e).any (isSl P))=true then 1000000000+e else e,P.cellsOf e))
 |_=>none
def resO(P:Program)(x:Bool)(d:TypeId->Bool):List Res->List TypeId->List Res
 |.tmp t::rs,ty::tys=>.tmpO t (ownTs P x (d ty) ty)::resO P x d rs tys
 |.cell a n::rs,ty::tys=>.cellO a n (ownTs P x (d ty) ty)::resO P x d rs tys
 |r::rs,_::tys=>r::resO P x d rs tys
 |rs,[]=>rs
 |[],_=>[]
def Jj(P:Program)(inl:UB)(keeps:List (UB))(f:Func):Option MFun:=match f.body with
 |some c=>match comp P inl f.ntmps c keeps,mapO (ZaX P) f.results.toList with
  |some (b,[]),some rs=>(if f.params.size+f.nfree<=f.ntmps then some { np:=f.params.size+f.nfree,nt:=f.ntmps,res:=if inl.contains 9999994 then resO P (inl.contains 9999992) (λt=>!(inl.contains 9999993 && inl.contains (20000000+t))) rs f.resultTypes.toList else if inl.contains 9999997 then resO P (inl.contains 9999992) (λ_=>false) rs f.resultTypes.toList else rs,body:=b } else none)
  |_,_=>none
 |none=>none
mutual
inductive TR (w:World):T->Value->UB->Prop
 |int (k:IntKind) (n:Int):TR w (.int k n) (.int k n) []
 |bool (b:Bool):TR w (.bool b) (.bool b) []
 |str (s:UP):TR w (.str s) (.string s) []
 |nil:TR w .nil (.slice none 0 0) []
 |any {v:Value} (h:v.oneCell'=true):TR w .any v []
 |lst0 (sz:Nat) (a:Option Addr) (cap:Nat):TR w (.lst sz []) (.slice a 0 cap) []
 |lst {sz:Nat} {es:V5} {g off cap:Nat} {c:Array Value} {e:TypeId} {fz:Nat×Nat} {fp:UB} (hne:es≠[]) (hsz:0<sz) (hcap:es.length<=cap)
   (hg:w.heap[g]?=some (.cells c e fz)) (hlen:∀x∈es,x.length=sz) (hc:TRs w es.flatten ((c.toList.drop off).take (es.length*sz)) fp) :
   TR w (.lst sz es) (.slice (some ⟨g,off,none⟩) es.length cap) (g::fp)
inductive TRs (w:World):UD->UC->UB->Prop
 |nil:TRs w [] [] []
 |cons {t:T} {v:Value} {fp:UB} {ts:UD} {vs:UC} {fq:UB} (h:TR w t v fp) (hs:TRs w ts vs fq):TRs w (t::ts) (v::vs) (fp++fq)
end
section
variable{w w':World}{fp:UB}{ts us:UD}{vs:UC}{t:T}{v:Value}
theorem TR.frame(h:TR w t v fp):(∀g∈fp,w'.heap[g]?=w.heap[g]?)->TR w' t v fp:=by
 refine TR.rec (motive_1:=λt v fp _=>(∀g∈fp,w'.heap[g]?=w.heap[g]?)->TR w' t v fp) (motive_2:=λts vs fp _=>(∀g∈fp,w'.heap[g]?=w.heap[g]?)->TRs w' ts vs fp)
  ?_ ?_ ?_ ?_ ?_ ?_ ?_ ?_ ?_ h
 .intro k n _;exact .int k n
 .intro b _;exact .bool b
 .intro s _;exact .str s
 .intro _;exact .nil
 .intro v h _;exact .any h
 .intro sz a cap _;exact .lst0 sz a cap
 .intro sz es g off cap c e fz fp hne hsz hcap hg hlen _ ih hf;exact .lst hne hsz hcap (by rw[hf g (by simp)];exact hg) hlen (ih λg hg=>hf g (by simp[hg]))
 .intro _;exact .nil
 .intro t v fp ts vs fq _ _ ih1 ih2 hf;exact .cons (ih1 λg hg=>hf g (by simp[hg])) (ih2 λg hg=>hf g (by simp[hg]))
theorem TRs.frame(h:TRs w ts vs fp):(∀g∈fp,w'.heap[g]?=w.heap[g]?)->TRs w' ts vs fp:=by
 induction ts generalizing vs fp with
 |nil=>cases h;exact λ_=>.nil
 |cons t ts ih =>
  cases h with
  |cons h hs=>exact λhf=>.cons (h.frame λg hg=>hf g (by simp[hg])) (ih hs λg hg=>hf g (by simp[hg]))
theorem TR.lt(h:TR w t v fp):∀g∈fp,g<w.heap.size:=by
 refine TR.rec (motive_1:=λt v fp _=>∀g∈fp,g<w.heap.size) (motive_2:=λts vs fp _=>∀g∈fp,g<w.heap.size)
  ?_ ?_ ?_ ?_ ?_ ?_ ?_ ?_ ?_ h
 .simp
 .intro _ g hg;cases hg
 .intro _ g hg;cases hg
 .intro g hg;cases hg
 .simp
 .simp
 .grind
 .intro g hg;cases hg
 .grind
theorem TRs.lt(h:TRs w ts vs fp):∀g∈fp,g<w.heap.size:=by
 induction ts generalizing vs fp with
 |nil=>cases h;intro g hg;cases hg
 |cons t ts ih =>
  cases h with
  |cons h hs =>
   intro g hg;rcases Yl.1 hg with hg|hg
   .exact h.lt g hg
   .exact ih hs g hg
theorem TR.one(h:TR w t v fp):v.oneCell'=true:=by cases h<;>first|rfl|assumption
theorem TRs.one(h:TRs w ts vs fp):∀v∈vs,v.oneCell'=true:=by
 induction ts generalizing vs fp with
 |nil=>cases h;intro v hv;cases hv
 |cons t ts ih =>
  cases h with
  |cons h hs =>
   intro v hv
   cases hv with
   |head=>exact h.one
   |tail _ hv=>exact ih hs v hv
theorem TRs.length(h:TRs w ts vs fp):ts.length=vs.length:=by
 induction ts generalizing vs fp with
 |nil=>cases h;rfl
 |cons t ts ih =>
  cases h with
  |cons h hs=>simp[ih hs]
theorem TRs.append{xs:UC}{fq:UB}(h:TRs w ts vs fp)(h':TRs w us xs fq):TRs w (ts++us) (vs++xs) (fp++fq):=by
 induction ts generalizing vs fp with
 |nil=>cases h;exact h'
 |cons t ts ih =>
  cases h with
  |cons h hs=>simpa[Ybo]using TRs.cons h (ih hs)
theorem TRs.split(h:TRs w (ts++us) vs fp) :
  ∃fa fb,fp=fa++fb/\TRs w ts (vs.take ts.length) fa/\TRs w us (vs.drop ts.length) fb:=by
 induction ts generalizing vs fp with
 |nil=>exact⟨[],fp,rfl,.nil,h⟩
 |cons t ts ih =>
  cases h with
  |cons h hs =>
   obtain⟨fa,fb,rfl,h1,h2⟩:=ih hs;exact⟨_++fa,fb,by simp,.cons h h1,h2⟩
theorem TRs.at(h:TRs w ts vs fp){i:Nat}(hi:ts[i]?=some t) :
  ∃v fq,vs[i]?=some v/\TR w t v fq/\∀g∈fq,g∈fp:=by
 induction ts generalizing vs fp i with
 |nil=>simp at hi
 |cons t' ts ih =>
  cases h with
  |cons h hs =>
   grind
theorem TRs.flat(h:TRs w ts vs fp)(hf:ts.all Xe=true):fp=[]:=by
 induction ts generalizing vs fp with
 |nil=>cases h;rfl
 |cons t ts ih =>
  cases h with
  |cons h hs =>
   simp only[Ybh,Yg]at hf;rw[ih hs hf.2];cases h<;>first|rfl|simp[Xe]at hf
end
mutual
inductive OW (w:World) (base:Nat):T->Value->Prop
 |sc {x:T} (v:Value) (h:Xe x=true):OW w base x v
 |lst0 (sz:Nat) (v:Value):OW w base (.lst sz []) v
 |lst {sz:Nat} {es:V5} {v:Value} {e:TypeId} {xs:UC} (ho:w.ownsRow base e sz v es.length xs) (hs:OWs w base es.flatten xs):OW w base (.lst sz es) v
inductive OWs (w:World) (base:Nat):UD->UC->Prop
 |nil:OWs w base [] []
 |cons {t:T} {v:Value} {ts:UD} {vs:UC} (h:OW w base t v) (hs:OWs w base ts vs):OWs w base (t::ts) (v::vs)
end
section
variable{w w':World}{base base':Nat}{ts us:UD}{t:T}{vs xs:UC}{v:Value}{fp:UB}
theorem OW.frame(h:OW w base t v):∀{fp:UB},TR w t v fp->(∀g∈fp,w'.heap[g]?=w.heap[g]?)->OW w' base t v:=by
 refine OW.rec (motive_1:=λt v _=>∀{fp:UB},TR w t v fp->(∀g∈fp,w'.heap[g]?=w.heap[g]?)->OW w' base t v)
  (motive_2:=λts vs _=>∀{fp:UB},TRs w ts vs fp->(∀g∈fp,w'.heap[g]?=w.heap[g]?)->OWs w' base ts vs) ?_ ?_ ?_ ?_ ?_ h
 .intro x v hs fp _ _;exact .sc v hs
 .intro sz v fp _ _;exact .lst0 sz v
 .intro sz es v e xs ho _ ih fp hT hf
  cases hT with
  |lst0=>exact .lst0 _ _
  |@lst _ _ g off cap c te fz fp' hne hsz hcap hg hlen hc =>
   rcases ho.2 with⟨hv,_⟩|⟨g',cap',cur,hv,hb,hg',h1,h2,h3,h4⟩
   .cases hv
   .cases hv;rw[hg]at hg';cases hg';rw[Ys,h4]at hc;exact .lst ⟨ho.1,.inr ⟨g,cap,c,rfl,hb,by rw[hf g (by simp)];exact hg,h1,h2,h3,h4⟩⟩ (ih hc λg hg=>hf g (by simp[hg]))
 .intro fp _ _;exact .nil
 .intro t v ts vs _ _ ih1 ih2 fp hT hf
  cases hT with
  |cons h hs=>exact .cons (ih1 h λg hg=>hf g (by simp[hg])) (ih2 hs λg hg=>hf g (by simp[hg]))
theorem OWs.frame(h:OWs w base ts vs)(hT:TRs w ts vs fp)(hf:∀g∈fp,w'.heap[g]?=w.heap[g]?):OWs w' base ts vs:=by
 induction ts generalizing vs fp with
 |nil=>cases h;exact .nil
 |cons t ts ih =>
  cases h with
  |cons h hs =>
   cases hT with
   |cons hT hTs=>exact .cons (h.frame hT λg hg=>hf g (by simp[hg])) (ih hs hTs λg hg=>hf g (by simp[hg]))
theorem OW.ge(h:OW w base t v):∀{fp:UB},TR w t v fp->∀g∈fp,base<=g:=by
 refine OW.rec (motive_1:=λt v _=>∀{fp:UB},TR w t v fp->∀g∈fp,base<=g)
  (motive_2:=λts vs _=>∀{fp:UB},TRs w ts vs fp->∀g∈fp,base<=g) ?_ ?_ ?_ ?_ ?_ h
 .intro x v hs fp hT g hg;cases hT<;>first|cases hg;done|simp[Xe]at hs
 .intro sz v fp hT g hg
  cases hT with
  |lst0=>cases hg
  |lst hne=>exact absurd rfl hne
 .intro sz es v e xs ho _ ih fp hT x hx
  cases hT with
  |lst0=>cases hx
  |@lst _ _ g off cap c te fz fp' hne hsz hcap hg hlen hc =>
   rcases ho.2 with⟨hv,_⟩|⟨g',cap',cur,hv,hb,hg',h1,h2,h3,h4⟩
   .cases hv
   .grind
 .intro fp hT g hg;cases hT;cases hg
 .intro t v ts vs _ _ ih1 ih2 fp hT g hg
  cases hT with
  |cons h hs =>
   grind
theorem OWs.ge(h:OWs w base ts vs)(hT:TRs w ts vs fp):∀g∈fp,base<=g:=by
 induction ts generalizing vs fp with
 |nil=>cases hT;intro g hg;cases hg
 |cons t ts ih =>
  cases h with
  |cons h hs =>
   cases hT with
   |cons hT hTs =>
    intro g hg;rcases Yl.1 hg with hg|hg
    .exact h.ge hT g hg
    .exact ih hs hTs g hg
theorem ZaY(hb:base'<=base){e:TypeId}{sz n:Nat}(ho:w.ownsRow base e sz v n xs):w.ownsRow base' e sz v n xs:=by
 refine⟨ho.1,?_⟩;rcases ho.2 with h|⟨g,cap,cur,h1,h2,h3⟩
 .exact .inl h
 .exact .inr ⟨g,cap,cur,h1,Y1 hb h2,h3⟩
theorem OW.mono(hb:base'<=base)(h:OW w base t v):OW w base' t v:=by
 refine OW.rec (motive_1:=λt v _=>OW w base' t v) (motive_2:=λts vs _=>OWs w base' ts vs) ?_ ?_ ?_ ?_ ?_ h
 .intro x v hs;exact .sc v hs
 .intro sz v;exact .lst0 sz v
 .intro sz es v e xs ho _ ih;exact .lst (ZaY hb ho) ih
 .exact .nil
 .intro t v ts vs _ _ ih1 ih2;exact .cons ih1 ih2
theorem OWs.mono(hb:base'<=base)(h:OWs w base ts vs):OWs w base' ts vs:=by
 induction ts generalizing vs with
 |nil=>cases h;exact .nil
 |cons t ts ih=>cases h with|cons h hs=>exact .cons (h.mono hb) (ih hs)
theorem OWs.append(h:OWs w base ts vs)(h':OWs w base us xs):OWs w base (ts++us) (vs++xs):=by
 induction ts generalizing vs with
 |nil=>cases h;exact h'
 |cons t ts ih=>cases h with|cons h hs=>exact .cons h (ih hs)
theorem OWs.split(h:OWs w base (ts++us) vs):OWs w base ts (vs.take ts.length)/\OWs w base us (vs.drop ts.length):=by
 induction ts generalizing vs with
 |nil=>exact⟨.nil,h⟩
 |cons t ts ih =>
  cases h with
  |cons h hs=>exact⟨.cons h (ih hs).1,(ih hs).2⟩
theorem OWs.splice{A B C:UD}{ys:UC}(hc:OWs w base (A++B++C) xs)(ht:OWs w base ts ys):OWs w base (A++ts++C) (xs.take A.length++ys++xs.drop (A.length+B.length)):=by
 have h1:=hc.split;have h2:=h1.1.split;have e1:(xs.take (A++B).length).take A.length=xs.take A.length:=by rw[Yb2,Yba (by simp)]
 rw[e1]at h2;have h3:=h1.2;rw[Yn]at h3;exact(h2.1.append ht).append h3
def easy:T->Bool
 |.lst _ (_::_)=>false
 |_=>true
theorem OW.easy(v:Value)(h:AM.easy t=true):OW w base t v:=by
 cases t with
 |lst sz es =>
  cases es with
  |nil=>exact .lst0 _ _
  |cons e es=>cases h
 |_=>exact .sc _ rfl
theorem OWs.easy:∀{ts:UD} {vs:UC},ts.length=vs.length->ts.all AM.easy=true->OWs w base ts vs
 |[],[],_,_=>.nil
 |[],_::_,h,_=>by cases h
 |_::_,[],h,_=>by cases h
 |t::ts,v::vs,h,he=>by
  simp only[Ybh,Yg]at he;exact .cons (.easy v he.1) (OWs.easy (by simpa using h) he.2)
theorem ZvU(h:Xe t=true):AM.easy t=true:=by cases t<;>first|rfl|cases h
theorem Z7Y(h:ts.all Xe=true):ts.all AM.easy=true:=by
 simp_all [Yy,ZvU]
theorem ZvV{es:V5}(h:flat es=true):es.flatten.all AM.easy=true:=by
 rw[Yy];intro t ht;obtain⟨x,hx,ht⟩:=Ycd.1 ht;simp only[flat,Yy]at h
 grind [ZvU]
end
structure Root where
 v:Value
 fp:UB
 ex:UB:=[]
def Xm:Value->Option Nat
 |.pointer (some a)=>some a.block
 |.slice (some a) _ _=>some a.block
 |_=>none
def X3(r:Root)(g:Nat):Prop:=Xm r.v=some g\/g∈r.ex
def Zcy{r:Root}(hx:r.ex=[]){g:Nat}:X3 r g↔Xm r.v=some g:=by simp[X3,hx]
abbrev Map:=Nat->Option Root
structure Par where
 a:Nat->Prop
 f:Nat->Prop
 z:Nat->Prop
def Free(N:Par)(ρ:Map)(h:UA)(g:Nat):Prop:=N.a g/\∀b r,ρ b=some r->gt h b≠.dead->¬X3 r g
mutual
inductive RV (ρ:Map) (w:World) (F:Nat->Prop):AV->Value->Prop
 |top (v:Value):RV ρ w F .top v
 |nilp:RV ρ w F .nilp (.pointer none)
 |t {x:T} {v:Value} {fp:UB} (h:TR w x v fp) (hf:∀g∈fp,F g):RV ρ w F (.t x) v
 |agg {cs:V2} {c:Array Value} (h:RVs ρ w F cs c.toList) (h1:∀v∈c.toList,v.oneCell'=true):RV ρ w F (.agg cs) (.agg c)
 |tup {cs:V2} {c:Array Value} (h:RVs ρ w F cs c.toList):RV ρ w F (.tup cs) (.tuple c)
 |ptr {b off g:Nat} {r:Root} (hr:ρ b=some r) (hv:r.v=.pointer (some ⟨g,0,none⟩)):RV ρ w F (.ptr b off) (.pointer (some ⟨g,off,none⟩))
 |eptr {b i sz off g n cap:Nat} {r:Root} (hr:ρ b=some r) (hv:r.v=.slice (some ⟨g,0,none⟩) n cap):RV ρ w F (.eptr b i sz off) (.pointer (some ⟨g,i*sz+off,none⟩))
 |iptr {cs:UD} {off g o:Nat} {c:Array Value} {e:TypeId} {fz:Nat×Nat} {fp:UB} (hg:w.heap[g]?=some (.cells c e fz)) (hF:F g)
   (hc:TRs w cs ((c.toList.drop o).take cs.length) fp) (hf:∀g∈fp,F g):RV ρ w F (.iptr cs off) (.pointer (some ⟨g,o+off,none⟩))
 |own {b:Nat} {r:Root} (hr:ρ b=some r) (h1:r.v.oneCell'=true):RV ρ w F (.own b) r.v
 |bsl {b n g:Nat} {r:Root} (hr:ρ b=some r) (hv:r.v=.pointer (some ⟨g,0,none⟩)):RV ρ w F (.bsl b n) (.slice (some ⟨g,0,none⟩) n n)
 |fn {f:Nat} {cs:V2} {c:Array Value} (h:RVs ρ w F cs c.toList):RV ρ w F (.fn f cs) (.func (.func f) #[] c)
inductive RVs (ρ:Map) (w:World) (F:Nat->Prop):V2->UC->Prop
 |nil:RVs ρ w F [] []
 |cons {a:AV} {v:Value} {as:V2} {vs:UC} (h:RV ρ w F a v) (hs:RVs ρ w F as vs):RVs ρ w F (a::as) (v::vs)
end
structure Keeps (ρ:Map) (w:World) (F:Nat->Prop) (ρ':Map) (w':World) (F':Nat->Prop):Prop where
 root:∀b r,ρ b=some r->∃r',ρ' b=some r'/\r'.v=r.v
 free:∀g,g<w.heap.size->F g->F' g/\w'.heap[g]?=w.heap[g]?
section
variable{ρ ρ':Map}{w w':World}{F F':Nat->Prop}{vs:UC}{as:V2}{a:AV}
theorem Keeps.refl:Keeps ρ w F ρ w F:=⟨λ_ r h=>⟨r,h,rfl⟩,λ_ _ h=>⟨h,rfl⟩⟩
theorem Keeps.trans{ρ'':Map}{w'':World}{F'':Nat->Prop}(h1:Keeps ρ w F ρ' w' F')(h2:Keeps ρ' w' F' ρ'' w'' F'')(hl:w.heap.size<=w'.heap.size):Keeps ρ w F ρ'' w'' F'':=by
 refine⟨λb r hb=>?_,λg hg hF=>?_⟩
 .obtain⟨r1,q1,q2⟩:=h1.root b r hb;obtain⟨r2,q3,q4⟩:=h2.root b r1 q1
  simp_all
 .obtain⟨p1,p2⟩:=h1.free g hg hF;obtain⟨p3,p4⟩:=h2.free g (by omega) p1
  simp_all
theorem RV.keep(hk:Keeps ρ w F ρ' w' F'){v:Value}(h:RV ρ w F a v):RV ρ' w' F' a v:=by
 refine RV.rec (motive_1:=λa v _=>RV ρ' w' F' a v) (motive_2:=λas vs _=>RVs ρ' w' F' as vs) ?_ ?_ ?_ ?_ ?_ ?_ ?_ ?_ ?_ ?_ ?_ ?_ ?_ h
 .exact λv=>.top v
 .exact .nilp
 .intro x v fp h hf;exact .t (h.frame λg hg=>(hk.free g (h.lt g hg) (hf g hg)).2) λg hg=>(hk.free g (h.lt g hg) (hf g hg)).1
 .intro cs c _ h1 ih;exact .agg ih h1
 .intro cs c _ ih;exact .tup ih
 .intro b off g r hr hv;obtain⟨r',h1,h2⟩:=hk.root b r hr;exact .ptr h1 (h2.trans hv)
 .intro b i sz off g n cap r hr hv;obtain⟨r',h1,h2⟩:=hk.root b r hr;exact .eptr h1 (h2.trans hv)
 .intro cs off g o c e fz fp hg hF hc hf;have hl:g<w.heap.size:=(Yb6.1 hg).1;exact .iptr (by rw[(hk.free g hl hF).2];exact hg) (hk.free g hl hF).1 (hc.frame λg hg=>(hk.free g (hc.lt g hg) (hf g hg)).2)
   λg hg=>(hk.free g (hc.lt g hg) (hf g hg)).1
 .intro b r hr ho;obtain⟨r',h1,h2⟩:=hk.root b r hr;rw[<-h2];exact .own h1 (by rw[h2];exact ho)
 .intro b n g r hr hv;obtain⟨r',h1,h2⟩:=hk.root b r hr;exact .bsl h1 (h2.trans hv)
 .intro f cs c _ ih;exact .fn ih
 .exact .nil
 .intro a v as vs _ _ ih1 ih2;exact .cons ih1 ih2
theorem RVs.keep(hk:Keeps ρ w F ρ' w' F')(h:RVs ρ w F as vs):RVs ρ' w' F' as vs:=by
 induction as generalizing vs with
 |nil=>cases h;exact .nil
 |cons a as ih=>cases h with|cons h hs=>exact .cons (h.keep hk) (ih hs)
theorem RVs.length(h:RVs ρ w F as vs):as.length=vs.length:=by
 induction as generalizing vs with
 |nil=>cases h;rfl
 |cons a as ih=>cases h with|cons h hs=>simp[ih hs]
theorem RVs.at(h:RVs ρ w F as vs){i:Nat}(hi:as[i]?=some a):∃v,vs[i]?=some v/\RV ρ w F a v:=by
 induction as generalizing vs i with
 |nil=>simp at hi
 |cons a' as ih =>
  cases h with
  |cons h hs =>
   grind
theorem RVs.append{bs:V2}{xs:UC}(h:RVs ρ w F as vs)(h':RVs ρ w F bs xs):RVs ρ w F (as++bs) (vs++xs):=by
 induction as generalizing vs with
 |nil=>cases h;exact h'
 |cons a as ih=>cases h with|cons h hs=>exact .cons h (ih hs)
theorem RVs.take(h:RVs ρ w F as vs)(n:Nat):RVs ρ w F (as.take n) (vs.take n):=by
 induction as generalizing vs n with
 |nil=>cases h;simpa using RVs.nil
 |cons a as ih =>
  cases h with
  |cons h hs=>cases n with|zero=>exact .nil|succ n=>exact .cons h (ih hs n)
theorem RVs.drop(h:RVs ρ w F as vs)(n:Nat):RVs ρ w F (as.drop n) (vs.drop n):=by
 induction as generalizing vs n with
 |nil=>cases h;simpa using RVs.nil
 |cons a as ih =>
  cases h with
  |cons h hs=>cases n with|zero=>exact .cons h hs|succ n=>exact ih hs n
theorem RVs.of_TRs{ts:UD}{fp:UB}(h:TRs w ts vs fp)(hf:∀g∈fp,F g):RVs ρ w F (ts.map .t) vs:=by
 induction ts generalizing vs fp with
 |nil=>cases h;exact .nil
 |cons t ts ih=>cases h with|cons h hs=>exact .cons (.t h λg hg=>hf g (by simp[hg])) (ih hs λg hg=>hf g (by simp[hg]))
end
def JN(N:Par)(base:Nat)(ρ:Map)(w:World)(F:Nat->Prop)(r:Root):Blk->Prop
 |.dead=>True
 |.box cs=>r.ex=[]/\∃g c e,r.v=.pointer (some ⟨g,0,none⟩)/\base<=g/\w.heap[g]?=some (.cells c e (0,0))/\RVs ρ w F cs c.toList/\∀v∈c.toList,v.oneCell'=true
 |.arr e sz fr es=>r.ex=[]/\∃e' xs,(e=unk\/e'=e)/\w.ownsRow base e' sz r.v es.length xs/\0<sz/\(∀x∈es,x.length=sz)/\TRs w es.flatten xs r.fp/\(∀g∈r.fp,F g)/\
   (fr=true->r.fp.Nodup/\∀g∈r.fp,N.f g)/\(fr=true->OWs w base es.flatten xs)
 |.xarr e sz es=>∃e' xs,(e=unk\/e'=e)/\w.ownsRow base e' sz r.v es.length xs/\0<sz/\(∀x∈es,x.length=sz)/\TRs w es.flatten xs r.ex/\OWs w base es.flatten xs/\r.ex.Nodup/\∀g∈r.ex,Xm r.v≠some g
 |.det e sz es i off b=>∃e' xs rb fa fc,(e=unk\/e'=e)/\w.ownsRow base e' sz r.v es.length xs/\0<sz/\(∀x∈es,x.length=sz)/\ρ b=some rb/\xs[i*sz+off]?=some rb.v/\off<sz/\i<es.length/\
   r.ex=fa++fc/\TRs w (es.flatten.take (i*sz+off)) (xs.take (i*sz+off)) fa/\TRs w (es.flatten.drop (i*sz+off+1)) (xs.drop (i*sz+off+1)) fc/\
   OWs w base (es.flatten.take (i*sz+off)) (xs.take (i*sz+off))/\OWs w base (es.flatten.drop (i*sz+off+1)) (xs.drop (i*sz+off+1))/\r.ex.Nodup/\∀g∈r.ex,Xm r.v≠some g
def Xo:Blk->Bool
 |.arr _ _ fr _=>fr
 |_=>false
structure Rel (N:Par) (base:Nat) (ρ:Map) (h:UA) (w:World):Prop where
 hb:base<=w.heap.size
 hN:∀g,w.heap.size<=g->N.a g/\N.f g
 hO:∀b r g,ρ b=some r->gt h b≠.dead->X3 r g->N.a g/\N.f g
 blk:∀b,gt h b≠.dead->∃r,ρ b=some r/\JN N base ρ w (Free N ρ h) r (gt h b)
 inj:∀b b' r r' g,ρ b=some r->ρ b'=some r'->gt h b≠.dead->gt h b'≠.dead->X3 r g->X3 r' g->b=b'
 apart:∀b b' r r' g,ρ b=some r->ρ b'=some r'->Xo (gt h b)=true->Xo (gt h b')=true->g∈r.fp->g∈r'.fp->b=b'
theorem WR(h:UA)(b c:Nat)(x:Blk):gt (stB h b x) c=if c=b then x else gt h c:=by
 induction h generalizing b c with
 |nil =>
  induction b generalizing c with
  |zero=>cases c<;>simp[stB,gt]
  |succ b ih =>
   cases c with
   |zero=>simp[stB,gt]
   |succ c=>simpa[stB,gt]using ih c
 |cons y h ih =>
  cases b with
  |zero=>cases c<;>simp[stB,gt]
  |succ b =>
   cases c with
   |zero=>simp[stB,gt]
   |succ c=>simpa[stB,gt]using ih b c
def updM(ρ:Map)(n:Nat)(r:Root):Map:=λb=>if b=n then some r else ρ b
def ZeI(h:UA)(u u':List (Nat×Blk)):upd h (u++u')=upd (upd h u) u':=by
 induction u generalizing h with
 |nil=>rfl
 |cons x u ih=>exact ih _
def gt_kill(h:UA)(ks:UB)(b:Nat):gt (upd h (kill ks)) b=if b∈ks then .dead else gt h b:=by
 induction ks generalizing h with
 |nil=>simp[kill,upd]
 |cons k ks ih =>
  show gt (upd (stB h k .dead) (kill ks)) b=_
  grind [WR]
def JO(h:UA)(ks:UB)(n:Nat)(x:Blk)(b:Nat):gt (upd h (kill ks++[(n,x)])) b=if b=n then x else if b∈ks then .dead else gt h b:=by
 rw[ZeI];show gt (stB _ n x) b=_;rw[WR,gt_kill]
section
variable{N:Par}{base:Nat}{ρ:Map}{h:UA}{w w':World}{r:Root}{n g e sz:Nat}{x:Blk}{ks:UB}{row:Option Nat}{v:Value}{xs:UC}{F:Nat->Prop}
theorem ZmQ(ho:w.ownsRow base e sz v n xs)(hg:Xm v=some g):base<=g/\g<w.heap.size:=by
 rcases ho.2 with⟨hv,_⟩|⟨g',cap,cur,hv,hb,hh,_⟩
 .rw[hv]at hg;simp[Xm]at hg
 .rw[hv]at hg;simp[Xm]at hg
  grind
theorem JN.lt(hx:JN N base ρ w F r x)(hd:x≠.dead)(hg:X3 r g):base<=g/\g<w.heap.size:=by
 cases x with
 |dead=>exact absurd rfl hd
 |box cs =>
  obtain⟨h0,g',c,e,hv,hb,hh,_⟩:=hx;rw[Zcy h0]at hg;rw[hv]at hg;simp[Xm]at hg
  grind
 |arr e sz fr es =>
  obtain⟨h0,e',xs,_,ho,_⟩:=hx;rw[Zcy h0]at hg
  exact ZmQ ho hg
 |xarr e sz es =>
  obtain⟨e',xs,_,ho,_,_,ht,how,_⟩:=hx;rcases hg with hg|hg
  .exact ZmQ ho hg
  .exact⟨how.ge ht g hg,ht.lt g hg⟩
 |det e sz es i off b =>
  obtain⟨e',xs,rb,fa,fc,he,ho,hsz,hl,hrb,hcell,q1,q2,hex,hA,hC,oA,oC,_⟩:=hx;rcases hg with hg|hg
  .exact ZmQ ho hg
  .rw[hex]at hg;rcases Yl.1 hg with hg|hg
   .exact⟨oA.ge hA g hg,hA.lt g hg⟩
   .exact⟨oC.ge hC g hg,hC.lt g hg⟩
theorem Rel.lt(R:Rel N base ρ h w){b:Nat}(hr:ρ b=some r)(hd:gt h b≠.dead)(hg:X3 r g):base<=g/\g<w.heap.size:=by
 obtain⟨r',h1,h2⟩:=R.blk b hd;rw[hr]at h1;cases h1;exact h2.lt hd hg
def WS(ρ:Map)(h:UA)(b g:Nat):Prop:=∃r,ρ b=some r/\gt h b≠.dead/\X3 r g
theorem Z7Z(hn:∀r0,ρ n=some r0->r0.v=r.v)(hg:w.grownBy w' row)
  (hrow:∀g,row=some g->∃b,WS ρ h b g) (hblk:∀g,X3 r g->w.heap.size<=g\/∃b,WS ρ h b g) :
  Keeps ρ w (Free N ρ h) (updM ρ n r) w' (Free N (updM ρ n r) (upd h (kill ks++[(n,x)]))):=by
 constructor
 .intro b r0 hr;by_cases hb:b=n
  .subst hb;exact⟨r,by simp[updM],(hn r0 hr).symm⟩
  .exact⟨r0,by simp[updM,hb,hr],rfl⟩
 .intro g hlt hf;constructor
  .refine⟨hf.1,?_⟩;intro b rb hr hd he;rw[JO]at hd;by_cases hb:b=n
   .subst hb;simp[updM]at hr;subst hr;rcases hblk g he with h1|⟨b',r',h1,h2,h3⟩
    .omega
    .exact hf.2 b' r' h1 h2 h3
   .simp[updM,hb]at hr;simp[hb]at hd;exact hf.2 b rb hr hd.2 he
  .refine hg.block g hlt λhe=>?_
   obtain⟨b',r',h1,h2,h3⟩:=hrow g he.symm;exact hf.2 b' r' h1 h2 h3
theorem ZmR(ho:w.ownsRow base e sz v n xs)(hsame:∀g,Xm v=some g->w'.heap[g]?=w.heap[g]?):w'.ownsRow base e sz v n xs:=by
 refine⟨ho.1,?_⟩;rcases ho.2 with h0|⟨g,cap,cur,hv,hb,hh,rest⟩
 .exact .inl h0
 .exact .inr ⟨g,cap,cur,hv,hb,by rw[hsame g (by rw[hv];rfl)];exact hh,rest⟩
theorem JN.keep{F':Nat->Prop}{ρ':Map}(hx:JN N base ρ w F r x)(hk:Keeps ρ w F ρ' w' F')
  (hsame:∀g,X3 r g->w'.heap[g]?=w.heap[g]?):JN N base ρ' w' F' r x:=by
 cases x with
 |dead=>trivial
 |box cs =>
  obtain⟨h0,g,c,e,hv,hb,hh,h1,h2⟩:=hx
  exact⟨h0,g,c,e,hv,hb,by rw[hsame g (.inl (by rw[hv];rfl))];exact hh,h1.keep hk,h2⟩
 |arr e sz fr es =>
  obtain⟨h0,e',xs,he,ho,hsz,hl,ht,hf,hfr,how⟩:=hx
  exact⟨h0,e',xs,he,ZmR ho λg hg=>hsame g (.inl hg),hsz,hl,ht.frame λg hg=>(hk.free g (ht.lt g hg) (hf g hg)).2,λg hg=>(hk.free g (ht.lt g hg) (hf g hg)).1,hfr,
   λhft=>(how hft).frame ht λg hg=>(hk.free g (ht.lt g hg) (hf g hg)).2⟩
 |xarr e sz es =>
  obtain⟨e',xs,he,ho,hsz,hl,ht,how,rest⟩:=hx
  exact⟨e',xs,he,ZmR ho λg hg=>hsame g (.inl hg),hsz,hl,ht.frame λg hg=>hsame g (.inr hg),how.frame ht λg hg=>hsame g (.inr hg),rest⟩
 |det e sz es i off b =>
  obtain⟨e',xs,rb,fa,fc,he,ho,hsz,hl,hrb,hcell,h1,h2,hex,hA,hC,oA,oC,rest⟩:=hx;obtain⟨rb',hrb',hv'⟩:=hk.root b rb hrb;have hfr2:∀g∈fa,w'.heap[g]?=w.heap[g]?:=λg hg=>hsame g (.inr (by rw[hex];simp[hg]))
  have hfc2:∀g∈fc,w'.heap[g]?=w.heap[g]?:=λg hg=>hsame g (.inr (by rw[hex];simp[hg]))
  exact⟨e',xs,rb',fa,fc,he,ZmR ho λg hg=>hsame g (.inl hg),hsz,hl,hrb',by rw[hv'];exact hcell,h1,h2,hex,hA.frame hfr2,hC.frame hfc2,oA.frame hA hfr2,oC.frame hC hfc2,rest⟩
theorem ZeJ(R:Rel N base ρ h w)(hn:∀r0,ρ n=some r0->r0.v=r.v)(hg:w.grownBy w' row)
  (hrow:∀g,row=some g->∃b,(b∈ks\/b=n)/\WS ρ h b g) (hblk:∀g,X3 r g->w.heap.size<=g\/∃b,(b∈ks\/b=n)/\WS ρ h b g)
  (hB:Keeps ρ w (Free N ρ h) (updM ρ n r) w' (Free N (updM ρ n r) (upd h (kill ks++[(n,x)])))->
   JN N base (updM ρ n r) w' (Free N (updM ρ n r) (upd h (kill ks++[(n,x)]))) r x)
  (hfp:Xo x=true->∀g∈r.fp,∀d rd,d ∉ ks->d≠n->ρ d=some rd->Xo (gt h d)=true->g ∉ rd.fp) :
  Rel N base (updM ρ n r) (upd h (kill ks++[(n,x)])) w'/\Keeps ρ w (Free N ρ h) (updM ρ n r) w' (Free N (updM ρ n r) (upd h (kill ks++[(n,x)])))/\
   ∀g,g<w.heap.size->¬N.a g->w'.heap[g]?=w.heap[g]?:=by
 have hk:Keeps ρ w (Free N ρ h) (updM ρ n r) w' (Free N (updM ρ n r) (upd h (kill ks++[(n,x)]))) :=
  Z7Z hn hg (λg e=>let ⟨b,_,ho⟩:=hrow g e;⟨b,ho⟩) (λg e=>(hblk g e).imp id λ⟨b,_,ho⟩=>⟨b,ho⟩)
 have hB:=hB hk;refine⟨⟨Y1 R.hb hg.size,λg hl=>R.hN g (Y1 hg.size hl),?_,?_,?_,?_⟩,hk,?_⟩
 .intro b rb g hrb hd hgb;rw[JO]at hd;by_cases hb:b=n
  .subst hb;simp[updM]at hrb;subst hrb;rcases hblk g hgb with h1|⟨c,_,rc,h1,h2,h3⟩
   .exact R.hN g h1
   .exact R.hO c rc g h1 h2 h3
  .simp[updM,hb]at hrb;simp[hb]at hd;exact R.hO b rb g hrb hd.2 hgb
 .intro b hd;rw[JO]at hd;by_cases hb:b=n
  .subst hb;exact⟨r,by simp[updM],by rw[JO];simpa using hB⟩
  .simp[hb]at hd;obtain⟨rb,h1,h2⟩:=R.blk b hd.2;refine⟨rb,by simp[updM,hb,h1],?_⟩;rw[JO];simp only[hb,hd.1,if_false];refine h2.keep hk λg hgb=>?_
   refine hg.block g (h2.lt hd.2 hgb).2 λe=>?_
   obtain⟨b',hb',r',h1',h2',h3'⟩:=hrow g e.symm;have:=R.inj b b' rb r' g h1 h1' hd.2 h2' hgb h3'
   simp_all
 .intro b b' rb rb' g h1 h1' hd hd' hgb hgb';rw[JO]at hd hd';by_cases hb:b=n<;>by_cases hb':b'=n
  .rw[hb,hb']
  .exfalso;subst hb;simp[updM]at h1;subst h1;simp[updM,hb']at h1';simp[hb']at hd';rcases hblk g hgb with h0|⟨c,hc,rc,hc1,hc2,hc3⟩
   .have:=(R.lt h1' hd'.2 hgb').2;omega
   .have:=R.inj b' c rb' rc g h1' hc1 hd'.2 hc2 hgb' hc3
    simp_all
  .exfalso;subst hb';simp[updM]at h1';subst h1';simp[updM,hb]at h1;simp[hb]at hd;rcases hblk g hgb' with h0|⟨c,hc,rc,hc1,hc2,hc3⟩
   .have:=(R.lt h1 hd.2 hgb).2;omega
   .have:=R.inj b c rb rc g h1 hc1 hd.2 hc2 hgb hc3
    simp_all
  .simp[updM,hb]at h1;simp[updM,hb']at h1';simp[hb]at hd;simp[hb']at hd';exact R.inj b b' rb rb' g h1 h1' hd.2 hd'.2 hgb hgb'
 .intro b b' rb rb' g h1 h1' hf hf' hgb hgb';rw[JO]at hf hf';by_cases hb:b=n<;>by_cases hb':b'=n
  .rw[hb,hb']
  .exfalso;subst hb;simp[updM]at h1;subst h1;simp[updM,hb']at h1';simp only[hb',if_false]at hf';simp only[if_true]at hf;by_cases hk':b'∈ks
   .simp[hk',Xo]at hf'
   .grind
  .exfalso;subst hb';simp[updM]at h1';subst h1';simp[updM,hb]at h1;simp only[hb,if_false]at hf;simp only[if_true]at hf';by_cases hk':b∈ks
   .simp[hk',Xo]at hf
   .grind
  .simp[updM,hb]at h1;simp[updM,hb']at h1';simp only[hb,if_false]at hf;simp only[hb',if_false]at hf';by_cases hk1:b∈ks
   .simp[hk1,Xo]at hf
   .by_cases hk2:b'∈ks
    .simp[hk2,Xo]at hf'
    .simp only[hk1,if_false]at hf;simp only[hk2,if_false]at hf';exact R.apart b b' rb rb' g h1 h1' hf hf' hgb hgb'
 .intro g hl hn';refine hg.block g hl λe=>?_
  obtain⟨c,_,rc,h1,h2,h3⟩:=hrow g e.symm;exact hn' (R.hO c rc g h1 h2 h3).1
theorem UW(R:Rel N base ρ h w)(hn:∀r0,ρ n=some r0->r0.v=r.v)(hg:w.grownBy w' row)
  (hrow:∀g,row=some g->∃b,(b∈ks\/b=n)/\WS ρ h b g) (hblk:∀g,Xm r.v=some g->w.heap.size<=g\/∃b,(b∈ks\/b=n)/\WS ρ h b g)
  (hB:Keeps ρ w (Free N ρ h) (updM ρ n r) w' (Free N (updM ρ n r) (upd h (kill ks++[(n,x)])))->
   JN N base (updM ρ n r) w' (Free N (updM ρ n r) (upd h (kill ks++[(n,x)]))) r x)
  (hfp:Xo x=true->∀g∈r.fp,∀d rd,d ∉ ks->d≠n->ρ d=some rd->Xo (gt h d)=true->g ∉ rd.fp) (hx:r.ex=[]:=by rfl) :
  Rel N base (updM ρ n r) (upd h (kill ks++[(n,x)])) w'/\Keeps ρ w (Free N ρ h) (updM ρ n r) w' (Free N (updM ρ n r) (upd h (kill ks++[(n,x)])))/\
   ∀g,g<w.heap.size->¬N.a g->w'.heap[g]?=w.heap[g]? :=
 ZeJ R hn hg hrow (λg hg'=>hblk g ((Zcy hx).1 hg')) hB hfp
end
open Go.RowKit (Below)
def X8(ρ:Map)(w:World)(F:Nat->Prop)(e:Env)(tmps:Array Value):Prop:=∀s,RV ρ w F (lk s e) (tmps.getD s undef)
def OpOK(P:Program)(N:Par)(base:Nat)(ρ:Map)(h:UA)(w:World)(s:Sem Next)(v:AV)(u:List (Nat×Blk)):Prop :=
 ∃val w' ρ',((s.run P w=.ok (.value val) w')\/(s.run P w=.ok .skip w'/\val=undef))/\RV ρ' w' (Free N ρ' (upd h u)) v val/\Rel N base ρ' (upd h u) w'/\
  Keeps ρ w (Free N ρ h) ρ' w' (Free N ρ' (upd h u))/\(∀b,b ∉ u.map Prod.fst->ρ' b=ρ b)/\Below base w w'/\∀g,g<w.heap.size->¬N.a g->w'.heap[g]?=w.heap[g]?
section
variable{P:Program}{N:Par}{base:Nat}{ρ:Map}{h:UA}{w:World}{F:Nat->Prop}{e:Env}{a:Act}{v val:Value}{t:TypeId}{cs zs:V2}{nx:Nat}{x:AV}{s:Sem Next}
theorem RV.bool_inv{b:Bool}(hv:RV ρ w F (.t (.bool b)) v):v=.bool b:=by
 cases hv with|t h hf=>cases h;rfl
theorem RV.int_inv{k:IntKind}{n:Int}(hv:RV ρ w F (.t (.int k n)) v):v=.int k n:=by
 cases hv with|t h hf=>cases h;rfl
theorem RV.str_inv{s:UP}(hv:RV ρ w F (.t (.str s)) v):v=.string s:=by
 cases hv with|t h hf=>cases h;rfl
theorem RV.nil_inv(hv:RV ρ w F (.t .nil) v):v=.slice none 0 0:=by
 cases hv with|t h hf=>cases h;rfl
theorem RV.int_mk(k:IntKind)(n:Int):RV ρ w F (.t (.int k n)) (.int k n):=.t (.int k n) (by intro g hg;cases hg)
theorem RV.bool_mk(b:Bool):RV ρ w F (.t (.bool b)) (.bool b):=.t (.bool b) (by intro g hg;cases hg)
theorem RV.str_mk(s:UP):RV ρ w F (.t (.str s)) (.string s):=.t (.str s) (by intro g hg;cases hg)
theorem ZmS{x:T}(hv:valT v=some x):TR w x v []:=by
 unfold valT at hv;split at hv<;>cases hv
 .exact .int _ _
 .exact .bool _
 .exact .str _
 .exact .nil
theorem ZvW(hv:valC v=some x):RV ρ w F x v/\v.oneCell'=true:=by
 unfold valC at hv;split at hv
 .cases hv;exact⟨.nilp,rfl⟩
 .obtain⟨t,ht,rfl⟩:=Yq.1 hv;exact⟨.t (ZmS ht) (by intro g hg;cases hg),(ZmS (w:=w) ht).one⟩
theorem Qz{α β:Type}{f:α->Option β}{x:α}{xs:List α}{ys:List β}(hm:mapO f (x::xs)=some ys):∃y zs,f x=some y/\mapO f xs=some zs/\ys=y::zs:=by
 unfold mapO at hm
 grind
theorem ZmT{cs:UC}(hm:mapO valC cs=some zs):RVs ρ w F zs cs/\∀v∈cs,v.oneCell'=true:=by
 induction cs generalizing zs with
 |nil=>cases hm;exact⟨.nil,by intro v hv;cases hv⟩
 |cons c cs ih =>
  obtain⟨y,ys,h1,h2,rfl⟩:=Qz hm;obtain⟨ha,hb⟩:=ZvW (ρ:=ρ) (w:=w) (F:=F) h1;obtain⟨hc,hd⟩:=ih h2;exact⟨.cons ha hc,by intro v hv;cases hv with|head=>exact hb|tail _ hv=>exact hd v hv⟩
theorem ZmU{cs:UC}{zs:UD}(hm:mapO valT cs=some zs):TRs w zs cs []:=by
 induction cs generalizing zs with
 |nil=>cases hm;exact .nil
 |cons c cs ih =>
  obtain⟨y,ys,h1,h2,rfl⟩:=Qz hm;exact TRs.cons (ZmS h1) (ih h2)
theorem Z8a(hv:valAV v=some x):RV ρ w F x v:=by
 unfold valAV at hv;split at hv
 .rename_i cs
  cases hm:mapO valC cs.toList with
  |none=>simp[hm]at hv
  |some zs =>
   simp[hm]at hv;subst hv;obtain⟨h1,h2⟩:=ZmT (ρ:=ρ) (w:=w) (F:=F) hm;exact .agg h1 h2
 .exact(ZvW hv).1
theorem Xb(hE:X8 ρ w F e a.tmps){x:Operand}{o:Opd}(ho:opd x=some o):RV ρ w F (ev e o) (a.eval x):=by
 cases x with
 |tmp t=>simp[opd]at ho;subst ho;exact hE t
 |const v =>
  simp only[opd]at ho
  cases hv:valAV v with
  |none=>simp[hv]at ho
  |some y=>simp[hv]at ho;subst ho;exact Z8a hv
 |global g=>simp[opd]at ho
 |func f=>simp[opd]at ho;subst ho;exact .fn .nil
theorem JP(hE:X8 ρ w F e a.tmps){xs:List Operand}{os:List Opd}(hm:mapO opd xs=some os):RVs ρ w F (os.map (ev e)) (xs.map a.eval):=by
 induction xs generalizing os with
 |nil=>cases hm;exact .nil
 |cons x xs ih =>
  obtain⟨y,ys,h1,h2,rfl⟩:=Qz hm;exact .cons (Xb hE h1) (ih h2)
theorem JQ{v:AV}(hc:cellsOf v=some cs)(hv:RV ρ w F v val):RVs ρ w F cs val.cells.toList/\∀x∈val.cells.toList,x.oneCell'=true:=by
 cases hv with
 |top v=>simp[cellsOf]at hc
 |tup h=>simp[cellsOf]at hc
 |agg h h1=>simp[cellsOf]at hc;subst hc;exact⟨h,h1⟩
 |nilp=>simp[cellsOf]at hc;subst hc;exact⟨.cons .nilp .nil,by simp[Value.cells,Value.oneCell']⟩
 |t h hf =>
  simp[cellsOf]at hc;subst hc;have h1:=h.one
  have:val.cells=#[val]:=by cases val<;>first|rfl|simp[Value.oneCell']at h1
  rw[this]
  exact⟨.cons (.t h hf) .nil,by simpa using h1⟩
 |ptr hr hv=>simp[cellsOf]at hc;subst hc;exact⟨.cons (.ptr hr hv) .nil,by simp[Value.cells,Value.oneCell']⟩
 |eptr hr hv=>simp[cellsOf]at hc;subst hc;exact⟨.cons (.eptr hr hv) .nil,by simp[Value.cells,Value.oneCell']⟩
 |iptr hg hF h2 hf=>simp[cellsOf]at hc;subst hc;exact⟨.cons (.iptr hg hF h2 hf) .nil,by simp[Value.cells,Value.oneCell']⟩
 |@own b r hr h1 =>
  simp[cellsOf]at hc;subst hc
  have:r.v.cells=#[r.v]:=by cases hh:r.v<;>first|rfl|(rw[hh]at h1;simp[Value.oneCell']at h1)
  rw[this]
  exact⟨.cons (.own hr h1) .nil,by simpa using h1⟩
 |bsl hr hv=>simp[cellsOf]at hc;subst hc;exact⟨.cons (.bsl hr hv) .nil,by simp[Value.cells,Value.oneCell']⟩
 |fn h=>simp[cellsOf]at hc;subst hc;exact⟨.cons (.fn h) .nil,by simp[Value.cells,Value.oneCell']⟩
theorem OpOK.same(R:Rel N base ρ h w){v:AV}(hs:s.run P w=.ok (.value val) w)(hv:RV ρ w (Free N ρ h) v val):OpOK P N base ρ h w s v [] :=
 ⟨val,w,ρ,.inl hs,hv,R,.refl,λ_ _=>rfl,Below.refl _ _,λ_ _ _=>rfl⟩
theorem ZvX(w:World)(o:Obj):w.grownBy (w.alloc o) none:=World.grownBy_alloc w o none
theorem OpOK.newBox(R:Rel N base ρ h w)(hn:ρ nx=none){c:Array Value}
  (hs:s.run P w=.ok (.value (.pointer (some ⟨w.heap.size,0,none⟩))) (w.alloc (.cells c t))) (hc:RVs ρ w (Free N ρ h) cs c.toList) (h1:∀v∈c.toList,v.oneCell'=true) :
  OpOK P N base ρ h w s (.ptr nx 0) [(nx,.box cs)]:=by
 have hp:=UW R (n:=nx) (ks:=[]) (x:=.box cs) (r:=⟨.pointer (some ⟨w.heap.size,0,none⟩),[],[]⟩) (row:=none) (w':=w.alloc (.cells c t))
  (by intro r0 h0;rw[hn]at h0;cases h0) (ZvX w _) (by intro g hg;cases hg) (by intro g hg;simp[Xm]at hg;exact .inl (by omega))
  (λhk=>⟨rfl,w.heap.size,c,t,rfl,R.hb,heap_alloc_new w _,hc.keep hk,h1⟩) (by intro hf;cases hf)
 refine⟨_,_,updM ρ nx ⟨.pointer (some ⟨w.heap.size,0,none⟩),[],[]⟩,.inl hs,?_,hp.1,hp.2.1,?_,(Below.refl _ _).alloc R.hb _,hp.2.2⟩
 .exact .ptr (r:=⟨.pointer (some ⟨w.heap.size,0,none⟩),[],[]⟩) (by simp[updM]) rfl
 .intro b hb;simp at hb;simp[updM,hb]
theorem wz1_rel{n:Option Nat}{v:AV}{x:Value}(h:RV ρ w F v x):RV ρ w F (wz1 n v) x:=by
 unfold wz1;split
 .cases h with
  |t hT hf=>cases hT;exact .t (.lst0 _ _ _) (by intro g hg;cases hg)
 .exact h
theorem ZmV:∀{ns:List (Option Nat)} {vs:V2} {xs:UC},RVs ρ w F vs xs->RVs ρ w F (wzA ns vs) xs
 |[],_,_,h=>by unfold wzA;exact h
 |n::ns,[],_,h=>by unfold wzA;exact h
 |n::ns,v::vs,_,h=>by
  unfold wzA
  cases h with
  |cons h hs=>exact .cons (wz1_rel h) (ZmV hs)
theorem run_zero{i:TypeInfo}{z:Value}(hi:P.info? t=some i)(hz:i.zero=some z)(w:World):(zeroValue t).run P w=.ok z w:=by
 simp[zeroValue,typeInfo,hi,hz]
theorem ok_alloc(R:Rel N base ρ h w)(hn:ρ nx=none)(hz:zeroC P t=some zs) :
  OpOK P N base ρ h w (do pure (.value (<-Instr.alloc t true (.tuple #[])))) (.ptr nx 0) [(nx,.box zs)]:=by
 unfold zeroC at hz
 cases hi:P.info? t with
 |none=>simp[hi]at hz
 |some i =>
  cases hzz:i.zero with
  |none=>simp[hi,hzz]at hz
  |some z =>
   simp[hi,hzz]at hz;obtain⟨zs0,hz,rfl⟩:=hz;obtain⟨h1,h2⟩:=ZmT (ρ:=ρ) (w:=w) (F:=Free N ρ h) hz;exact .newBox R hn (c:=z.cells) (t:=t) (by simp[Instr.alloc,run_zero hi hzz,newVar,newRow]) (ZmV h1) h2
theorem ok_box(R:Rel N base ρ h w)(hn:ρ nx=none){v:AV}(hv:RV ρ w (Free N ρ h) v val)(hc:cellsOf v=some cs) :
  OpOK P N base ρ h w (do pure (.value (<-Instr.box t val))) (.ptr nx 0) [(nx,.box cs)]:=by
 obtain⟨h1,h2⟩:=JQ hc hv;exact .newBox R hn (c:=val.cells) (t:=t) (by simp[Instr.box,newVar,newRow]) h1 h2
end
open Go.RowKit (Below)
section
variable{P:Program}{N:Par}{base:Nat}{ρ:Map}{h:UA}{w:World}{F:Nat->Prop}{e:Env}{a:Act}{t te:TypeId}{g o off k sz i:Nat}{c:Array Value}{fz:Nat×Nat}{v val:Value}{fp:UB}{n:Option Nat}{cs ts:UD}{es:V5}{F':Nat->Prop}{x:AV}{xs:UC}
theorem Q0(g o j:Nat):(⟨g,o,none⟩:Addr).add j=⟨g,o+j,none⟩:=by unfold Addr.add;split<;>simp_all
theorem ZvY{n:Nat}(hg:w.heap[g]?=some (.cells c t fz)){j:Nat}(hj:((c.toList.drop o).take n)[j]?=some v) :
  w.cell? ((⟨g,o,none⟩:Addr).add j)=some v:=by
 rw[Q0,cell_of_row w g (o+j) c t fz hg]
 grind
theorem Zi8(hn:VF P t=some n)(w:World):(isAgg t).run P w=.ok n.isSome w:=by
 unfold VF at hn;split at hn
 .rename_i fs hu;cases hi:P.info? t<;>simp[hi]at hn;subst hn;simp[isAgg,run_underlying hu]
 .rename_i m el hu;cases hi:P.info? t<;>simp[hi]at hn;subst hn;simp[isAgg,run_underlying hu]
 .rename_i d h1 h2 hu;simp at hn;subst hn;simp only[isAgg,Sem.run_bind,run_underlying hu,Result.andThen_ok];simp
 .cases hn
theorem ZmW(hn:VF P t=some (some k)):∃i,P.info? t=some i/\i.size=k:=by
 unfold VF at hn;split at hn
 .simp_all
 .simp_all
 .simp at hn
 .cases hn
theorem ZmX(hn:VF P t=some none)(hg:w.heap[g]?=some (.cells c te fz))(hv:c.toList[o]?=some v) :
  (loadVar t ⟨g,o,none⟩).run P w=.ok v w:=by
 have hc:w.cell? ⟨g,o,none⟩=some v:=by rw[cell_of_row w g o c te fz hg];simpa using hv
 simp[loadVar,Zi8 hn,hc]
theorem ZvZ(hn:VF P t=some (some k))(hg:w.heap[g]?=some (.cells c te fz)){vs:UC}
  (hv:(c.toList.drop o).take k=vs) (hl:vs.length=k):(loadVar t ⟨g,o,none⟩).run P w=.ok (.agg vs.toArray) w:=by
 obtain⟨i,hi,hs⟩:=ZmW hn;have:=run_loadCells_list (P:=P) w ⟨g,o,none⟩ vs (λj v hj=>ZvY (n:=k) hg (by rw[hv];exact hj));rw[hl]at this;simp[loadVar,Zi8 hn,sizeOf,typeInfo,hi,hs,this]
theorem ZmY(hn:VF P t=some n)(hg:w.heap[g]?=some (.cells c te fz)){cs:V2}
  (hc:RVs ρ w F cs c.toList) (h1:∀v∈c.toList,v.oneCell'=true) {v:AV} (hv:VY cs o n=some v):∃val,(loadVar t ⟨g,o,none⟩).run P w=.ok val w/\RV ρ w F v val:=by
 cases n with
 |none =>
  obtain⟨val,h2,h3⟩:=hc.at hv
  grind [ZmX]
 |some k =>
  simp only[VY]at hv;split at hv
  .rename_i hle;simp at hv;subst hv;have hl:=hc.length;refine⟨_,ZvZ hn hg rfl (by simp;simp at hl;omega),.agg (by simpa using(hc.drop o).take k) ?_⟩
   grind
  .cases hv
theorem ZmZ(hn:VF P t=some n)(hg:w.heap[g]?=some (.cells c te fz))
  (hc:TRs w cs ((c.toList.drop o).take cs.length) fp) (hf:∀g∈fp,F g) {v:AV} (hv:K1 cs off n=some v):∃val,(loadVar t ⟨g,o+off,none⟩).run P w=.ok val w/\RV ρ w F v val:=by
 cases n with
 |none =>
  simp only[K1]at hv
  cases hx:cs[off]? with
  |none=>simp[hx]at hv
  |some x =>
   simp[hx]at hv;subst hv;obtain⟨val,fq,h2,h3,h4⟩:=hc.at hx;refine⟨val,ZmX hn hg ?_,.t h3 λg hg=>hf g (h4 g hg)⟩
   grind
 |some k =>
  simp only[K1]at hv;split at hv
  .rename_i hle;simp at hv;subst hv;have hl:=hc.length;simp at hl;have hR:=RVs.of_TRs (ρ:=ρ) hc hf;have e1:(c.toList.drop (o+off)).take k=((((c.toList.drop o).take cs.length).drop off).take k):=by
    grind [List.drop_take,List.drop_drop]
   refine⟨_,ZvZ hn hg e1 (by simp;omega),.agg ?_ ?_⟩
   .simpa[List.map_drop,List.map_take]using(hR.drop off).take k
   .intro v hv;exact hc.one v (Yb8 (Ybe hv))
  .cases hv
theorem RV.scalT{F:Nat->Prop}{x:T}(h:RV ρ w F (.t x) v)(hs:Xe x=true):RV ρ w F' (.t x) v:=by
 cases h with
 |t hT _ =>
  refine .t hT λg hg=>?_
  cases hT<;>first|cases hg;done|simp[Xe]at hs
theorem RVs.scalT{F F':Nat->Prop}:∀{cs:V2} {vs:UC},RVs ρ w F cs vs->cs.all (λc=>match c with|.t x=>Xe x|_=>false)=true->RVs ρ w F' cs vs
 |[],_,h,_=>by cases h;exact .nil
 |c::cs,_,h,hs=>by
  cases h with
  |cons h hs' =>
   simp only[Ybh,Yg]at hs;refine .cons ?_ (RVs.scalT hs' hs.2)
   cases c with
   |t x=>exact h.scalT hs.1
   |_=>cases hs.1
theorem RV.scal1{F:Nat->Prop}(h:RV ρ w F x v)(hs:AM.scal1 x=true):RV ρ w F' x v:=by
 cases x with
 |t x=>exact h.scalT hs
 |agg cs =>
  cases h with
  |agg hc h1=>exact .agg (hc.scalT hs) h1
 |_=>cases hs
theorem Zwa{c t:T}(h:TR w t v fp):TR w (wk1 c t) v fp:=by
 unfold wk1;split
 .cases h;exact .lst0 _ _ _
 .exact h
theorem ZaZ:∀{cs ts:UD} {vs:UC} {fp:UB},TRs w ts vs fp->TRs w (wk cs ts) vs fp
 |[],_,_,_,h=>by unfold wk;exact h
 |c::cs,[],_,_,h=>by unfold wk;exact h
 |c::cs,t::ts,_,_,h=>by
  unfold wk
  cases h with
  |cons h hs=>exact .cons (Zwa h) (ZaZ hs)
theorem wk_ow{base:Nat}:∀{cs ts:UD} {vs:UC},OWs w base ts vs->OWs w base (wk cs ts) vs
 |[],_,_,h=>by simpa[wk]using h
 |c::cs,[],_,h=>by simpa[wk]using h
 |c::cs,t::ts,_,h=>by
  cases h with
  |cons h hs =>
   refine .cons ?_ (wk_ow hs);unfold wk1;split
   .exact .lst0 _ _
   .exact h
theorem K6:∀{cs ts:UD},(wk cs ts).length=ts.length
 |[],_=>by unfold wk;rfl
 |c::cs,[]=>by unfold wk;rfl
 |c::cs,t::ts=>by unfold wk;simp[K6 (cs:=cs) (ts:=ts)]
theorem TRs.elem(hc:TRs w es.flatten xs fp)(hl:∀x∈es,x.length=sz)(hi:es[i]?=some cs) :
  ∃fq,TRs w cs ((xs.drop (i*sz)).take cs.length) fq/\∀g∈fq,g∈fp:=by
 induction es generalizing xs fp i with
 |nil=>simp at hi
 |cons x es ih =>
  rw[Y5]at hc;obtain⟨fa,fb,rfl,h1,h2⟩:=hc.split
  cases i with
  |zero =>
   grind
  |succ i =>
   obtain⟨fq,h3,h4⟩:=ih h2 (λy hy=>hl y (by simp[hy])) (by simpa using hi);refine⟨fq,?_,λg hg=>by simp[h4 g hg]⟩;rw[hl x (by simp),Ybx]at h3
   grind
theorem Vu(hl:∀x∈es,x.length=sz):es.flatten.length=es.length*sz:=by
 induction es with
 |nil=>simp
 |cons x es ih =>
  grind
theorem TRs.splice{A B C:UD}{ys:UC}{fq:UB}(hc:TRs w (A++B++C) xs fp)(ht:TRs w ts ys fq) :
  ∃fa fb fc,fp=fa++fb++fc/\TRs w (A++ts++C) (xs.take A.length++ys++xs.drop (A.length+B.length)) (fa++fq++fc):=by
 obtain⟨fab,fc,rfl,h1,h2⟩:=hc.split;obtain⟨fa,fb,rfl,h3,h4⟩:=h1.split;refine⟨fa,fb,fc,rfl,?_⟩;have e1:(xs.take (A++B).length).take A.length=xs.take A.length:=by rw[Yb2];congr 1;simp
 rw[e1]at h3;rw[Yn]at h2;exact(h3.append ht).append h2
theorem Zi9(hi:es[i]?=some cs)(hle:off+ts.length<=cs.length) :
  es.flatten=((es.take i).flatten++cs.take off)++(cs.drop off).take ts.length++(cs.drop (off+ts.length)++(es.drop (i+1)).flatten)/\
  (es.set i (setT cs off ts)).flatten=((es.take i).flatten++cs.take off)++ts++(cs.drop (off+ts.length)++(es.drop (i+1)).flatten):=by
 have hlt:i<es.length:=by
  grind
 have hsplit:es=es.take i++cs::es.drop (i+1):=by
  have:=Y2.1 hi;obtain⟨_,rfl⟩:=this;simp
 constructor
 .grind [List.flatten_append,List.flatten_cons,List.drop_drop,List.take_append_drop,List.append_assoc]
 .have:es.set i (setT cs off ts)=es.take i++setT cs off ts::es.drop (i+1):=by
   grind
  rw[this,Ybk,Y5];simp[setT,Ybo]
theorem ZiA{i:TypeInfo}(hi:P.info? t=some i)(hg:w.heap[g]?=some (.cells c te (0,0)))(hs:val.cells.size=i.size)
  (hle:o+i.size<=c.size) (h1:∀v∈val.cells.toList,v.oneCell'=true) :
  (storeVar t ⟨g,o,none⟩ val).run P w=.ok () (w.setRow g (c.toList.take o++val.cells.toList++c.toList.drop (o+i.size)).toArray):=by
 have:=run_storeCells_at P g o te val.cells.toList 0 c w hg (by simp[hs];omega) h1;simp only[Ybp,Yv,hs]at this;simp[storeVar,sizeOf,typeInfo,hi,hs,this]
theorem JR(w:World)(g:Nat)(cs:Array Value):w.grownBy (w.setRow g cs) (some g) :=
 ⟨rfl,rfl,rfl,by simp,λk _ hk=>setRow_other w g k cs λe=>hk (by rw[e])⟩
theorem Below.setRow{w:World}{base:Nat}(hg:base<=g)(cs:Array Value):Below base w (w.setRow g cs) :=
 ⟨rfl,rfl,rfl,by simp,λk hk=>setRow_other w g k cs (by omega)⟩
theorem Z8b(R:Rel N base ρ h w){b:Nat}{cs:V2}(hb:gt h b=.box cs){v:AV}{vs:V2}{px:Value}(hx:x=.ptr b off)(hpx:RV ρ w (Free N ρ h) x px)
  (hc:cellsOf v=some vs) (hv:RV ρ w (Free N ρ h) v val) {i:TypeInfo} (hi:P.info? t=some i) (hl:vs.length=i.size) (hle:off+i.size<=cs.length) :
  OpOK P N base ρ h w (do Instr.storeAt t px val;pure .skip) .top [(b,.box (setCells cs off vs))]:=by
 subst hx
 cases hpx with
 |@ptr _ _ g r hr hrv =>
  have hd:gt h b≠.dead:=by rw[hb];intro hc;cases hc
  obtain⟨r',h1,h2⟩:=R.blk b hd;rw[hr]at h1;cases h1;rw[hb]at h2;obtain⟨hx0,g',c,te,hv',hbase,hh,hcs,hone⟩:=h2;rw[hrv]at hv';cases hv';obtain⟨hvs,hone'⟩:=JQ hc hv;have hcl:=hcs.length;have hvl:=hvs.length;simp only[Yv]at hcl hvl;have hrun:=ZiA (P:=P) hi hh (o:=off) (val:=val) (by omega) (by omega) hone';have hnew:RVs ρ w (Free N ρ h) (setCells cs off vs) (c.toList.take off++val.cells.toList++c.toList.drop (off+i.size)):=by
   rw[setCells,hl];exact((hcs.take off).append hvs).append (hcs.drop _)
  have hp:=UW R (n:=b) (ks:=[]) (x:=.box (setCells cs off vs)) (r:=r) (row:=some g) (w':=w.setRow g (c.toList.take off++val.cells.toList++c.toList.drop (off+i.size)).toArray)
   (by intro r0 h0;rw[hr]at h0;cases h0;rfl) (JR w g _)
   (by intro g' hg';cases hg';exact⟨b,.inr rfl,r,hr,hd,.inl (by rw[hrv];rfl)⟩)
   (by intro g' hg';exact .inr ⟨b,.inr rfl,r,hr,hd,.inl hg'⟩)
   (λhk=>⟨hx0,g,_,te,hrv,hbase,setRow_heap w g c _ te _ hh,hnew.keep hk,by
    intro x hx;change x∈c.toList.take off++val.cells.toList++c.toList.drop (off+i.size)at hx;rcases Yl.1 hx with hx|hx
    .rcases Yl.1 hx with hx|hx
     .exact hone x (Ybe hx)
     .exact hone' x hx
    .exact hone x (Yb8 hx)⟩)
   (by intro hf;cases hf) hx0
  refine⟨undef,_,updM ρ b r,.inr ⟨by simp[Instr.storeAt,Instr.sureAddr,hrun],rfl⟩,.top _,hp.1,hp.2.1,?_,Below.setRow hbase _,hp.2.2⟩;intro b' hb';simp at hb';simp[updM,hb']
end
open Go.RowKit (Below)
section
variable{P:Program}{N:Par}{base:Nat}{ρ:Map}{h:UA}{w w':World}{F:Nat->Prop}{e:Env}{a:Act}{ks fp ks':UB}{f fr:Bool}{r:Root}{b el sz off:Nat}{vs cs:V2}{ts xs:UD}{es:V5}{v:AV}{val px:Value}{x:Blk}{t:TypeId}
theorem Zcz{l:UB}:Vq l=true↔l.Nodup:=by
 induction l with
 |nil=>simp[Vq]
 |cons x l ih=>simp[Vq,ih]
structure Took (N:Par) (base:Nat) (ρ:Map) (h:UA) (ks:UB) (fp:UB) (f:Bool):Prop where
 free:∀g∈fp,Free N ρ h g\/∃k∈ks,WS ρ h k g
 fresh:f=true->∀g∈fp,N.f g/\∃k∈ks,∃r,ρ k=some r/\((gt h k≠.dead/\X3 r g)\/(Xo (gt h k)=true/\g∈r.fp))
 nodup:f=true->ks.Nodup->fp.Nodup
theorem K7(hx:Xo x=true):x≠.dead:=by intro hc;rw[hc]at hx;cases hx
theorem Rel.free_fp(R:Rel N base ρ h w){k:Nat}(hr:ρ k=some r)(hf:Xo (gt h k)=true):∀g∈r.fp,Free N ρ h g:=by
 obtain⟨r',h1,h2⟩:=R.blk k (K7 hf);rw[hr]at h1;cases h1
 cases hx:gt h k with
 |dead=>rw[hx]at hf;cases hf
 |box cs=>rw[hx]at hf;cases hf
 |arr e sz fr es =>
  rw[hx]at h2;obtain⟨_,_,xs,_,_,_,_,_,h6,_⟩:=h2
  exact h6
 |xarr e sz es=>rw[hx]at hf;cases hf
 |det e sz es i off b=>rw[hx]at hf;cases hf
theorem Took.nil(f:Bool):Took N base ρ h [] [] f:=⟨(by intro g hg;cases hg),(by intro _ g hg;cases hg),λ_ _=>Ybf⟩
theorem Took.append(R:Rel N base ρ h w){ls fq:UB}{g:Bool}(A:Took N base ρ h ks fp f)(B:Took N base ρ h ls fq g):Took N base ρ h (ks++ls) (fp++fq) (f && g):=by
 refine⟨?_,?_,?_⟩
 .intro x hx;rcases Yl.1 hx with hx|hx
  .exact(A.free x hx).imp id λ⟨k,hk,ho⟩=>⟨k,by simp[hk],ho⟩
  .exact(B.free x hx).imp id λ⟨k,hk,ho⟩=>⟨k,by simp[hk],ho⟩
 .intro hf x hx;simp only[Yg]at hf;rcases Yl.1 hx with hx|hx
  .obtain⟨h1,k,hk,h2⟩:=A.fresh hf.1 x hx;exact⟨h1,k,by simp[hk],h2⟩
  .obtain⟨h1,k,hk,h2⟩:=B.fresh hf.2 x hx;exact⟨h1,k,by simp[hk],h2⟩
 .intro hf hn;simp only[Yg]at hf;rw[Ybg]at hn|-;refine⟨A.nodup hf.1 hn.1,B.nodup hf.2 hn.2.1,?_⟩;intro x hx y hy hxy;subst hxy;obtain⟨_,k,hk,r,h1,h3⟩:=A.fresh hf.1 x hx;obtain⟨_,l,hl,s,h4,h6⟩:=B.fresh hf.2 x hy;refine hn.2.2 k hk l hl ?_;rcases h3 with⟨h2,h3⟩|⟨h2,h3⟩<;>rcases h6 with⟨h5,h6⟩|⟨h5,h6⟩
  .exact R.inj k l r s x h1 h4 h2 h5 h3 h6
  .exact absurd h3 ((R.free_fp h4 h5 x h6).2 k r h1 h2)
  .exact absurd h6 ((R.free_fp h1 h2 x h3).2 l s h4 h5)
  .exact R.apart k l r s x h1 h4 h2 h5 h3 h6
theorem ZeK(R:Rel N base ρ h w)(hr:ρ b=some r)(hb:gt h b=.arr el sz fr es) :
  ∃fp,TR w (.lst sz es) r.v fp/\Took N base ρ h [b] fp fr/\(∀g∈fp,Xm r.v=some g\/g∈r.fp)/\(fr=true->OW w base (.lst sz es) r.v):=by
 have hd:gt h b≠.dead:=by rw[hb];intro hc;cases hc
 obtain⟨r',h1,h2⟩:=R.blk b hd;rw[hr]at h1;cases h1;have h2':=h2;rw[hb]at h2;obtain⟨hex,e',xs,he',ho,hsz,hl,ht,hf,hfr,how⟩:=h2;by_cases hne:es=[]
 .subst hne;refine⟨[],?_,⟨(by intro g hg;cases hg),(by intro _ g hg;cases hg),λ_ _=>Ybf⟩,(by intro g hg;cases hg),λ_=>.lst0 _ _⟩;rcases ho.2 with⟨hv,_⟩|⟨g,cap,cur,hv,_⟩
  .rw[hv];exact .lst0 _ _ _
  .rw[hv];exact .lst0 _ _ _
 .rcases ho.2 with⟨hv,hz⟩|⟨g,cap,cur,hv,hbg,hg,hcap,_,hcs,htake⟩
  .simp_all
  .have hblk:Xm r.v=some g:=by rw[hv];rfl
   refine⟨g::r.fp,?_,⟨?_,?_,?_⟩,?_,λhft=>.lst ho (how hft)⟩
   .rw[hv];refine .lst hne hsz hcap hg hl ?_
    simp_all
   .intro x hx
    cases hx with
    |head=>exact .inr ⟨b,by simp,r,hr,hd,.inl hblk⟩
    |tail _ hx=>exact .inl (hf x hx)
   .intro hft x hx
    cases hx with
    |head=>exact⟨(R.hO b r g hr hd (.inl hblk)).2,b,by simp,r,hr,.inl ⟨hd,.inl hblk⟩⟩
    |tail _ hx=>exact⟨(hfr hft).2 x hx,b,by simp,r,hr,.inr ⟨by rw[hb];exact hft,hx⟩⟩
   .intro hft _;refine Ycy.2 ⟨λhx=>?_,(hfr hft).1⟩;exact(hf g hx).2 b r hr hd (.inl hblk)
   .simp_all
theorem flatX_TR(R:Rel N base ρ h w)(hr:ρ b=some r)(hb:gt h b=.xarr el sz es)(hs:es.flatten.all Xe=true) :
  ∃fp,TR w (.lst sz es) r.v fp/\Took N base ρ h [b] fp true/\OW w base (.lst sz es) r.v:=by
 have hd:gt h b≠.dead:=by rw[hb];intro hc;cases hc
 obtain⟨r',h1,h2⟩:=R.blk b hd;rw[hr]at h1;cases h1;rw[hb]at h2;obtain⟨e',xs,_,ho,hsz,hl,ht,how,_⟩:=h2;have hx:=ht.flat hs;rw[hx]at ht;by_cases hz:es=[]
 .subst hz;refine⟨[],?_,⟨(by intro g hg;cases hg),(by intro _ g hg;cases hg),λ_ _=>Ybf⟩,.lst0 _ _⟩;rcases ho.2 with⟨hv,_⟩|⟨g,cap,cur,hv,_⟩<;>rw[hv]<;>exact .lst0 _ _ _
 .rcases ho.2 with⟨_,hz'⟩|⟨g,cap,cur,hv,hbg,hg,hcap,_,hcs',htake⟩
  .simp_all
  .have hblk:Xm r.v=some g:=by rw[hv];rfl
   refine⟨[g],?_,⟨?_,?_,?_⟩,.lst ho how⟩
   .rw[hv];refine .lst hz hsz hcap hg hl ?_
    simp_all
   .intro x hx;obtain rfl:x=g:=by simpa using hx
    exact .inr ⟨b,by simp,r,hr,hd,.inl hblk⟩
   .intro _ x hx;obtain rfl:x=g:=by simpa using hx
    exact⟨(R.hO b r x hr hd (.inl hblk)).2,b,by simp,r,hr,.inl ⟨hd,.inl hblk⟩⟩
   .simp
theorem toT_rel(R:Rel N base ρ h w){x:T}(ht:toT h v=some (x,f,ks))(hv:RV ρ w (Free N ρ h) v val) :
  ∃fp,TR w x val fp/\Took N base ρ h ks fp f/\(f=true->OW w base x val):=by
 cases hv with
 |t hT hf =>
  simp[toT]at ht;obtain⟨rfl,rfl,rfl⟩:=ht;refine⟨_,hT,⟨λg hg=>.inl (hf g hg),λhs=>?_,λhs _=>?_⟩,λhs=>.sc _ hs⟩
  .cases hT<;>first|(intro g hg;cases hg;done)|simp[Xe]at hs
  .cases hT<;>first|exact Ybf|simp[Xe]at hs
 |@own b r hr h1 =>
  simp only[toT]at ht;split at ht
  .grind [ZeK]
  .rename_i el sz es hb;split at ht
   .rename_i hs;cases ht;obtain⟨fp,h2,h3,h4⟩:=flatX_TR R hr hb hs;exact⟨fp,by simpa using h2,h3,λ_=>by simpa using h4⟩
   .cases ht
  .cases ht
 |_=>simp[toT]at ht
theorem ZiB(R:Rel N base ρ h w){vals:UC}(ht:toTs h vs=some (xs,f,ks))(hv:RVs ρ w (Free N ρ h) vs vals) :
  ∃fp,TRs w xs vals fp/\Took N base ρ h ks fp f/\(f=true->OWs w base xs vals):=by
 induction vs generalizing xs f ks vals with
 |nil=>simp[toTs]at ht;obtain⟨rfl,rfl,rfl⟩:=ht;cases hv;exact⟨[],.nil,.nil _,λ_=>.nil⟩
 |cons v vs ih =>
  cases hv with
  |cons hv hvs =>
   simp only[toTs]at ht;split at ht
   .rename_i x f1 k1 xs1 f2 k2 h1 h2;simp at ht;obtain⟨rfl,rfl,rfl⟩:=ht;obtain⟨fp,h3,h4,h7⟩:=toT_rel R h1 hv;obtain⟨fq,h5,h6,h8⟩:=ih h2 hvs;refine⟨fp++fq,.cons h3 h5,h4.append R h6,λhf=>?_⟩;simp only[Yg]at hf;exact .cons (h7 hf.1) (h8 hf.2)
   .cases ht
theorem ZiC(ht:toTs h vs=some (xs,f,ks)):xs.length=vs.length:=by
 induction vs generalizing xs f ks with
 |nil=>simp[toTs]at ht;obtain⟨rfl,_⟩:=ht;rfl
 |cons v vs ih =>
  simp only[toTs]at ht
  grind
theorem Zna(R:Rel N base ρ h w)(A:Took N base ρ h ks fp f){n:Nat}{row:Option Nat}
  (hk:Keeps ρ w (Free N ρ h) (updM ρ n r) w' (Free N (updM ρ n r) (upd h (kill ks'++[(n,x)])))) (hg:w.grownBy w' row) (hsub:∀k∈ks,k∈ks')
  (hrow:∀g k,k∈ks->WS ρ h k g->row≠some g/\¬X3 r g) (hlt:∀g∈fp,g<w.heap.size) :
  ∀g∈fp,Free N (updM ρ n r) (upd h (kill ks'++[(n,x)])) g/\w'.heap[g]?=w.heap[g]?:=by
 intro g hgf;rcases A.free g hgf with h1|⟨k,hks,ho⟩
 .exact hk.free g (hlt g hgf) h1
 .obtain⟨h2,h3⟩:=hrow g k hks ho;refine⟨⟨?_,?_⟩,hg.block g (hlt g hgf) (λe=>h2 e.symm)⟩
  .obtain⟨rk,hk1,hk2,hk3⟩:=ho;exact(R.hO _ rk g hk1 hk2 hk3).1
  intro b rb hrb hd he;rw[JO]at hd;by_cases hb:b=n
  .subst hb;simp[updM]at hrb;subst hrb;exact h3 he
  .simp[updM,hb]at hrb;simp[hb]at hd;obtain⟨rk,hk1,hk2,hk3⟩:=ho;have:=R.inj b k rb rk g hrb hk1 hd.2 hk2 he hk3
   simp_all
theorem Zwb(R:Rel N base ρ h w)(A:Took N base ρ h ks fp f)(hf:f=true)(hsub:∀k∈ks,k∈ks'){g d:Nat}{rd:Root}(hg:g∈fp)(hd:d ∉ ks')
  (hr:ρ d=some rd) (hfd:Xo (gt h d)=true):g ∉ rd.fp:=by
 intro hgd;obtain⟨_,k,hk,r,h1,h3⟩:=A.fresh hf g hg;rcases h3 with⟨h2,h3⟩|⟨h2,h3⟩
 .exact(R.free_fp hr hfd g hgd).2 k r h1 h2 h3
 .exact hd (R.apart k d r rd g h1 hr h2 hfd h3 hgd▸hsub k hk)
theorem Z8c(R:Rel N base ρ h w){i sz':Nat}(hb:gt h b=.arr el sz fr es){cs:UD}(hi:es[i]?=some cs)
  (hpx:RV ρ w (Free N ρ h) (.eptr b i sz' off) px) (hsz':sz'=sz) (hc:cellsOf v=some vs) (hv:RV ρ w (Free N ρ h) v val) (ht:toTs h vs=some (ts,f,ks)) {inf:TypeInfo} (hinf:P.info? t=some inf) (hl:vs.length=inf.size) (hle:off+inf.size<=cs.length) (hnd:Vq (b::ks)=true) :
  OpOK P N base ρ h w (do Instr.storeAt t px val;pure .skip) .top (kill ks++[(b,.arr el sz (fr && f) (es.set i (setT cs off (wk (cs.drop off) ts))))]):=by
 subst hsz';rw[Zcz,Ycy]at hnd;have hd:gt h b≠.dead:=by rw[hb];intro hc;cases hc
 obtain⟨r,hr,hB⟩:=R.blk b hd;rw[hb]at hB;obtain⟨hex,el',xs,hel,ho,hsz,hlen,htr,hfree,hfr,how⟩:=hB
 cases hpx with
 |@eptr _ _ _ _ g n cap r2 hr2 hrv =>
  rw[hr]at hr2;cases hr2;rcases ho.2 with⟨hv0,hz⟩|⟨g',cap',cur,hv',hbg,hg,hcap,hcm,hcs,htake⟩
  .rw[hrv]at hv0;cases hv0
  .rw[hrv]at hv';cases hv';obtain⟨hvs,hone⟩:=JQ hc hv;obtain⟨fq,htq,hT,hto⟩:=ZiB R ht hvs;have htl:=ZiC ht;have hwl:(wk (cs.drop off) ts).length=ts.length:=K6;replace htq:=ZaZ (cs:=cs.drop off) htq;replace hto:=λhf=>wk_ow (cs:=cs.drop off) (hto hf)
   have hvl:=hvs.length;simp only[Yv]at hvl;have hcsl:cs.length=sz':=hlen cs (Y6 hi);have hilt:i<es.length:=(Y2.1 hi).1;have hmul:i*sz'+sz'<=es.length*sz':=by
    have:=Ybd sz' (show i+1<=es.length from hilt)
    rwa [Ybu,Yca]at this
   have hmul2:es.length*sz'<=cap*sz':=Ybd _ hcap;have hblk:Xm r.v=some g:=by rw[hrv];rfl
   have hrun:=ZiA (P:=P) hinf hg (o:=i*sz'+off) (val:=val) (by omega) (by omega) hone;have hfl:=Zi9 (ts:=wk (cs.drop off) ts) (off:=off) hi (by omega);rw[hfl.1]at htr how;obtain⟨fa,fb,fc,hfp,hnew⟩:=htr.splice htq;rw[<-hfl.2]at hnew;have hnewo:(fr && f)=true->_:=λhff=>by
    simp only[Yg]at hff;have:=(how hff.1).splice (hto hff.2);rw[<-hfl.2]at this;exact this
   have hAl:((es.take i).flatten++cs.take off).length=i*sz'+off:=by
    rw[Yn,Vu λx hx=>hlen x (Ybe hx)];simp;rw[Yba (by omega),Yba (by omega)]
   have hBl:((cs.drop off).take (wk (cs.drop off) ts).length).length=inf.size:=by simp;omega
   rw[hAl,hBl]at hnew hnewo;have hxl:xs.length=es.length*sz':=ho.1;have hlt1:=htr.lt;have hlt2:=htq.lt;have hgx:∀g∈fa++fq++fc,g∈r.fp\/g∈fq:=by
    intro x hx;simp only[Yl]at hx;rcases hx with(hx|hx)|hx
    .exact .inl (by rw[hfp];simp[hx])
    .exact .inr hx
    .exact .inl (by rw[hfp];simp[hx])
   have hset:∀x∈es.set i (setT cs off (wk (cs.drop off) ts)),x.length=sz':=by
    intro x hx;rcases Ydc hx with hx|hx
    .exact hlen x hx
    .subst hx;simp[setT];omega
   have hp:=UW R (n:=b) (ks:=ks) (x:=.arr el sz' (fr && f) (es.set i (setT cs off (wk (cs.drop off) ts)))) (r:=⟨r.v,fa++fq++fc,[]⟩) (row:=some g)
    (w':=w.setRow g (cur.toList.take (i*sz'+off)++val.cells.toList++cur.toList.drop (i*sz'+off+inf.size)).toArray)
    (by intro r0 h0;rw[hr]at h0;cases h0;rfl) (JR w g _)
    (by intro g' hg';cases hg';exact⟨b,.inr rfl,r,hr,hd,.inl hblk⟩)
    (by intro g' hg';exact .inr ⟨b,.inr rfl,r,hr,hd,.inl hg'⟩)
    (λhk=>by
     have hta:=Zna R hT hk (JR w g _) (λk hk=>hk) (by
      intro g' k hk' ho';have hne:g'≠g:=by
       intro he;subst he;obtain⟨rk,h1,h2,h3⟩:=ho';exact hnd.1 (R.inj b k r rk g' hr h1 hd h2 (.inl hblk) h3▸hk')
      exact⟨λhe=>hne (by cases he;rfl),λhe=>hne (by rw[Zcy rfl]at he;rw[hblk]at he;cases he;rfl)⟩) hlt2
     have hall:∀g'∈fa++fq++fc,Free N (updM ρ b ⟨r.v,fa++fq++fc,[]⟩) (upd h (kill ks++[(b,.arr el sz' (fr && f) (es.set i (setT cs off (wk (cs.drop off) ts))))])) g'/\
       (w.setRow g (cur.toList.take (i*sz'+off)++val.cells.toList++cur.toList.drop (i*sz'+off+inf.size)).toArray).heap[g']?=w.heap[g']?:=by
      intro g' hg';rcases hgx g' hg' with h1|h1
      .exact hk.free g' (hlt1 g' h1) (hfree g' h1)
      .exact hta g' h1
     refine⟨rfl,el',xs.take (i*sz'+off)++val.cells.toList++xs.drop (i*sz'+off+inf.size),hel,⟨?_,.inr ⟨g,cap,_,hrv▸(by simp),hbg,setRow_heap w g cur _ el' _ hg,by simpa using hcap,hcm,?_,?_⟩⟩,hsz,hset,?_,λg' hg'=>(hall g' hg').1,?_,λhff=>(hnewo hff).frame hnew λg' hg'=>(hall g' hg').2⟩
     .simp only[Yn,Yt,Ybj,Yv,Ycf];omega
     .simp only[Ycr,Yn,Yt,Ybj,Yv];omega
     .rw[<-htake];simp only[Ycf];have e1:(cur.toList.take (es.length*sz')).take (i*sz'+off)=cur.toList.take (i*sz'+off):=by rw[Yb2];congr 1;omega
      rw[e1];have hl1:(cur.toList.take (i*sz'+off)++val.cells.toList).length=i*sz'+off+inf.size:=by simp;omega
      rw[List.take_append,hl1,Yb3 (by omega),Yce]
     .exact hnew.frame λg' hg'=>(hall g' hg').2
     .intro hfrf;simp only[Yg]at hfrf;have h1:=(hfr hfrf.1);have h2:=hT.nodup hfrf.2 hnd.2;constructor
      .rw[hfp]at h1;have h3:=h1.1;have hdis:∀x,x∈fq->x ∉ r.fp:=by
        intro x hx hx';obtain⟨_,k,hk',rk,h4,h6⟩:=hT.fresh hfrf.2 x hx;have hfb:Xo (gt h b)=true:=by rw[hb];exact hfrf.1
        rcases h6 with⟨h5,h6⟩|⟨h5,h6⟩
        .exact(R.free_fp hr hfb x hx').2 k rk h4 h5 h6
        .exact hnd.1 (R.apart b k r rk x hr h4 hfb h5 hx' h6▸hk')
       rw[hfp]at hdis;rw[Ybg,Ybg]at h3|-;refine⟨⟨h3.1.1,h2,?_⟩,h3.2.1,?_⟩
       .intro x hx y hy hxy;subst hxy;exact hdis x hy (by simp[hx])
       .intro x hx y hy hxy;subst hxy;rcases Yl.1 hx with hx|hx
        .exact h3.2.2 x (by simp[hx]) x hy rfl
        .exact hdis x hx (by simp[hy])
      .intro x hx;rcases hgx x hx with hx|hx
       .exact h1.2 x hx
       .exact(hT.fresh hfrf.2 x hx).1)
    (by
     intro hff x hx d rd hdk hdn hrd hfd;simp only[Xo,Yg]at hff;rcases hgx x hx with hx|hx
     .intro hx';exact hdn (R.apart b d r rd x hr hrd (by rw[hb];exact hff.1) hfd hx hx'▸rfl)
     .exact Zwb R hT hff.2 (λk hk=>hk) hx hdk hrd hfd)
   refine⟨undef,_,updM ρ b ⟨r.v,fa++fq++fc,[]⟩,.inr ⟨by simp[Instr.storeAt,Instr.sureAddr,hrun],rfl⟩,.top _,hp.1,hp.2.1,?_,Below.setRow hbg _,hp.2.2⟩;intro b' hb';simp at hb';simp[updM,hb'.2]
theorem wkA_rel{vs:UC}(h:TRs w ts vs fp)(hf:∀g∈fp,F g):RVs ρ w F (wkA cs ts) vs:=by
 induction ts generalizing cs vs fp with
 |nil=>cases h;cases cs with
  |nil=>exact .nil
  |cons c cs=>cases c<;>exact .nil
 |cons t ts ih =>
  cases h with
  |cons h hs =>
   have h1:∀c,RV ρ w F (.t (wk1 c t)) _:=λc=>.t (Zwa h) λg hg=>hf g (by simp[hg])
   have h2:RV ρ w F (.t t) _:=.t h λg hg=>hf g (by simp[hg])
   have h3:=λcs=>ih (cs:=cs) hs λg hg=>hf g (by simp[hg])
   cases cs with
   |nil =>
    have h4:=h3 [];unfold wkA at h4|-
    exact .cons h2 h4
   |cons c cs =>
    cases c<;>unfold wkA<;>first|exact .cons h2 (h3 cs)|exact .cons (h1 _) (h3 cs)
theorem wkA_len:(wkA cs ts).length=ts.length:=by
 induction ts generalizing cs with
 |nil=>cases cs with
  |nil=>rfl
  |cons c cs=>cases c<;>rfl
 |cons t ts ih =>
  cases cs with
  |nil=>simp[wkA]
  |cons c cs=>cases c<;>simp[wkA,ih]
theorem Z8d(R:Rel N base ρ h w)(hb:gt h b=.box cs)(hpx:RV ρ w (Free N ρ h) (.ptr b off) px)
  (hc:cellsOf v=some vs) (hv:RV ρ w (Free N ρ h) v val) (ht:toTs h vs=some (ts,f,ks)) {i:TypeInfo} (hi:P.info? t=some i) (hl:vs.length=i.size) (hle:off+i.size<=cs.length) (hnd:Vq (b::ks)=true) :
  OpOK P N base ρ h w (do Instr.storeAt t px val;pure .skip) .top (kill ks++[(b,.box (setCells cs off (wkA (cs.drop off) ts)))]):=by
 rw[Zcz,Ycy]at hnd
 cases hpx with
 |@ptr _ _ g r hr hrv =>
  have hd:gt h b≠.dead:=by rw[hb];intro hc;cases hc
  obtain⟨r',h1,h2⟩:=R.blk b hd;rw[hr]at h1;cases h1;rw[hb]at h2;obtain⟨hx0,g',c,te,hv',hbase,hh,hcs,hone⟩:=h2;rw[hrv]at hv';cases hv';obtain⟨hvs,hone'⟩:=JQ hc hv;obtain⟨fq,htq,hT,-⟩:=ZiB R ht hvs;have htl:=ZiC ht;have hcl:=hcs.length;have hvl:=hvs.length;simp only[Yv]at hcl hvl;have hblk:Xm r.v=some g:=by rw[hrv];rfl
  have hlt2:=htq.lt;have hrun:=ZiA (P:=P) hi hh (o:=off) (val:=val) (by omega) (by omega) hone';have hwl:(wkA (cs.drop off) ts).length=i.size:=by rw[wkA_len];omega
  have hp:=UW R (n:=b) (ks:=ks) (x:=.box (setCells cs off (wkA (cs.drop off) ts))) (r:=r) (row:=some g) (w':=w.setRow g (c.toList.take off++val.cells.toList++c.toList.drop (off+i.size)).toArray)
   (by intro r0 h0;rw[hr]at h0;cases h0;rfl) (JR w g _)
   (by intro g' hg';cases hg';exact⟨b,.inr rfl,r,hr,hd,.inl hblk⟩)
   (by intro g' hg';exact .inr ⟨b,.inr rfl,r,hr,hd,.inl hg'⟩)
   (λhk=>by
    have hta:=Zna R hT hk (JR w g _) (λk hk=>hk) (by
     intro g' k hk' ho';have hne:g'≠g:=by
      intro he;subst he;obtain⟨rk,h1,h2,h3⟩:=ho';exact hnd.1 (R.inj b k r rk g' hr h1 hd h2 (.inl hblk) h3▸hk')
     exact⟨λhe=>hne (by cases he;rfl),λhe=>hne (by rw[Zcy hx0]at he;rw[hblk]at he;cases he;rfl)⟩) hlt2
    have hnew:RVs (updM ρ b r) (w.setRow g (c.toList.take off++val.cells.toList++c.toList.drop (off+i.size)).toArray) (Free N (updM ρ b r) (upd h (kill ks++[(b,.box (setCells cs off (wkA (cs.drop off) ts)))])))
      (setCells cs off (wkA (cs.drop off) ts)) (c.toList.take off++val.cells.toList++c.toList.drop (off+i.size)):=by
     have e:setCells cs off (wkA (cs.drop off) ts)=cs.take off++wkA (cs.drop off) ts++cs.drop (off+i.size):=by rw[setCells,hwl]
     have hh2:=(((hcs.take off).keep hk).append (wkA_rel (cs:=cs.drop off) (htq.frame λg' hg'=>(hta g' hg').2) λg' hg'=>(hta g' hg').1)).append ((hcs.drop (off+i.size)).keep hk);rw[<-e]at hh2;exact hh2
    exact⟨hx0,g,_,te,hrv,hbase,setRow_heap w g c _ te _ hh,hnew,by
     intro x hx;change x∈c.toList.take off++val.cells.toList++c.toList.drop (off+i.size)at hx;rcases Yl.1 hx with hx|hx
     .rcases Yl.1 hx with hx|hx
      .exact hone x (Ybe hx)
      .exact hone' x hx
     .exact hone x (Yb8 hx)⟩)
   (by intro hf;cases hf) hx0
  refine⟨undef,_,updM ρ b r,.inr ⟨by simp[Instr.storeAt,Instr.sureAddr,hrun],rfl⟩,.top _,hp.1,hp.2.1,?_,Below.setRow hbase _,hp.2.2⟩;intro b' hb';simp at hb';simp[updM,hb'.2]
end
open Go.RowKit (Below)
section
variable{P:Program}{N:Par}{base:Nat}{ρ:Map}{h:UA}{w w':World}{F:Nat->Prop}{e:Env}{a:Act}{sz el n:Nat}{v:Value}{xs:UC}{f:Bool}{ks:UB}{t ty:TypeId}{i:TypeInfo}
theorem ZiD(ho:w.ownsRow base el sz v n xs):v.oneCell'=true:=by
 rcases ho.2 with⟨hv,_⟩|⟨g,cap,cur,hv,_⟩<;>rw[hv]<;>rfl
theorem ZeL(R:Rel N base ρ h w){nx:Nat}(hn:ρ nx=none){s:Sem Next}{vv:Value}(hs:s.run P w=.ok (.value vv) w'){row:Option Nat}(hg:w.grownBy w' row)(hsz:0<sz){es1 es2:V5}{xs1 xs2:UC}{fp1 fp2:UB}{fr1:Bool}{kd:UB}
  (hown:w'.ownsRow base el sz vv (es1.length+es2.length) (xs1++xs2)) (hl1:∀x∈es1,x.length=sz) (hl2:∀x∈es2,x.length=sz)
  (ht1:TRs w es1.flatten xs1 fp1) (ht2:TRs w es2.flatten xs2 fp2) (hT:Took N base ρ h ks fp2 f) (hnd:ks.Nodup)
  (hD1:∀g∈fp1,Free N ρ h g) (hD2:fr1=true->fp1.Nodup/\∀g∈fp1,N.f g)
  (hD3:fr1=true->∀g∈fp1,∀d rd,d ∉ kd++ks->ρ d=some rd->Xo (gt h d)=true->g ∉ rd.fp)
  (hD4:fr1=true->∀g∈fp1,∀k∈ks,∀rk,ρ k=some rk->Xo (gt h k)=true->g ∉ rk.fp)
  (hrow:∀g,row=some g->∃b∈kd,WS ρ h b g) (hblk:∀g,Xm vv=some g->w.heap.size<=g\/∃b∈kd,WS ρ h b g)
  (hap:∀g k,k∈ks->WS ρ h k g->¬∃b∈kd,WS ρ h b g)
  (hW1:fr1=true->OWs w base es1.flatten xs1) (hW2:f=true->OWs w base es2.flatten xs2) {lb:Nat} (hlb:lb=unk\/el=lb) :
  OpOK P N base ρ h w s (.own nx) (kill (kd++ks)++[(nx,.arr lb sz (fr1 && f) (es1++es2))]):=by
 have hlt1:=ht1.lt;have hlt2:=ht2.lt;have hp:=UW R (n:=nx) (ks:=kd++ks) (x:=.arr lb sz (fr1 && f) (es1++es2)) (r:=⟨vv,fp1++fp2,[]⟩) (row:=row) (w':=w')
  (by intro r0 h0;rw[hn]at h0;cases h0) hg
  (by intro g hg';obtain⟨b,hb,ho⟩:=hrow g hg';exact⟨b,.inl (by simp[hb]),ho⟩)
  (by intro g hg';exact(hblk g hg').imp id λ⟨b,hb,ho⟩=>⟨b,.inl (by simp[hb]),ho⟩)
  (λhk=>by
   have hta:=Zna R hT hk hg (λk hk=>by simp[hk]) (by
    intro g k hk' ho;refine⟨λhe=>hap g k hk' ho (hrow g he),λhe=>?_⟩;rw[Zcy rfl]at he;rcases hblk g he with h1|h1
    .obtain⟨rk,h2,h3,h4⟩:=ho;have:=(R.lt h2 h3 h4).2;omega
    .exact hap g k hk' ho h1) hlt2
   have hall:∀g∈fp1++fp2,Free N (updM ρ nx ⟨vv,fp1++fp2,[]⟩) (upd h (kill (kd++ks)++[(nx,.arr lb sz (fr1 && f) (es1++es2))])) g/\w'.heap[g]?=w.heap[g]?:=by
    intro g hg';rcases Yl.1 hg' with h1|h1
    .exact hk.free g (hlt1 g h1) (hD1 g h1)
    .exact hta g h1
   refine⟨rfl,el,xs1++xs2,hlb,by simpa using hown,hsz,?_,?_,λg hg'=>(hall g hg').1,?_,λhff=>by
    simp only[Yg]at hff;rw[Ybk]
    exact((hW1 hff.1).append (hW2 hff.2)).frame (ht1.append ht2) λg hg'=>(hall g hg').2⟩
   .intro x hx;rcases Yl.1 hx with hx|hx
    .exact hl1 x hx
    .exact hl2 x hx
   .rw[Ybk];exact(ht1.append ht2).frame λg hg'=>(hall g hg').2
   .intro hff;simp only[Yg]at hff;obtain⟨h1,h2⟩:=hD2 hff.1;refine⟨Ybg.2 ⟨h1,hT.nodup hff.2 hnd,?_⟩,?_⟩
    .intro x hx y hy hxy;subst hxy;obtain⟨_,k,hk',rk,h4,h6⟩:=hT.fresh hff.2 x hy;rcases h6 with⟨h5,h6⟩|⟨h5,h6⟩
     .exact(hD1 x hx).2 k rk h4 h5 h6
     .exact hD4 hff.1 x hx k hk' rk h4 h5 h6
    .intro x hx;rcases Yl.1 hx with hx|hx
     .exact h2 x hx
     .exact(hT.fresh hff.2 x hx).1)
  (by
   intro hff x hx d rd hdk _ hrd hfd;simp only[Xo,Yg]at hff;rcases Yl.1 hx with hx|hx
   .exact hD3 hff.1 x hx d rd hdk hrd hfd
   .exact Zwb R hT hff.2 (λk hk=>by simp[hk]) hx hdk hrd hfd)
 refine⟨vv,w',updM ρ nx ⟨vv,fp1++fp2,[]⟩,.inl hs,.own (r:=⟨vv,fp1++fp2,[]⟩) (by simp[updM]) (ZiD hown),hp.1,hp.2.1,?_,?_,hp.2.2⟩
 .intro b hb;simp at hb;simp[updM,hb.2]
 .refine(Below.refl _ _).grown hg R.hb λk hk=>?_
  obtain⟨b,_,rb,h1,h2,h3⟩:=hrow k hk;exact(R.lt h1 h2 h3).1
theorem ZiE{el:TypeId}(ht:P.underlying t=some (.slice el))(hi:P.info? el=some i)(ba:Option Addr)(n cap:Nat)(hle:n<=cap)(b2:Option Addr)(c2:Nat) :
  (Builtin.append_ #[t,t] ty #[.slice ba n cap,.slice b2 0 c2]).run P w=.ok (.slice ba n cap) w:=by
 cases ba<;>cases b2<;>simp[Builtin.append_,run_underlying ht,sizeOf,typeInfo,hi,Builtin.lenOf,hle,Builtin.firstCells,loadCells,loadCellsFrom,storeCells]
theorem ZiF{el:TypeId}{z:Value}(ht:P.underlying t=some (.slice el))(hi:P.info? el=some i)(hz:i.zero=some z)(hzs:z.cells.size=i.size)(hown:w.ownsRow base el i.size v n xs){b2:Option Addr}{m c2:Nat}{news:UC}(hl:news.length=m*i.size)
  (hsrc:m=0\/∃ad,b2=some ad/\∀j u,news[j]?=some u->w.cell? (ad.add j)=some u) (h1:∀u∈news,u.oneCell'=true)
  (h63:n+m<=140737488355328) (hbytes:(n+m)*i.bytes<=140737488355328) (hbase:base<=w.heap.size) :
  ∃v' w' row,(Builtin.append_ #[t,t] ty #[v,.slice b2 m c2]).run P w=.ok v' w'/\w'.ownsRow base el i.size v' (n+m) (xs++news)/\w.grownBy w' row/\(∀g,row=some g->Xm v=some g)/\
   (∀g,Xm v'=some g->w.heap.size<=g\/Xm v=some g):=by
 have hmax:n+m<=maxLen:=by simp only[maxLen];omega
 rcases hsrc with rfl|⟨ad,rfl,hnews⟩
 .have hnil:news=[]:=Ycg (by simpa using hl);subst hnil;refine⟨v,w,none,?_,by simpa using hown,⟨rfl,rfl,rfl,Yh _,λ_ _ _=>rfl⟩,(by intro g hg;cases hg),λg hg=>.inr hg⟩;rcases hown.2 with⟨hv,hn⟩|⟨g,cap,cur,hv,_,_,hcap,_⟩
  .simp_all [ZiE,Yh]
  .simp_all [ZiE]
 .have hlen:(xs++news).length=(n+m)*i.size:=by rw[Yn,hown.1,hl,Ybu]
  by_cases hm:m=0
  .subst hm;have hnil:news=[]:=Ycg (by simpa using hl);subst hnil;refine⟨v,w,none,?_,by simpa using hown,⟨rfl,rfl,rfl,Yh _,λ_ _ _=>rfl⟩,(by intro g hg;cases hg),λg hg=>.inr hg⟩;rcases hown.2 with⟨hv,hn⟩|⟨g,cap,cur,hv,_,_,hcap,_⟩
   .simp_all [ZiE,Yh]
   .simp_all [ZiE]
  .have grown:∀(old:Nat),old<n+m->
     (w.drew.alloc (.cells (xs.toArray++news.toArray++Builtin.zeroCells z.cells (grownCap w (n+m) old el-(n+m))) el)).ownsRow base el i.size
      (.slice (some ⟨w.heap.size,0,none⟩) (n+m) (grownCap w (n+m) old el)) (n+m) (xs++news)/\
     w.grownBy (w.drew.alloc (.cells (xs.toArray++news.toArray++Builtin.zeroCells z.cells (grownCap w (n+m) old el-(n+m))) el)) none:=by
    intro old ho;have hge:=grownCap_ge w (n+m) old el;have hcm:grownCap w (n+m) old el<=maxLen:=grownCap_le_maxLen w (n+m) old el hmax;refine⟨⟨hlen,.inr ⟨w.heap.size,_,_,rfl,hbase,heap_alloc_new w.drew _,hge,hcm,?_,?_⟩⟩,⟨rfl,rfl,rfl,by simp,λk hk _=>Go.RowKit.Below.heap_alloc w.drew _ k hk⟩⟩
    .simp only[Array.size_append,Ycr,size_zeroCells,hzs,hown.1,hl,<-Ybu];congr 1;omega
    .grind
   rcases hown.2 with⟨rfl,rfl⟩|⟨g,cap,cur,rfl,hbg,hg,hnc,hcm,hcs,htake⟩
   .have hx:xs=[]:=Ycg (by simpa using hown.1);subst hx;have hr:=run_append_nil (P:=P) w t ty el i z ht hi hz ad m c2 news hl hnews (by omega) (by omega) (by have hb:=hbytes;simp only[Yu]at hb;omega);have hgr:=grown 0 (by omega);simp only[Yu,Y7,Array.empty_append]at hgr|-;exact⟨_,_,none,hr,hgr.1,hgr.2,(by intro g hg;cases hg),by intro g hg;simp[Xm]at hg;exact .inl (by omega)⟩
   .by_cases hroom:n+m<=cap
    .have hfit:n*i.size+news.length<=cur.size:=by rw[hl,hcs,<-Ybu];exact Ybd _ hroom
     have hr:=run_append_room (P:=P) w t ty el i ht hi g n cap cur hg ad m c2 news hl hnews h1 hroom hfit;refine⟨_,_,some g,hr,⟨hlen,.inr ⟨g,cap,_,rfl,hbg,setRow_heap w g cur _ el _ hg,hroom,hcm,?_,?_⟩⟩,JR w g _,(by intro g' hg';cases hg';rfl),λg' hg'=>.inr hg'⟩
     .grind
     .grind
    .have holds:∀j u,xs[j]?=some u->w.cell? ((⟨g,0,none⟩:Addr).add j)=some u:=hown.cells (g:=g) rfl;have hr:=run_append_grow (P:=P) w t ty el i z ht hi hz ⟨g,0,none⟩ n cap xs hown.1 holds ad m c2 news hl hnews (by omega) (by omega) (growslice_fits (by omega) hbytes);have hgr:=grown cap (by omega);exact⟨_,_,none,hr,hgr.1,hgr.2,(by intro g' hg';cases hg'),by intro g' hg';simp[Xm]at hg';exact .inl (by omega)⟩
theorem src_rel(R:Rel N base ρ h w){mv:Bool}{v:AV}{ys:V5}{val:Value}(hsz:0<sz)(hs:UR h sz mv v=some (ys,f,ks))(hv:RV ρ w (Free N ρ h) v val) :
  ∃b2 c2 news fp,val=.slice b2 ys.length c2/\news.length=ys.length*sz/\(ys.length=0\/∃ad,b2=some ad/\∀j u,news[j]?=some u->w.cell? (ad.add j)=some u)/\
   TRs w ys.flatten news fp/\(∀x∈ys,x.length=sz)/\Took N base ρ h ks fp f/\ks.Nodup/\(∀k∈ks,v=.own k)/\(f=true->OWs w base ys.flatten news):=by
 cases hv with
 |@t x val fp hT hf =>
  cases hT with
  |nil =>
   simp[UR]at hs;obtain⟨rfl,rfl,rfl⟩:=hs
   exact⟨none,0,[],[],rfl,by simp,.inl rfl,.nil,by simp,.nil _,Ybf,by simp,λ_=>.nil⟩
  |lst0 sz' ad cap =>
   simp[UR]at hs;obtain⟨rfl,rfl,rfl,rfl⟩:=hs
   exact⟨ad,cap,[],[],rfl,by simp,.inl rfl,.nil,by simp,.nil _,Ybf,by simp,λ_=>.nil⟩
  |@lst sz' es g off cap c te fz fp' hne hsz' hcap hg hlen hc =>
   simp[UR]at hs;obtain⟨rfl,rfl,rfl,rfl⟩:=hs;refine⟨_,cap,_,fp',rfl,?_,.inr ⟨_,rfl,λj u hj=>ZvY hg hj⟩,hc,hlen,⟨λg' hg'=>.inl (hf g' (by simp[hg'])),λhfl=>?_,λhfl _=>?_⟩,Ybf,by simp,λhfl=>.easy hc.length (ZvV hfl)⟩
   .rw[<-hc.length,Vu hlen]
   .have:fp'=[]:=hc.flat (by
     simp only[AM.flat,Yy]at hfl|-;intro y hy;obtain⟨x,hx,hy⟩:=Ycd.1 hy
     exact hfl x hx y hy)
    subst this;intro g hg;cases hg
   .have:fp'=[]:=hc.flat (by
     simp only[AM.flat,Yy]at hfl|-;intro y hy;obtain⟨x,hx,hy⟩:=Ycd.1 hy
     exact hfl x hx y hy)
    subst this
    exact Ybf
  |_=>simp[UR]at hs
 |@own b r hr h1 =>
  simp only[UR]at hs;split at hs
  .rename_i el sz' fr es hb;split at hs
   .rename_i hse;subst hse;have hd:gt h b≠.dead:=by rw[hb];intro hc;cases hc
    obtain⟨r',h2,h3⟩:=R.blk b hd;rw[hr]at h2;cases h2;rw[hb]at h3;obtain⟨_,_,xs,_,ho,_,hl,ht,hf,hfr,how⟩:=h3;have hval:∃b2 c2,r.v=.slice b2 es.length c2/\(es.length=0\/∃ad,b2=some ad/\∀j u,xs[j]?=some u->w.cell? (ad.add j)=some u):=by
     rcases ho.2 with⟨hv,hz⟩|⟨g,cap,cur,hv,hbg,hg,hcap,_,hcs,htake⟩
     .exact⟨none,0,by rw[hv,hz],.inl hz⟩
     .exact⟨some ⟨g,0,none⟩,cap,hv,.inr ⟨_,rfl,ho.cells (g:=g) (by rw[hv];rfl)⟩⟩
    obtain⟨b2,c2,hv2,hsrc⟩:=hval;split at hs
    .simp at hs;obtain⟨rfl,rfl,rfl⟩:=hs;refine⟨b2,c2,xs,r.fp,hv2,ho.1,hsrc,ht,hl,⟨λg hg=>.inl (hf g hg),λhft g hg=>⟨(hfr hft).2 g hg,b,by simp,r,hr,.inr ⟨by rw[hb];exact hft,hg⟩⟩,λhft _=>(hfr hft).1⟩,by simp,by simp,how⟩
    .simp at hs;obtain⟨rfl,rfl,rfl⟩:=hs
     have hfl':AM.flat es=true->r.fp=[]:=λhfl=>ht.flat (by
      simp only[AM.flat,Yy]at hfl|-;intro y hy;obtain⟨x,hx,hy⟩:=Ycd.1 hy
      exact hfl x hx y hy)
     refine⟨b2,c2,xs,r.fp,hv2,ho.1,hsrc,ht,hl,⟨λg hg=>.inl (hf g hg),λhft=>?_,λhft _=>?_⟩,Ybf,by simp,λhft=>.easy ht.length (ZvV hft)⟩
     .rw[hfl' hft];intro g hg;cases hg
     .rw[hfl' hft];exact Ybf
   .cases hs
  .cases hs
 |_=>simp[UR]at hs
end
end Go.AM
