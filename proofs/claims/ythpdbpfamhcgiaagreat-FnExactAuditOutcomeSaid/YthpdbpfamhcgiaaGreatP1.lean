/-
  Parts of the proofs for this seat: AMCore AMW AMComp AMRel AMStep AMOps1 AMOps2 AMOps3 AMOps4 AMOps5 AMOps6.
-/
import Derived.Below
import Derived.Calls
import Derived.Great.BuildSlice
import Derived.Laws.AppendOwn
import Derived.Laws.MakeOwn
import Derived.Laws.Small
import Derived.Laws.StructEq
import Derived.Still
import Derived.WalkKit
set_option linter.all false
namespace Go.AM
def Ypx{c:Prop}[Decidable c]{α:Sort _}{a b:α}(h:c:=by omega):ite c a b=a:=if_pos h
def Ynx{c:Prop}[Decidable c]{α:Sort _}{a b:α}(h:¬c:=by omega):ite c a b=b:=if_neg h
abbrev V4:=List (List Int)
abbrev V6:=List Int
abbrev V8:=List Nat
abbrev KI:=List Value
abbrev YA:=ByteArray
abbrev Ya:=@if_pos
abbrev Yb:=@if_neg
abbrev Yc:=@Nat.zero_le
abbrev Yd:=@Eq.trans
abbrev Ye:=@List.getElem_mem
abbrev Yf:=@List.getElem?_eq_getElem
abbrev Yg:=@Bool.and_eq_true
abbrev Yh:=@Int.toNat_natCast
abbrev Yi:=@List.drop_eq_getElem_cons
abbrev Yj:=@Nat.le_refl
abbrev Yk:=@List.drop_length
abbrev Yl:=@List.all_eq_true
abbrev Ym:=@List.drop_zero
abbrev Yn:=@Bool.true_and
abbrev Yo:=@Int.not_lt
abbrev Yp:=@List.take_succ_eq_append_getElem
abbrev Yq:=@List.length_append
abbrev Yr:=@Nat.le_trans
abbrev Ys:=@Option.map_eq_some_iff
abbrev Yt:=@List.mem_map
abbrev Yu:=@List.mem_append
abbrev Yv:=@Nat.zero_add
abbrev Yw:=@List.length_cons
abbrev Yx:=@Int.natCast_add
abbrev Yy:=@Int.cast_ofNat_Int
abbrev Yz:=@Array.length_toList
abbrev Y0:=@List.map_cons
abbrev Y1:=@List.length_map
abbrev Y2:=@List.take_length
abbrev Y3:=@List.map_append
abbrev Y4:=@List.pairwise_cons
abbrev Y5:=@List.all_cons
abbrev Y6:=@List.append_assoc
abbrev Y7:=@List.foldl_cons
abbrev Y8:=@List.mem_of_getElem?
abbrev Y9:=@List.append_nil
abbrev Yba:=@List.mem_cons
abbrev Ybb:=@List.mem_filter
abbrev Ybc:=@List.flatten_cons
abbrev Ybd:=@Nat.mul_le_mul_right
abbrev Ybe:=@Option.some.injEq
abbrev Ybf:=@List.nodup_nil
abbrev Ybg:=@List.mem_range
abbrev Ybh:=@List.getElem?_eq_some_iff
abbrev Ybi:=@List.nil_append
abbrev Ybj:=@List.length_nil
abbrev Ybk:=@List.drop_of_length_le
abbrev Ybl:=@List.mem_of_mem_take
abbrev Ybm:=@List.length_set
abbrev Ybn:=@Nat.min_eq_left
abbrev Ybo:=@List.length_take
abbrev Ybp:=@List.take_of_length_le
abbrev Ybq:=@List.flatMap_cons
abbrev Ybr:=@Prod.mk.injEq
abbrev Ybs:=@List.range'_succ
abbrev Ybt:=@Nat.add_zero
abbrev Ybu:=@Nat.add_mul
abbrev Ybv:=@List.pairwise_iff_getElem
abbrev Ybw:=@List.mem_flatMap
abbrev Ybx:=@Bool.eq_iff_iff
abbrev Yby:=@Bool.false_eq_true
abbrev Ybz:=@List.ext_getElem
abbrev Yb0:=@Nat.lt_of_lt_of_le
abbrev Yb1:=@List.getD_eq_getElem?_getD
abbrev Yb2:=@List.drop_drop
abbrev Yb3:=@List.take_append_drop
abbrev Yb4:=@List.nodup_append
abbrev Yb5:=@Array.toList_map
abbrev Yb6:=@List.map_congr_left
abbrev Yb7:=@Nat.lt_succ_self
abbrev Yb8:=@List.range_succ
abbrev Yb9:=@List.getElem?_append_right
abbrev Yca:=@List.map_nil
abbrev Ycb:=@Nat.mul_le_mul
abbrev Ycc:=@Nat.sub_self
abbrev Ycd:=@Array.getElem?_eq_some_iff
abbrev Yce:=@List.flatten_append
abbrev Ycf:=@List.nodup_cons
abbrev Ycg:=@Array.getD_eq_getD_getElem?
abbrev Ych:=@List.filter_eq_nil_iff
abbrev Yci:=@List.length_replicate
abbrev Ycj:=@Array.toList_inj
abbrev Yck:=@Nat.lt_or_ge
abbrev Ycl:=@Nat.sub_zero
abbrev Ycm:=@List.mem_append_left
abbrev Ycn:=@List.length_filter_le
abbrev Yco:=@List.getElem?_append_left
abbrev Ycp:=@List.getElem_of_mem
abbrev Ycq:=@List.drop_take
abbrev Ycr:=@List.mem_of_mem_drop
abbrev Ycs:=@List.take_take
abbrev Yct:=@Nat.one_mul
abbrev Ycu:=@List.length_drop
abbrev Ycv:=@List.replicate_succ
abbrev Ycw:=@Nat.add_assoc
abbrev Ycx:=@Nat.lt_trichotomy
abbrev Ycy:=@Bool.or_eq_true
abbrev Ycz:=@List.mem_append_right
abbrev Yc0:=@List.cons.injEq
abbrev Yc1:=@List.filter_cons_of_pos
abbrev Yc2:=@List.filter_append
abbrev Yc3:=@List.take_zero
abbrev Yc4:=@Bool.false_and
abbrev Yc5:=@List.length_pos_iff
abbrev Yc6:=@Option.some.inj
abbrev Yc7:=@List.filter_cons
abbrev Yc8:=@List.eq_nil_of_length_eq_zero
abbrev Yc9:=@List.mem_flatten
abbrev Yda:=@Bool.false_or
abbrev Ydb:=@List.getElem?_take
abbrev Ydc:=@List.mem_filterMap
abbrev Ydd:=@Nat.mul_succ
abbrev Yde:=@List.getElem?_drop
abbrev Ydf:=@List.cons_append
abbrev Ydg:=@List.mergeSort_perm
abbrev Ydh:=@List.size_toArray
abbrev Ydi:=@Option.bind_eq_some_iff
abbrev Ydj:=@List.length_eq_zero_iff
abbrev Ydk:=@List.map_replicate
abbrev Ydl:=@List.any_cons
abbrev Ydm:=@List.any_eq_false
abbrev Ydn:=@Array.getElem_toList
abbrev Ydo:=@List.map_inj_right
abbrev Ydp:=@List.range_eq_range'
abbrev Ydq:=@List.filterMap_cons_some
abbrev Ydr:=@Int.lt_or_eq_of_le
abbrev Yds:=@List.getElem?_map
abbrev Ydt:=@List.getElem?_of_mem
abbrev Ydu:=@List.headD_eq_head?_getD
abbrev Ydv:=@List.drop_eq_nil_of_le
inductive T where
 |int (k:IntKind) (n:Int)
 |bool (b:Bool)
 |str (s:YA)
 |nil
 |any
 |lst (sz:Nat) (es:List (List T))
 deriving Inhabited
inductive AV where
 |top
 |nilp
 |t (x:T)
 |agg (cs:List AV)
 |tup (vs:List AV)
 |ptr (b off:Nat)
 |eptr (b i sz off:Nat)
 |iptr (cs:List T) (off:Nat)
 |own (b:Nat)
 |bsl (b n:Nat)
 |fn (f:Nat) (caps:List AV)
 deriving Inhabited
inductive Blk where
 |dead
 |box (cs:List AV)
 |arr (e:TypeId) (sz:Nat) (fr:Bool) (es:List (List T))
 deriving Inhabited
abbrev V1:=Option (AV × List Blk)
abbrev V2:=List AV
abbrev V3:=AV × List Blk
abbrev V5:=List (List T)
abbrev V7:=List Blk
abbrev KS:=List T
def unk:TypeId:=1000000000
abbrev Env:=List (Nat×AV)
def lk(s:Nat):Env->AV
 |[]=>.top
 |(k,v)::e=>if k=s then v else lk s e
def gt(h:V7)(b:Nat):Blk:=(h[b]?).getD .dead
def stB:V7->Nat->Blk->V7
 |[],0,x=>[x]
 |[],b+1,x=>.dead::stB [] b x
 |_::h,0,x=>x::h
 |y::h,b+1,x=>y::stB h b x
def upd(h:V7):List (Nat×Blk)->V7
 |[]=>h
 |(b,x)::u=>upd (stB h b x) u
inductive Opd where
 |s (i:Nat)
 |c (v:AV)
 deriving Inhabited
def ev(e:Env):Opd->AV
 |.s i=>lk i e
 |.c v=>v
inductive MOp where
 |mov (x:Opd)
 |pick (c a b:Opd)
 |alloc (zs:V2)
 |box (x:Opd)
 |build (zs:V2) (ps:List (Nat×Nat×Opd))
 |bslice (e:TypeId) (sz n:Nat) (zs:KS) (ps:List (Nat×Opd))
 |bptrs (n:Nat) (ps:List (Nat×Opd))
 |load (n:Option Nat) (x:Opd)
 |store (n:Nat) (x v:Opd)
 |storeF (n:Nat) (x v:Opd)
 |nilchk (x:Opd)
 |bin (op:BinOp) (x y:Opd)
 |beq (neg:Bool) (x y:Opd)
 |nileq (neg sl:Bool) (x:Opd)
 |mm (mx:Bool) (x y:Opd)
 |un (op:UnOp) (x:Opd)
 |conv (k:IntKind) (x:Opd)
 |mkfn (f:Nat) (caps:List Opd)
 |mkslice (e:TypeId) (sz bytes:Nat) (zs:KS) (l c:Opd)
 |slice (sz:Option Nat) (x:Opd) (lo hi:Option Opd)
 |faddr (off:Nat) (x:Opd)
 |field (off:Nat) (n:Option Nat) (x:Opd)
 |iaddr (sz:Nat) (x i:Opd)
 |index (x i:Opd)
 |aaddr (n sz:Nat) (x i:Opd)
 |aidx (n sz:Nat) (m:Option Nat) (x i:Opd)
 |ext (x:Opd) (i:Nat)
 |len (st:Bool) (x:Opd)
 |append (e:TypeId) (sz bytes:Nat) (mv:Bool) (x y:Opd)
 |call (f:Nat) (args:List Opd)
 |fcall (f:Nat) (args:List Opd)
 |icall (f:Nat) (args:List Opd)
 |pcall (f:Nat) (args:List Opd)
 |dcall (f:Opd) (args:List Opd)
 deriving Inhabited
structure MO where
 dst:Option Nat
 guard:Option (Nat×Bool)   -- slot of the guarding operation,wanted value
 op:MOp
 deriving Inhabited
inductive Zc where
 |skip
 |reg (ops:List MO) (keep:V8)
 |drw (ops:List MO) (before:List (V8)) (keep:V8)
 |seq (a b:Zc)
 |cond (c:Opd) (x y:Zc)
 |block (id:Nat) (b:Zc)
 |loop (keep:V8) (b:Zc)
 |exit (id:Nat)
 |ret
 deriving Inhabited
def XN:T->Bool
 |.lst _ _=>false
 |_=>true
def flat(es:V5):Bool:=es.all λx=>x.all XN
def cellsOf:AV->Option (V2)
 |.agg cs=>some cs
 |.top|.tup _=>none
 |v=>some [v]
def setCells(cs:V2)(off:Nat)(vs:V2):V2:=cs.take off++vs++cs.drop (off+vs.length)
def setT(cs:KS)(off:Nat)(vs:KS):KS:=cs.take off++vs++cs.drop (off+vs.length)
def toT(h:V7):AV->Option (T×Bool×V8)
 |.t x=>some (x,XN x,[])
 |.own b=>match gt h b with
  |.arr _ sz fr es=>some (.lst sz es,fr,[b])
  |_=>none
 |_=>none
def toTs(h:V7):V2->Option (KS×Bool×V8)
 |[]=>some ([],true,[])
 |v::vs=>match toT h v,toTs h vs with
  |some (x,f,ks),some (xs,g,ls)=>some (x::xs,f && g,ks++ls)
  |_,_=>none
def wk1:T->T->T
 |.lst sz _,.nil=>.lst sz []
 |_,x=>x
def wk:KS->KS->KS
 |c::cs,x::xs=>wk1 c x::wk cs xs
 |_,xs=>xs
def wkA:V2->KS->V2
 |.t c::cs,x::xs=>.t (wk1 c x)::wkA cs xs
 |_::cs,x::xs=>.t x::wkA cs xs
 |[],xs=>xs.map .t
 |_,[]=>[]
def kill(ks:V8):List (Nat×Blk):=ks.map λb=>(b,.dead)
def UJ:V8->Bool
 |[]=>true
 |x::xs=>!xs.contains x && UJ xs
def binT(op:BinOp):T->T->Option T
 |.int k a,.int k' b=>match op with
  |.shl=>if b<0 then none else some (.int k (k.wrap (a*2 ^ (min b.toNat k.bits))))
  |.shr=>if b<0 then none else some (.int k (a.fdiv (2 ^ (min b.toNat k.bits))))
  |_=>if k=k' then(match op with
   |.add=>some (.int k (k.wrap (a+b)))
   |.sub=>some (.int k (k.wrap (a-b)))
   |.mul=>some (.int k (k.wrap (a*b)))
   |.quo=>if b=0 then none else some (.int k (k.wrap (a.tdiv b)))
   |.rem=>if b=0 then none else some (.int k (a.tmod b))
   |.and=>some (.int k (k.wrap (BitVec.ofInt k.bits a &&& BitVec.ofInt k.bits b).toNat))
   |.or=>some (.int k (k.wrap (BitVec.ofInt k.bits a ||| BitVec.ofInt k.bits b).toNat))
   |.xor=>some (.int k (k.wrap (BitVec.ofInt k.bits a ^^^ BitVec.ofInt k.bits b).toNat))
   |.andNot=>some (.int k (k.wrap (BitVec.ofInt k.bits a &&& ~~~ BitVec.ofInt k.bits b).toNat))
   |.eql=>some (.bool (a == b))
   |.neq=>some (.bool (a != b))
   |.lss=>some (.bool (a<b))
   |.leq=>some (.bool (a<=b))
   |.gtr=>some (.bool (a > b))
   |.geq=>some (.bool (a>=b))
   |_=>none)else none
 |.str a,.str b=>match op with
  |.add=>if a.size+b.size<=9223372036854775807 then some (.str (a++b))else none
  |.eql=>some (.bool (a.toList == b.toList))
  |.neq=>some (.bool (!(a.toList == b.toList)))
  |.lss=>some (.bool (Op.bytesLess a.toList b.toList))
  |.leq=>some (.bool (Op.bytesLess a.toList b.toList || a.toList == b.toList))
  |.gtr=>some (.bool (!(Op.bytesLess a.toList b.toList || a.toList == b.toList)))
  |.geq=>some (.bool (!Op.bytesLess a.toList b.toList))
  |_=>none
 |_,_=>none
def unT:UnOp->T->Option T
 |.not,.bool b=>some (.bool !b)
 |.neg,.int k n=>some (.int k (k.wrap (0-n)))
 |_,_=>none
def VR(h:V7):Bool->AV->Option Bool
 |true,.t .nil=>some true
 |true,.t (.lst _ (_::_))=>some false
 |true,.own b=>match gt h b with
  |.arr _ _ _ (_::_)=>some false
  |_=>none
 |false,.nilp=>some true
 |false,.ptr _ _=>some false
 |false,.eptr _ _ _ _=>some false
 |false,.iptr _ _=>some false
 |_,_=>none
def Uj(h:V7):Bool->AV->Option Nat
 |false,.t (.lst _ es)=>some es.length
 |false,.t .nil=>some 0
 |true,.t (.str s)=>some s.size
 |false,.own b=>match gt h b with
  |.arr _ _ _ es=>some es.length
  |_=>none
 |false,.bsl _ n=>some n
 |_,_=>none
def natOf(n:Int):Option Nat:=if 0<=n then some n.toNat else none
def parts(e:Env):V2->List (Nat×Nat×Opd)->Option (V2)
 |cs,[]=>some cs
 |cs,(off,n,x)::ps=>match cellsOf (ev e x)with
  |some vs=>if vs.length=n/\off+n<=cs.length then parts e (setCells cs off vs) ps else none
  |none=>none
def elems(h:V7)(e:Env)(sz:Nat):V5->List (Nat×Opd)->Option (V5×Bool×V8)
 |es,[]=>some (es,true,[])
 |es,(i,x)::ps=>match cellsOf (ev e x)with
  |some vs=>match toTs h vs with
   |some (ts,f,ks)=>if i<es.length/\vs.length=sz then(match elems h e sz (es.set i (wk (es.getD i []) ts)) ps with
    |some (es',g,ls)=>some (es',f && g,ks++ls)
    |none=>none)else none
   |none=>none
  |none=>none
def Ju(e:Env):V2->List (Nat×Opd)->Option (V2)
 |cs,[]=>some cs
 |cs,(i,x)::ps=>match cellsOf (ev e x)with
  |some [v]=>if i<cs.length then Ju e (cs.set i v) ps else none
  |_=>none
def Zbc(cs:KS)(off:Nat):Option Nat->Option AV
 |none=>(cs[off]?).map .t
 |some n=>if off+n<=cs.length then some (.agg (((cs.drop off).take n).map .t))else none
def Q7(cs:V2)(off:Nat):Option Nat->Option AV
 |none=>cs[off]?
 |some n=>if off+n<=cs.length then some (.agg ((cs.drop off).take n))else none
def room:Nat:=140737488355328
def Q8(h:V7)(sz:Nat)(mv:Bool):AV->Option (V5×Bool×V8)
 |.t .nil=>some ([],true,[])
 |.t (.lst sz' ys)=>if sz'=sz then some (ys,flat ys,[])else none
 |.own c=>match gt h c with
  |.arr _ sz' fr ys=>if sz'=sz then(if mv then some (ys,fr,[c])else some (ys,flat ys,[]))else none
  |_=>none
 |_=>none
def bnd(e:Env)(d:Nat):Option Opd->Option Nat
 |none=>some d
 |some o=>match ev e o with
  |.t (.int _ n)=>natOf n
  |_=>none
def ZK(h:V7)(nx:Nat)(e:Env):MOp->Option (AV×List (Nat×Blk))
 |.mov x=>some (ev e x,[])
 |.pick c a b=>match ev e c with
  |.t (.bool true)=>some (ev e a,[])
  |.t (.bool false)=>some (ev e b,[])
  |_=>none
 |.alloc zs=>some (.ptr nx 0,[(nx,.box zs)])
 |.box x=>match cellsOf (ev e x)with
  |some cs=>some (.ptr nx 0,[(nx,.box cs)])
  |none=>none
 |.build zs ps=>match parts e zs ps with
  |some cs=>some (.agg cs,[])
  |none=>none
 |.bslice el sz n zs ps=>match elems h e sz (List.replicate n zs) ps with
  |some (es,fr,ks)=>if UJ ks then some (.own nx,kill ks++[(nx,.arr el sz fr es)])else none
  |none=>none
 |.bptrs n ps=>match Ju e (List.replicate n .nilp) ps with
  |some cs=>some (.bsl nx n,[(nx,.box cs)])
  |none=>none
 |.load n x=>match ev e x with
  |.ptr b off=>match gt h b with
   |.box cs=>(Q7 cs off n).map (·,[])
   |_=>none
  |.eptr b i sz off=>match gt h b with
   |.arr _ sz' _ es=>if sz=sz' then(match es[i]? with
    |some cs=>(Zbc cs off n).map (·,[])
    |none=>none)else none
   |_=>none
  |.iptr cs off=>(Zbc cs off n).map (·,[])
  |_=>none
 |.store n x v=>match cellsOf (ev e v)with
  |some vs=>if vs.length=n then(match ev e x with
   |.ptr b off=>match gt h b with
    |.box cs=>if off+n<=cs.length then some (.top,[(b,.box (setCells cs off vs))])else none
    |_=>none
   |.eptr b i sz off=>match gt h b with
    |.arr el sz' fr es=>match es[i]?,toTs h vs with
     |some cs,some (ts,f,ks) =>
      if off+n<=cs.length/\UJ (b::ks)/\sz=sz' then some (.top,kill ks++[(b,.arr el sz' (fr && f) (es.set i (setT cs off (wk (cs.drop off) ts))))])else none
     |_,_=>none
    |_=>none
   |_=>none)else none
  |none=>none
 |.storeF n x v=>match cellsOf (ev e v)with
  |some vs=>if vs.length=n then(match ev e x with
   |.ptr b off=>match gt h b with
    |.box cs=>match toTs h vs with
     |some (ts,_,ks)=>if off+n<=cs.length/\UJ (b::ks)then some (.top,kill ks++[(b,.box (setCells cs off (wkA (cs.drop off) ts)))])else none
     |none=>none
    |_=>none
   |_=>none)else none
  |none=>none
 |.nilchk x=>match ev e x with
  |.ptr b off=>some (.ptr b off,[])
  |.eptr b i sz off=>some (.eptr b i sz off,[])
  |.iptr cs off=>some (.iptr cs off,[])
  |.fn f cs=>some (.fn f cs,[])
  |_=>none
 |.bin op x y=>match ev e x,ev e y with
  |.t a,.t b=>(binT op a b).map (.t ·,[])
  |_,_=>none
 |.beq neg x y=>match ev e x,ev e y with
  |.t (.bool a),.t (.bool b)=>some (.t (.bool (neg != (a == b))),[])
  |_,_=>none
 |.nileq neg sl x=>match VR h sl (ev e x)with
  |some r=>some (.t (.bool (neg != r)),[])
  |none=>none
 |.mm mx x y=>match ev e x,ev e y with
  |.t (.int k a),.t (.int _ b)=>some (.t (.int k (if mx then(if b > a then b else a)else(if b<a then b else a))),[])
  |_,_=>none
 |.un op x=>match ev e x with
  |.t a=>(unT op a).map (.t ·,[])
  |_=>none
 |.conv k x=>match ev e x with
  |.t (.int _ n)=>some (.t (.int k (k.wrap n)),[])
  |_=>none
 |.mkfn f caps=>some (.fn f (caps.map (ev e)),[])
 |.mkslice el sz bytes zs l c=>match ev e l,ev e c with
  |.t (.int _ l),.t (.int _ c) =>
   if 0<=l/\l<=c/\c.toNat*bytes<=room/\c<=140737488355328 then some (.own nx,[(nx,.arr el sz true (List.replicate l.toNat zs))])else none
  |_,_=>none
 |.slice sz x lo hi=>match bnd e 0 lo with
  |none=>none
  |some l=>match sz,ev e x with
   |none,.t (.str s)=>match bnd e s.size hi with
    |some r=>if l<=r/\r<=s.size then some (.t (.str (s.extract l r)),[])else none
    |none=>none
   |some sz,.t (.lst sz' es)=>match bnd e es.length hi with
    |some r=>if l<=r/\r<=es.length/\sz'=sz then some (.t (.lst sz ((es.take r).drop l)),[])else none
    |none=>none
   |some sz,.own b=>match gt h b with
    |.arr el sz' fr es=>match bnd e es.length hi with
     |some r=>if l=0/\r<=es.length/\sz'=sz then some (.own nx,kill [b]++[(nx,.arr el sz fr (es.take r))])else none
     |none=>none
    |_=>none
   |_,_=>none
 |.faddr off x=>match ev e x with
  |.ptr b o=>some (.ptr b (o+off),[])
  |.eptr b i sz o=>some (.eptr b i sz (o+off),[])
  |.iptr cs o=>some (.iptr cs (o+off),[])
  |_=>none
 |.field off n x=>match ev e x with
  |.agg cs=>(Q7 cs off n).map (·,[])
  |_=>none
 |.iaddr sz x i=>match ev e i with
  |.t (.int _ n)=>if 0<=n then(match ev e x with
   |.t (.lst sz' es)=>if sz'=sz then(match es[n.toNat]? with
    |some cs=>some (.iptr cs 0,[])
    |none=>none)else none
   |.own b=>match gt h b with
    |.arr _ sz' _ es=>if sz'=sz/\n.toNat<es.length then some (.eptr b n.toNat sz 0,[])else none
    |_=>none
   |.bsl b m=>if sz=1/\n.toNat<m then some (.ptr b n.toNat,[])else none
   |_=>none)else none
  |_=>none
 |.index x i=>match ev e x,ev e i with
  |.t (.str s),.t (.int _ n)=>if 0<=n then(match s[n.toNat]? with
   |some b=>some (.t (.int .u8 b.toNat),[])
   |none=>none)else none
  |_,_=>none
 |.aaddr n sz x i=>match ev e i with
  |.t (.int _ k)=>if 0<=k/\k.toNat<n then(match ev e x with
   |.ptr b o=>some (.ptr b (o+k.toNat*sz),[])
   |.eptr b j s o=>some (.eptr b j s (o+k.toNat*sz),[])
   |.iptr cs o=>some (.iptr cs (o+k.toNat*sz),[])
   |_=>none)else none
  |_=>none
 |.aidx n sz m x i=>match ev e i with
  |.t (.int _ k)=>if 0<=k/\k.toNat<n then(match ev e x with
   |.agg cs=>(Q7 cs (k.toNat*sz) m).map (·,[])
   |_=>none)else none
  |_=>none
 |.ext x i=>match ev e x with
  |.tup vs=>(vs[i]?).map (·,[])
  |_=>none
 |.len st x=>match Uj h st (ev e x)with
  |some n=>some (.t (.int .i64 (n:Int)),[])
  |none=>none
 |.append el sz bytes mv x y=>match Q8 h sz mv (ev e y)with
  |some (ys,f,ks)=>match ev e x with
   |.t .nil=>if ys.length*bytes<=room/\ys.length<=room then some (.own nx,kill ks++[(nx,.arr el sz f ys)])else none
   |.own b=>match gt h b with
    |.arr el' sz' fr es =>
     if el'=el/\sz'=sz/\UJ (b::ks)/\(es.length+ys.length)*bytes<=room/\es.length+ys.length<=room then
      some (.own nx,kill (b::ks)++[(nx,.arr el sz (fr && f) (es++ys))])else none
    |_=>none
   |_=>none
  |none=>none
 |.call _ _|.fcall _ _|.icall _ _|.pcall _ _|.dcall _ _=>none
def frzT(h:V7):AV->Option T
 |.t x=>some x
 |.own b=>match gt h b with
  |.arr _ sz _ es=>some (.lst sz es)
  |_=>none
 |_=>none
def Ux(h:V7):V2->Option (KS)
 |[]=>some []
 |v::vs=>match frzT h v,Ux h vs with
  |some x,some xs=>some (x::xs)
  |_,_=>none
def frz1(h:V7):AV->Option AV
 |.t x=>some (.t x)
 |.nilp=>some .nilp
 |.iptr cs off=>some (.iptr cs off)
 |.own b=>match gt h b with
  |.arr _ sz _ es=>some (.t (.lst sz es))
  |_=>none
 |.ptr b off=>match gt h b with
  |.box cs=>match Ux h cs with
   |some ts=>some (.iptr ts off)
   |none=>none
  |_=>none
 |.agg cs=>match Ux h cs with
  |some ts=>some (.agg (ts.map .t))
  |none=>none
 |_=>none
def JV(h:V7):V2->Option (V2)
 |[]=>some []
 |v::vs=>match frz1 h v,JV h vs with
  |some x,some xs=>some (x::xs)
  |_,_=>none
def frz(h:V7):AV->Option AV
 |.fn g cs=>match JV h cs with
  |some ds=>some (.fn g ds)
  |none=>none
 |v=>frz1 h v
def frzs(h:V7):V2->Option (V2)
 |[]=>some []
 |v::vs=>match frz h v,frzs h vs with
  |some x,some xs=>some (x::xs)
  |_,_=>none
def givA:AV->Bool
 |.t _|.own _|.agg _=>true
 |_=>false
def frzR(h:V7):AV->Option AV
 |.tup vs=>if vs.all givA=true then(match frzs h vs with
  |some ds=>some (.tup ds)
  |none=>none)else none
 |v=>if givA v=true then frz h v else none
mutual
def ren(f:Nat->Nat):AV->AV
 |.agg cs=>.agg (rens f cs)
 |.tup vs=>.tup (rens f vs)
 |.ptr b off=>.ptr (f b) off
 |.eptr b i sz off=>.eptr (f b) i sz off
 |.own b=>.own (f b)
 |.bsl b n=>.bsl (f b) n
 |.fn g cs=>.fn g (rens f cs)
 |v=>v
def rens(f:Nat->Nat):V2->V2
 |[]=>[]
 |v::vs=>ren f v::rens f vs
end
def renB(f:Nat->Nat):Blk->Blk
 |.box cs=>.box (rens f cs)
 |b=>b
mutual
def refs:AV->V8
 |.agg cs=>ZS cs
 |.tup vs=>ZS vs
 |.ptr b _=>[b]
 |.eptr b _ _ _=>[b]
 |.own b=>[b]
 |.bsl b _=>[b]
 |.fn _ cs=>ZS cs
 |_=>[]
def ZS:V2->V8
 |[]=>[]
 |v::vs=>refs v++ZS vs
end
def VB:Blk->V8
 |.box cs=>ZS cs
 |_=>[]
structure S where
 env:Env
 stk:List Env
 h:V7
 deriving Inhabited
inductive X where
 |n
 |x (id:Nat)
 |r
def put(d:Option Nat)(v:AV)(e:Env):Env:=match d with
 |some d=>(d,v)::e
 |none=>e
def rst(keep:V8)(e:Env):Env:=keep.map λk=>(k,lk k e)
def scrub(h:V7):AV->AV
 |.own b=>match gt h b with
  |.dead=>.top
  |_=>.own b
 |v=>v
def Zcp(h:V7)(e:Env):Env:=e.map λp=>(p.1,scrub h p.2)
def XW(h:V7):Nat->V8->V8->V8
 |0,_,acc=>acc
 |_,[],acc=>acc
 |n+1,b::todo,acc=>if acc.contains b then XW h n todo acc else XW h n (VB (gt h b)++todo) (acc++[b])
def idx(b:Nat):V8->Nat->Nat
 |[],i=>i
 |c::cs,i=>if c=b then i else idx b cs (i+1)
def K5(e:Env):V8:=e.flatMap λp=>refs p.2
def renE(f:Nat->Nat)(e:Env):Env:=e.map λp=>(p.1,ren f p.2)
def Qg(h:V7)(ids rs:V8):Bool:=rs.all (ids.contains ·) && ids.all λb=>(VB (gt h b)).all (ids.contains ·)
def Q9(keep:V8)(s:S):S :=
 let env:=Zcp s.h (rst keep s.env)
 let rs:=K5 env++s.stk.flatMap K5
 let ids:=XW s.h 200 rs []
 if Qg s.h ids rs then
  let f:=λb=>idx b ids 0
  { env:=renE f env,stk:=s.stk.map (renE f),h:=ids.map λb=>renB f (gt s.h b) }
 else { env:=[],stk:=s.stk,h:=s.h }
def shift(n:Nat)(v:AV):AV:=ren (λb=>b+n) v
def newU(n:Nat):V7->Nat->List (Nat×Blk)
 |[],_=>[]
 |b::bs,i=>(n+i,renB (λc=>c+n) b)::newU n bs (i+1)
mutual
def QW:AV->Bool
 |.t x=>XN x
 |.agg cs=>UK cs
 |.tup cs=>UK cs
 |.fn _ cs=>UK cs
 |.iptr _ _=>false
 |_=>true
def UK:V2->Bool
 |[]=>true
 |v::vs=>QW v && UK vs
end
def frB:Blk->Bool
 |.dead=>true
 |.box cs=>UK cs
 |.arr _ _ fr _=>fr
def frR(r:AV)(hr:V7):Bool:=QW r && hr.all frB
def UL(args:V2):Bool:=(ZS args).isEmpty
inductive Res where
 |tmp (t:Nat)
 |cell (a:Nat) (n:Option Nat)
 |tmpO (t:Nat) (l:List (Option (Nat×Nat)))
 |cellO (a:Nat) (n:Option Nat) (l:List (Option (Nat×Nat)))
structure MFun where
 np:Nat
 nt:Nat
 res:List Res
 body:Zc
def JW(s:S):Res->Option AV
 |.tmp t=>some (lk t s.env)
 |.tmpO t _=>some (lk t s.env)
 |.cell a n=>match lk a s.env with
  |.ptr b off=>match gt s.h b with
   |.box cs=>Q7 cs off n
   |_=>none
  |_=>none
 |.cellO a n _=>match lk a s.env with
  |.ptr b off=>match gt s.h b with
   |.box cs=>Q7 cs off n
   |_=>none
  |_=>none
def UM(s:S):List Res->Option (V2)
 |[]=>some []
 |r::rs=>match JW s r,UM s rs with
  |some v,some vs=>some (v::vs)
  |_,_=>none
def resAV(rs:List Res)(s:S):Option AV:=match UM s rs with
 |some [v]=>some v
 |some vs=>some (.tup vs)
 |none=>none
abbrev Ctr:=Nat->V2->V7->AV->V7->Prop
def Xj(h:V7)(vs:V2):V8:=XW h 200 (ZS vs) []
def subH(h:V7)(ids:V8):V7:=ids.map λb=>renB (λc=>idx c ids 0) (gt h b)
def subA(ids:V8)(vs:V2):V2:=rens (λc=>idx c ids 0) vs
def bk(ids:V8)(nx i:Nat):Nat:=match ids[i]? with
 |some b=>b
 |none=>nx+(i-ids.length)
def W1(ids:V8)(nx:Nat):V7->Nat->List (Nat×Blk)
 |[],_=>[]
 |b::bs,i=>(bk ids nx i,renB (bk ids nx) b)::W1 ids nx bs (i+1)
mutual
def sbV(b:Nat)(d:AV):AV->AV
 |.own c=>if c=b then d else .own c
 |.agg cs=>.agg (sbVs b d cs)
 |.tup cs=>.tup (sbVs b d cs)
 |.fn f cs=>.fn f (sbVs b d cs)
 |v=>v
def sbVs(b:Nat)(d:AV):V2->V2
 |[]=>[]
 |v::vs=>sbV b d v::sbVs b d vs
end
def sbB(b:Nat)(d:AV):Blk->Blk
 |.box cs=>.box (sbVs b d cs)
 |x=>x
def sbE(b:Nat)(d:AV):Env->Env
 |[]=>[]
 |(k,v)::e=>(k,sbV b d v)::sbE b d e
def fzH(b:Nat)(d:AV)(h:V7):V7:=stB (h.map (sbB b d)) b .dead
section
variable(Γ:Ctr)
def Qh(f:Nat)(vs:V2)(h:V7)(nx:Nat)(K:AV->List (Nat×Blk)->Prop):Prop :=
 Qg h (Xj h vs) (ZS vs)=true/\∃r h1,Γ f (subA (Xj h vs) vs) (subH h (Xj h vs)) r h1/\K (ren (bk (Xj h vs) nx) r) (W1 (Xj h vs) nx h1 0)
def Jv(f:Nat)(vs:V2)(h:V7)(nx:Nat)(K:AV->List (Nat×Blk)->Prop):Prop :=
 Qg h (Xj h vs) (ZS vs)=true/\∃r hn,Γ f (subA (Xj h vs) vs) (subH h (Xj h vs)) r (subH h (Xj h vs)++hn)/\K (ren (bk (Xj h vs) nx) r) (W1 (Xj h vs) nx hn (Xj h vs).length)
def runW(o:MO)(s:S)(K:S->Prop):Prop:=match o.op with
 |.call f args=>∃as,frzs s.h (args.map (ev s.env))=some as/\∃r hr,Γ f as [] r hr/\(UL (args.map (ev s.env)) || frR r hr)=true/\
   K { s with env:=put o.dst (shift s.h.length r) s.env,h:=upd s.h (newU s.h.length hr 0) }
 |.fcall f args=>∃as,frzs s.h (args.map (ev s.env))=some as/\UL (args.map (ev s.env))=true/\∃r hr d,Γ f as [] r hr/\frzR hr r=some d/\K { s with env:=put o.dst d s.env,h:=upd s.h [] }
 |.icall f args=>Qh Γ f (args.map (ev s.env)) s.h s.h.length λv u=>K { s with env:=put o.dst v s.env,h:=upd s.h u }
 |.pcall f args=>Jv Γ f (args.map (ev s.env)) s.h s.h.length λv u=>K { s with env:=put o.dst v s.env,h:=upd s.h u }
 |.dcall f args=>match ev s.env f with
  |.fn g caps=>Qh Γ g (args.map (ev s.env)++caps) s.h s.h.length λv u=>K { s with env:=put o.dst v s.env,h:=upd s.h u }
  |_=>False
 |k=>match ZK s.h s.h.length s.env k with
  |some (v,u)=>K { s with env:=put o.dst v s.env,h:=upd s.h u }
  |none=>False
def opW(o:MO)(s:S)(K:S->Prop):Prop:=match o.guard with
 |none=>runW Γ o s K
 |some (g,want)=>match lk g s.env with
  |.t (.bool b)=>if b=want then runW Γ o s K else K { s with env:=put o.dst (.tup []) s.env }
  |.tup []=>K { s with env:=put o.dst (.tup []) s.env }
  |_=>False
def regW:List MO->S->(S->Prop)->Prop
 |[],s,K=>K s
 |o::os,s,K=>opW Γ o s λs'=>regW os s' K
structure Foot where
 rs:V8
 ws:V8
 rb:V8
 wb:V8
def ZlX:Opd->V8
 |.s i=>[i]
 |.c _=>[]
def Xa:MOp->List Opd
 |.mov x=>[x]
 |.pick c a b=>[c,a,b]
 |.alloc _=>[]
 |.box x=>[x]
 |.build _ ps=>ps.map λp=>p.2.2
 |.bslice _ _ _ _ ps=>ps.map λp=>p.2
 |.bptrs _ ps=>ps.map λp=>p.2
 |.load _ x=>[x]
 |.store _ x v=>[x,v]
 |.storeF _ x v=>[x,v]
 |.nilchk x=>[x]
 |.bin _ x y=>[x,y]
 |.beq _ x y=>[x,y]
 |.nileq _ _ x=>[x]
 |.mm _ x y=>[x,y]
 |.un _ x=>[x]
 |.conv _ x=>[x]
 |.mkfn _ caps=>caps
 |.mkslice _ _ _ _ l c=>[l,c]
 |.slice _ x lo hi=>x::(lo.toList++hi.toList)
 |.faddr _ x=>[x]
 |.field _ _ x=>[x]
 |.iaddr _ x i=>[x,i]
 |.index x i=>[x,i]
 |.aaddr _ _ x i=>[x,i]
 |.aidx _ _ _ x i=>[x,i]
 |.ext x _=>[x]
 |.len _ x=>[x]
 |.append _ _ _ _ x y=>[x,y]
 |.call _ args=>args
 |.fcall _ args=>args
 |.icall _ args=>args
 |.pcall _ args=>args
 |.dcall f args=>f::args
def Jw(h:V7)(rs:V8):V8:=rs++(rs.flatMap λb=>VB (gt h b))++XW h 200 rs []
def Zbd(k:MOp)(e:Env):V8:=match k with
 |.mov _=>[]
 |.dcall f args=>match ev e f with
  |.fn _ caps=>ZS (args.map (ev e)++caps)
  |_=>ZS ((Xa (.dcall f args)).map (ev e))
 |k=>ZS ((Xa k).map (ev e))
def rbOf(k:MOp)(h:V7)(e:Env):V8:=match k with
 |.call f a=>Jw h (Zbd (.call f a) e)
 |.fcall f a=>Jw h (Zbd (.fcall f a) e)
 |.icall f a=>Jw h (Zbd (.icall f a) e)
 |.pcall f a=>Jw h (Zbd (.pcall f a) e)
 |.dcall f a=>Jw h (Zbd (.dcall f a) e)
 |k=>Zbd k e
def VT(o:MO)(s:S)(wb:V8):Foot :=
 { rs:=(Xa o.op).flatMap ZlX++(match o.guard with|some (g,_)=>[g]|none=>[]),ws:=o.dst.toList,rb:=rbOf o.op s.h s.env,wb:=wb }
def meets(a b:V8):Bool:=a.any (b.contains ·)
def QX(f g:Foot):Bool:=meets f.ws (g.rs++g.ws) || meets g.ws f.rs || meets f.wb (g.rb++g.wb) || meets g.wb f.rb
def ZhA:List (V8)->List (V8)->List (V8)
 |[],acc=>acc
 |b::bs,acc=>ZhA bs (acc++[b++b.flatMap λi=>acc.getD i []])
def Z14(cl:List (V8))(feet:List Foot)(j:Nat):Bool :=
 match feet[j]?,cl[j]? with
 |some g,some c=>(List.range j).all λi=>match feet[i]? with
  |some f=>!QX f g || c.contains i
  |none=>false
 |_,_=>false
def Zbe(before:List (V8))(feet:List Foot):Bool:=(List.range feet.length).all (Z14 (ZhA before []) feet)
def Qi(o:MO)(s:S)(K:Foot->S->Prop):Prop:=match o.op with
 |.call f args=>∃as,frzs s.h (args.map (ev s.env))=some as/\∃r hr,Γ f as [] r hr/\(UL (args.map (ev s.env)) || frR r hr)=true/\
   K (VT o s ((newU s.h.length hr 0).map Prod.fst)) { s with env:=put o.dst (shift s.h.length r) s.env,h:=upd s.h (newU s.h.length hr 0) }
 |.fcall f args=>∃as,frzs s.h (args.map (ev s.env))=some as/\UL (args.map (ev s.env))=true/\∃r hr d,Γ f as [] r hr/\frzR hr r=some d/\
   K (VT o s (([]:List (Nat×Blk)).map Prod.fst)) { s with env:=put o.dst d s.env,h:=upd s.h [] }
 |.icall f args=>Qh Γ f (args.map (ev s.env)) s.h s.h.length λv u=>K (VT o s (u.map Prod.fst)) { s with env:=put o.dst v s.env,h:=upd s.h u }
 |.pcall f args=>Jv Γ f (args.map (ev s.env)) s.h s.h.length λv u=>K (VT o s (u.map Prod.fst)) { s with env:=put o.dst v s.env,h:=upd s.h u }
 |.dcall f args=>match ev s.env f with
  |.fn g caps=>Qh Γ g (args.map (ev s.env)++caps) s.h s.h.length λv u=>K (VT o s (u.map Prod.fst)) { s with env:=put o.dst v s.env,h:=upd s.h u }
  |_=>False
 |k=>match ZK s.h s.h.length s.env k with
  |some (v,u)=>K (VT o s (u.map Prod.fst)) { s with env:=put o.dst v s.env,h:=upd s.h u }
  |none=>False
def drwG(o:MO)(s:S)(K:Foot->S->Prop):Prop:=match o.guard with
 |none=>Qi Γ o s K
 |some (g,want)=>match lk g s.env with
  |.t (.bool b)=>if b=want then Qi Γ o s K else K (VT o s []) { s with env:=put o.dst (.tup []) s.env }
  |.tup []=>K (VT o s []) { s with env:=put o.dst (.tup []) s.env }
  |_=>False
def drwW:List MO->S->List Foot->(List Foot->S->Prop)->Prop
 |[],s,feet,K=>K feet s
 |o::os,s,feet,K=>drwG Γ o s λf s'=>drwW os s' (feet++[f]) K
def LoopW(keep:V8)(body:(X->S->Prop)->S->Prop)(Q:X->S->Prop)(s:S):Prop :=
 ∃(I:S->Prop) (μ:S->Nat),I (Q9 keep s)/\∀s,I s->body (λx s'=>match x with
  |.n=>I (Q9 keep s')/\μ (Q9 keep s')<μ s
  |x=>Q x s') s
def Wc:Zc->(X->S->Prop)->S->Prop
 |.skip,Q,s=>Q .n s
 |.reg ops keep,Q,s=>regW Γ ops s λs'=>Q .n { s' with env:=rst keep s'.env }
 |.drw ops before keep,Q,s=>drwW Γ ops s [] λfeet s'=>Zbe before feet=true/\Q .n { s' with env:=rst keep s'.env }
 |.seq a b,Q,s=>Wc a (λx s'=>match x with|.n=>Wc b Q s'|x=>Q x s') s
 |.cond c x y,Q,s=>match ev s.env c with
  |.t (.bool b)=>if b=true then Wc x Q s else Wc y Q s
  |_=>False
 |.block id b,Q,s=>Wc b (λx s'=>match x with|.x i=>(if i=id then Q .n s' else Q (.x i) s')|x=>Q x s') s
 |.loop keep b,Q,s=>LoopW keep (Wc b) Q s
 |.exit id,Q,s=>Q (.x id) s
 |.ret,Q,s=>Q .r s
end
def K6:V2->Nat->Env
 |[],_=>[]
 |v::vs,i=>(i,v)::K6 vs (i+1)
def bodyQ(rs:List Res)(K:AV->S->Prop):X->S->Prop
 |.x _,_=>False
 |_,s=>match resAV rs s with
  |some v=>K v s
  |none=>False
def QY:V7->Nat->Env
 |[],_=>[]
 |b::bs,i=>(i,match b with|.box _=>.ptr i 0|.arr _ _ _ _=>.own i|_=>.top)::QY bs (i+1)
def XA(h:V7)(e:Env)(i:Nat):Nat:=match scrub h (lk i e)with
 |.ptr b 0=>b
 |.own b=>b
 |_=>h.length+i
def ZlY(k:Nat)(v:AV)(s:S):V1 :=
 let v:=scrub s.h v
 let e:=match s.stk with|[e]=>e|_=>[]
 let rs:=(List.range k).map (XA s.h e)
 let ids:=XW s.h 200 ((rs.flatMap λb=>VB (gt s.h b))++refs v) rs
 if Qg s.h ids (rs++refs v) && UJ rs then
  some (ren (λb=>idx b ids 0) v,ids.map λb=>renB (λb=>idx b ids 0) (gt s.h b))
 else none
def QA:List (Option (Nat×Nat))->V2->V7->V2×V7
 |some (e,sz+1)::ps,.t .nil::cs,h=>match QA ps cs (h++[.arr e (sz+1) true []])with
  |(cs',h')=>(.own h.length::cs',h')
 |_::ps,c::cs,h=>match QA ps cs h with
  |(cs',h')=>(c::cs',h')
 |[],cs,h=>(cs,h)
 |_,[],h=>([],h)
def dat1(n:Nat)(v:AV)(h:V7):V3:=match v with
 |.t .nil=>(.t (.lst n []),h)
 |.own b=>match gt h b with
  |.arr _ sz _ es=>(.t (.lst sz es),fzH b (.t (.lst sz es)) h)
  |_=>(.own b,h)
 |v=>(v,h)
def UN:List (Option (Nat×Nat))->V2->V7->V2×V7
 |some (n,0)::ps,c::cs,h=>match dat1 n c h with
  |(c',h1)=>match UN ps cs h1 with
   |(cs',h')=>(c'::cs',h')
 |_::ps,c::cs,h=>match UN ps cs h with
  |(cs',h')=>(c::cs',h')
 |_,cs,h=>(cs,h)
def own1(l:List (Option (Nat×Nat)))(v:AV)(h:V7):V3:=match v with
 |.agg cs=>match QA l cs h with
  |(cs',h')=>match UN l cs' h' with
   |(cs'',h'')=>(.agg cs'',h'')
 |v=>match l with
  |[some (e,sz+1)]=>match v with
   |.t .nil=>(.own h.length,h++[.arr e (sz+1) true []])
   |v=>(v,h)
  |[some (n,0)]=>dat1 n v h
  |_=>(v,h)
def Qj:List Res->V2->V7->V2×V7
 |.tmpO _ l::rs,v::vs,h=>match own1 l v h with
  |(v',h')=>match Qj rs vs h' with
   |(vs',h'')=>(v'::vs',h'')
 |.cellO _ _ l::rs,v::vs,h=>match own1 l v h with
  |(v',h')=>match Qj rs vs h' with
   |(vs',h'')=>(v'::vs',h'')
 |_::rs,v::vs,h=>match Qj rs vs h with
  |(vs',h')=>(v::vs',h')
 |[],vs,h=>(vs,h)
 |_,[],h=>([],h)
def ownR:List Res->AV->V7->V3
 |[.tmpO _ l],v,h=>own1 l v h
 |[.cellO _ _ l],v,h=>own1 l v h
 |r::q::rs,.tup vs,h=>match Qj (r::q::rs) vs h with
  |(vs',h')=>(.tup vs',h')
 |_,v,h=>(v,h)
def ZlZ(rs:List Res)(k:Nat)(v:AV)(s:S):V1:=match ownR rs v s.h with
 |(v',h')=>ZlY k v' { s with h:=h' }
def FW(Γ:Ctr)(m:MFun)(args:V2)(h0:V7)(r:AV)(hr:V7):Prop :=
 args.length=m.np/\Wc Γ m.body (bodyQ m.res λv s=>ZlZ m.res h0.length v s=some (r,hr)) { env:=K6 args 0,stk:=[QY h0 0],h:=h0 }
def valT:Value->Option T
 |.int k n=>some (.int k n)
 |.bool b=>some (.bool b)
 |.string s=>some (.str s)
 |.slice none 0 0=>some .nil
 |_=>none
def valC(v:Value):Option AV:=match v with
 |.pointer none=>some .nilp
 |v=>(valT v).map .t
def mapO{α β:Type}(f:α->Option β):List α->Option (List β)
 |[]=>some []
 |x::xs=>match f x,mapO f xs with
  |some y,some ys=>some (y::ys)
  |_,_=>none
def valAV:Value->Option AV
 |.agg cs=>(mapO valC cs.toList).map .agg
 |v=>valC v
def opd:Operand->Option Opd
 |.tmp t=>some (.s t)
 |.const v=>(valAV v).map .c
 |.func f=>some (.c (.fn f []))
 |.global _=>none
def szsA(P:Program):Nat->Bool->TypeId->List (Option Nat)
 |0,_,_=>[]
 |n+1,a,t=>match P.underlying t with
  |some (.struct fs)=>fs.toList.flatMap λf=>szsA P n a f.type
  |some (.array k e)=>(List.replicate k (szsA P n true e)).flatten
  |some (.slice e)=>[if a then some (match P.info? e with|some i=>i.size|none=>0)else none]
  |_=>[none]
def wz1:Option Nat->AV->AV
 |some s,.t .nil=>.t (.lst s [])
 |_,v=>v
def wzA:List (Option Nat)->V2->V2
 |n::ns,v::vs=>wz1 n v::wzA ns vs
 |_,vs=>vs
def zeroC(P:Program)(t:TypeId):Option (V2):=(((P.info? t).bind (·.zero)).bind λz=>mapO valC z.cells.toList).map (wzA (szsA P 8 false t))
def szs(P:Program):Nat->TypeId->V8
 |0,_=>[]
 |n+1,t=>match P.underlying t with
  |some (.struct fs)=>fs.toList.flatMap λf=>szs P n f.type
  |some (.array k e)=>(List.replicate k (szs P n e)).flatten
  |some (.slice e)=>[match P.info? e with|some i=>i.size|none=>0]
  |_=>[0]
def zeroT(P:Program)(t:TypeId):Option (KS):=(((P.info? t).bind (·.zero)).bind λz=>mapO valT z.cells.toList).map (wk ((szs P 8 t).map λs=>.lst s []))
def UO(P:Program)(t:TypeId):Option (Option Nat):=match P.underlying t with
 |some (.struct _)|some (.array _ _)=>(P.info? t).map λi=>some i.size
 |some _=>some none
 |none=>none
def ZEa(ops:Array Oper)(x:Operand):Bool:=match x with
 |.tmp t=>ops.any λo=>o.dst == some t && (match o.op with|.buildSlice ..=>true|_=>false)
 |_=>false
def ZEb(P:Program)(ops:Array Oper)(x:Operand):Bool:=match x with
 |.tmp t=>ops.any λo=>o.dst == some t && (match o.op with
  |.indexAddr ty _ _=>(match P.underlying ty with|some (.array _ _)=>true|_=>false)
  |_=>false)
 |_=>false
def Ze3(P:Program)(t:TypeId)(f:Nat):Option (Nat×TypeId):=match P.underlying t with
 |some (.struct fs)=>match fs[f]? with
  |some fd=>match P.info? fd.type with
   |some i=>if i.size=0 then none else some (fd.offset,fd.type)
   |none=>none
  |none=>none
 |_=>none
def K7(P:Program)(f:Nat):Bool:=match P.funcs[f]? with
 |some fn=>fn.body.isSome && fn.name != "runtime.NumGoroutine"
 |none=>false
def callK(inl:V8)(f:Nat)(as:List Opd):MOp :=
 if inl.contains f then .icall f as else if inl.contains (f+1000000)then .pcall f as else if inl.contains 9999996 && inl.contains (f+7000000)then .fcall f as else .call f as
def X1(P:Program)(inl:V8)(ops:Array Oper):Op->Option MOp
 |.move x|.assign x=>(opd x).map .mov
 |.pick c a b=>match opd c,opd a,opd b with
  |some c,some a,some b=>some (.pick c a b)
  |_,_,_=>none
 |.alloc e=>(zeroC P e).map .alloc
 |.box _ x=>(opd x).map .box
 |.build t ps=>match P.underlying t,zeroC P t with
  |some (.struct fs),some zs=>match fs.toList.mapM (λf=>(P.info? f.type).map λi=>(f.offset,i.size))with
   |some places=>(mapO (λp:Nat×Operand=>match places[p.1]?,opd p.2 with
    |some q,some x=>some (q.1,q.2,x)
    |_,_=>none) ps.toList).map (.build zs)
   |none=>none
  |_,_=>none
 |.buildSlice t n ps=>match P.underlying t with
  |some (.slice e)=>match P.info? e with
   |some i=>if n*i.size<=16777216/\0<i.size then(match mapO (λp:Nat×Operand=>(opd p.2).map λx=>(p.1,x)) ps.toList with
     |some qs=>(match zeroT P e with
      |some zs=>if zs.length=i.size then some (.bslice e i.size n zs qs)else none
      |none=>match i.zero with
       |some (.pointer none)=>if i.size=1 then some (.bptrs n qs)else none
       |_=>none)
     |none=>none)else none
   |none=>none
  |_=>none
 |.load t x=>match UO P t,opd x with
  |some n,some x'=>some (.load n x')
  |_,_=>none
 |.store t x v=>match P.info? t,opd x,opd v with
  |some i,some x',some v=>some (if ZEb P ops x=true then .storeF i.size x' v else .store i.size x' v)
  |_,_,_=>none
 |.nilCheck x=>(opd x).map .nilchk
 |.binOp op t x y _=>match opd x,opd y with
  |some x',some y'=>match P.underlying t with
   |some (.int _)|some .string=>some (.bin op x' y')
   |some .bool=>match op with
    |.eql=>some (.beq false x' y')
    |.neq=>some (.beq true x' y')
    |_=>none
   |some (.slice _)=>match op,y with
    |.eql,.const (.slice none 0 0)=>some (.nileq false true x')
    |.neq,.const (.slice none 0 0)=>some (.nileq true true x')
    |_,_=>none
   |some (.pointer _)=>match op,y with
    |.eql,.const (.pointer none)=>some (.nileq false false x')
    |.neq,.const (.pointer none)=>some (.nileq true false x')
    |_,_=>none
   |_=>none
  |_,_=>none
 |.unOp op _ x=>(opd x).map (.un op)
 |.convert s d x=>match P.underlying s,P.underlying d with
  |some _,some (.int k)=>(opd x).map (.conv k)
  |_,_=>none
 |.makeFunc (.func f) first caps=>if first.isEmpty then(mapO opd caps.toList).map (.mkfn f)else none
 |.makeSlice t l c=>match P.underlying t with
  |some (.slice e)=>match P.info? e,zeroT P e,opd l,opd c with
   |some i,some zs,some l,some c=>if zs.length=i.size/\0<i.size then some (.mkslice e i.size i.bytes zs l c)else none
   |_,_,_,_=>none
  |_=>none
 |.slice t x lo hi none=>match(match P.underlying t with
   |some .string=>some none
   |some (.slice e)=>(P.info? e).map λi=>some i.size
   |_=>none),opd x,(match lo with|none=>some none|some o=>(opd o).map some),(match hi with|none=>some none|some o=>(opd o).map some)with
  |some sz,some x,some lo,some hi=>some (.slice sz x lo hi)
  |_,_,_,_=>none
 |.fieldAddr t x f=>match Ze3 P t f,opd x with
  |some (off,_),some x=>some (.faddr off x)
  |_,_=>none
 |.field t x f=>match Ze3 P t f,opd x with
  |some (off,u),some x=>(UO P u).map λn=>.field off n x
  |_,_=>none
 |.indexAddr t x i=>match P.underlying t with
  |some (.slice e)=>match P.info? e,opd x,opd i with
   |some inf,some x,some i=>some (.iaddr inf.size x i)
   |_,_,_=>none
  |some (.array n e)=>match P.info? e,opd x,opd i with
   |some inf,some x,some i=>some (.aaddr n inf.size x i)
   |_,_,_=>none
  |_=>none
 |.index t x i=>match P.underlying t,opd x,opd i with
  |some .string,some x,some i=>some (.index x i)
  |some (.array n e),some x,some i=>match P.info? e,UO P e with
   |some inf,some m=>some (.aidx n inf.size m x i)
   |_,_=>none
  |_,_,_=>none
 |.extract x i=>(opd x).map λx=>.ext x i
 |.call c=>match c.callee with
  |.builtin .len=>match c.args.toList,c.argTypes.toList with
   |[x],[t]=>match P.underlying t with
    |some (.slice _)=>(opd x).map (.len false)
    |some .string=>(opd x).map (.len true)
    |_=>none
   |_,_=>none
  |.builtin .append=>match c.args.toList,c.argTypes.toList with
   |[x,y],[t,u]=>match P.underlying t,P.underlying u with
    |some (.slice e),some (.slice _)=>match P.info? e,opd x,opd y with
     |some i,some x',some y'=>match i.zero with
      |some z=>if 0<i.size/\z.cells.size=i.size/\t=u/\e≠unk then some (.append e i.size i.bytes (ZEa ops y) x' y')else none
      |none=>none
     |_,_,_=>none
    |_,_=>none
   |_,_=>none
  |.builtin .max=>match c.args.toList with
   |[x,y]=>match opd x,opd y with
    |some x,some y=>some (.mm true x y)
    |_,_=>none
   |_=>none
  |.builtin .min=>match c.args.toList with
   |[x,y]=>match opd x,opd y with
    |some x,some y=>some (.mm false x y)
    |_,_=>none
   |_=>none
  |.value (.func f)=>if K7 P f=true then(mapO opd c.args.toList).map (callK inl f)else none
  |.value x=>match opd x,mapO opd c.args.toList with
   |some x,some as=>some (.dcall x as)
   |_,_=>none
  |_=>none
 |_=>none
def compO(P:Program)(inl:V8)(nt:Nat)(ops:Array Oper)(o:Oper):Option MO :=
 if o.dst.all (·<nt)=true then match X1 P inl ops o.op,(match o.guard with
  |none=>some none
  |some (j,b)=>((ops[j]?).bind (·.dst)).map λd=>some (d,b))with
 |some k,some g=>some { dst:=o.dst,guard:=g,op:=k }
 |_,_=>none
 else none
def Uy(o:Oper):V8:=o.after.toList.filterMap λe=>if Region.binds .any e then some e.on else none
def backB:List (V8)->Nat->Bool
 |[],_=>true
 |b::bs,i=>b.all (·<i) && backB bs (i+1)
def comp(P:Program)(inl:V8)(nt:Nat):Code->List (V8)->Option (Zc×List (V8))
 |.skip,ks=>some (.skip,ks)
 |.region _ ops draw,k::ks=>match mapO (compO P inl nt ops) ops.toList with
  |some os=>if draw then(if backB (ops.toList.map Uy) 0=true/\P.follows .mixedOrders=true/\Region.noSelect ops=true then some (.drw os (ops.toList.map Uy) k,ks)else none)else some (.reg os k,ks)
  |none=>none
 |.seq a b,ks=>match comp P inl nt a ks with
  |some (x,ks)=>match comp P inl nt b ks with
   |some (y,ks)=>some (.seq x y,ks)
   |none=>none
  |none=>none
 |.cond c a b,ks=>match opd c,comp P inl nt a ks with
  |some c,some (x,ks)=>match comp P inl nt b ks with
   |some (y,ks)=>some (.cond c x y,ks)
   |none=>none
  |_,_=>none
 |.block id b,ks=>match comp P inl nt b ks with
  |some (x,ks)=>some (.block id x,ks)
  |none=>none
 |.loop b,k::ks=>match comp P inl nt b ks with
  |some (x,ks)=>some (.loop k x,ks)
  |none=>none
 |.exit id,ks=>some (.exit id,ks)
 |.ret,ks=>some (.ret,ks)
 |_,_=>none
def Zcq(P:Program):ResultVar->Option Res
 |.tmp t=>some (.tmp t)
 |.cell a t=>(UO P t).map (.cell a)
def cellTs(P:Program):Nat->TypeId->List TypeId
 |0,t=>[t]
 |n+1,t=>match P.underlying t with
  |some (.struct fs)=>fs.toList.flatMap λf=>cellTs P n f.type
  |_=>[t]
def ownTs(P:Program)(d:Bool)(t:TypeId):List (Option (Nat×Nat)):=(cellTs P 8 t).map λc=>match P.underlying c with
 |some (.slice e)=>some (if d then(P.cellsOf e,0)else(e,P.cellsOf e))
 |_=>none
def resO(P:Program)(d:TypeId->Bool):List Res->List TypeId->List Res
 |.tmp t::rs,ty::tys=>.tmpO t (ownTs P (d ty) ty)::resO P d rs tys
 |.cell a n::rs,ty::tys=>.cellO a n (ownTs P (d ty) ty)::resO P d rs tys
 |r::rs,_::tys=>r::resO P d rs tys
 |rs,[]=>rs
 |[],_=>[]
def JX(P:Program)(inl:V8)(keeps:List (V8))(f:Func):Option MFun:=match f.body with
 |some c=>match comp P inl f.ntmps c keeps,mapO (Zcq P) f.results.toList with
  |some (b,[]),some rs=>(if f.params.size+f.nfree<=f.ntmps then some { np:=f.params.size+f.nfree,nt:=f.ntmps,res:=if inl.contains 9999994 then resO P (λt=>!(inl.contains 9999993 && inl.contains (20000000+t))) rs f.resultTypes.toList else if inl.contains 9999997 then resO P (λ_=>false) rs f.resultTypes.toList else rs,body:=b } else none)
  |_,_=>none
 |none=>none
mutual
inductive TR (w:World):T->Value->V8->Prop
 |int (k:IntKind) (n:Int):TR w (.int k n) (.int k n) []
 |bool (b:Bool):TR w (.bool b) (.bool b) []
 |str (s:YA):TR w (.str s) (.string s) []
 |nil:TR w .nil (.slice none 0 0) []
 |any {v:Value} (h:v.oneCell'=true):TR w .any v []
 |lst0 (sz:Nat) (a:Option Addr) (cap:Nat):TR w (.lst sz []) (.slice a 0 cap) []
 |lst {sz:Nat} {es:V5} {g off cap:Nat} {c:Array Value} {e:TypeId} {fz:Nat×Nat} {fp:V8} (hne:es≠[]) (hsz:0<sz) (hcap:es.length<=cap)
   (hg:w.heap[g]?=some (.cells c e fz)) (hlen:∀x∈es,x.length=sz) (hc:TRs w es.flatten ((c.toList.drop off).take (es.length*sz)) fp) :
   TR w (.lst sz es) (.slice (some ⟨g,off,none⟩) es.length cap) (g::fp)
inductive TRs (w:World):KS->KI->V8->Prop
 |nil:TRs w [] [] []
 |cons {t:T} {v:Value} {fp:V8} {ts:KS} {vs:KI} {fq:V8} (h:TR w t v fp) (hs:TRs w ts vs fq):TRs w (t::ts) (v::vs) (fp++fq)
end
section
variable{w w':World}{fp:V8}{ts us:KS}{vs:KI}{t:T}{v:Value}
theorem TR.frame(h:TR w t v fp):(∀g∈fp,w'.heap[g]?=w.heap[g]?)->TR w' t v fp:=by
 refine TR.rec (motive_1:=λt v fp _=>(∀g∈fp,w'.heap[g]?=w.heap[g]?)->TR w' t v fp) (motive_2:=λts vs fp _=>(∀g∈fp,w'.heap[g]?=w.heap[g]?)->TRs w' ts vs fp)
  ?_ ?_ ?_ ?_ ?_ ?_ ?_ ?_ ?_ h
 .intro k n _;exact .int k n
 .intro b _;exact .bool b
 .intro s _;exact .str s
 .intro _;exact .nil
 .intro v h _;exact .any h
 .intro sz a cap _;exact .lst0 sz a cap
 .intro sz es g off cap c e fz fp hne hsz hcap hg hlen _ ih hf;exact .lst hne hsz hcap (by rw[hf g (by simp)];exact hg) hlen (ih λg hg=>hf g (by simp[hg]))
 .intro _;exact .nil
 .intro t v fp ts vs fq _ _ ih1 ih2 hf;exact .cons (ih1 λg hg=>hf g (by simp[hg])) (ih2 λg hg=>hf g (by simp[hg]))
theorem TRs.frame(h:TRs w ts vs fp):(∀g∈fp,w'.heap[g]?=w.heap[g]?)->TRs w' ts vs fp:=by
 induction ts generalizing vs fp with
 |nil=>cases h;exact λ_=>.nil
 |cons t ts ih =>
  cases h with
  |cons h hs=>exact λhf=>.cons (h.frame λg hg=>hf g (by simp[hg])) (ih hs λg hg=>hf g (by simp[hg]))
theorem TR.lt(h:TR w t v fp):∀g∈fp,g<w.heap.size:=by
 refine TR.rec (motive_1:=λt v fp _=>∀g∈fp,g<w.heap.size) (motive_2:=λts vs fp _=>∀g∈fp,g<w.heap.size)
  ?_ ?_ ?_ ?_ ?_ ?_ ?_ ?_ ?_ h
 .simp
 .intro _ g hg;cases hg
 .intro _ g hg;cases hg
 .intro g hg;cases hg
 .simp
 .simp
 .grind
 .intro g hg;cases hg
 .grind
theorem TRs.lt(h:TRs w ts vs fp):∀g∈fp,g<w.heap.size:=by
 induction ts generalizing vs fp with
 |nil=>cases h;intro g hg;cases hg
 |cons t ts ih =>
  cases h with
  |cons h hs =>
   intro g hg;rcases Yu.1 hg with hg|hg
   .exact h.lt g hg
   .exact ih hs g hg
theorem TR.one(h:TR w t v fp):v.oneCell'=true:=by cases h<;>first|rfl|assumption
theorem TRs.one(h:TRs w ts vs fp):∀v∈vs,v.oneCell'=true:=by
 induction ts generalizing vs fp with
 |nil=>cases h;intro v hv;cases hv
 |cons t ts ih =>
  cases h with
  |cons h hs =>
   intro v hv
   cases hv with
   |head=>exact h.one
   |tail _ hv=>exact ih hs v hv
theorem TRs.length(h:TRs w ts vs fp):ts.length=vs.length:=by
 induction ts generalizing vs fp with
 |nil=>cases h;rfl
 |cons t ts ih =>
  cases h with
  |cons h hs=>simp[ih hs]
theorem TRs.append{xs:KI}{fq:V8}(h:TRs w ts vs fp)(h':TRs w us xs fq):TRs w (ts++us) (vs++xs) (fp++fq):=by
 induction ts generalizing vs fp with
 |nil=>cases h;exact h'
 |cons t ts ih =>
  cases h with
  |cons h hs=>simpa[Y6]using TRs.cons h (ih hs)
theorem TRs.split(h:TRs w (ts++us) vs fp) :
  ∃fa fb,fp=fa++fb/\TRs w ts (vs.take ts.length) fa/\TRs w us (vs.drop ts.length) fb:=by
 induction ts generalizing vs fp with
 |nil=>exact⟨[],fp,rfl,.nil,h⟩
 |cons t ts ih =>
  cases h with
  |cons h hs =>
   obtain⟨fa,fb,rfl,h1,h2⟩:=ih hs;exact⟨_++fa,fb,by simp,.cons h h1,h2⟩
theorem TRs.at(h:TRs w ts vs fp){i:Nat}(hi:ts[i]?=some t) :
  ∃v fq,vs[i]?=some v/\TR w t v fq/\∀g∈fq,g∈fp:=by
 induction ts generalizing vs fp i with
 |nil=>simp at hi
 |cons t' ts ih =>
  cases h with
  |cons h hs =>
   grind
theorem TRs.flat(h:TRs w ts vs fp)(hf:ts.all XN=true):fp=[]:=by
 induction ts generalizing vs fp with
 |nil=>cases h;rfl
 |cons t ts ih =>
  cases h with
  |cons h hs =>
   simp only[Y5,Yg]at hf;rw[ih hs hf.2];cases h<;>first|rfl|simp[XN]at hf
end
def ZEc{w:World}{base base':Nat}(hb:base'<=base){e:TypeId}{sz n:Nat}{v:Value}{xs:KI}(ho:w.ownsRow base e sz v n xs):w.ownsRow base' e sz v n xs:=by
 refine⟨ho.1,?_⟩;rcases ho.2 with h|⟨g,cap,cur,h1,h2,h3⟩
 .exact .inl h
 .exact .inr ⟨g,cap,cur,h1,Yr hb h2,h3⟩
structure Root where
 v:Value
 fp:V8
def X6:Value->Option Nat
 |.pointer (some a)=>some a.block
 |.slice (some a) _ _=>some a.block
 |_=>none
abbrev Map:=Nat->Option Root
structure Par where
 a:Nat->Prop
 f:Nat->Prop
 z:Nat->Prop
def Free(N:Par)(ρ:Map)(h:V7)(g:Nat):Prop:=N.a g/\∀b r,ρ b=some r->gt h b≠.dead->X6 r.v≠some g
mutual
inductive RV (ρ:Map) (w:World) (F:Nat->Prop):AV->Value->Prop
 |top (v:Value):RV ρ w F .top v
 |nilp:RV ρ w F .nilp (.pointer none)
 |t {x:T} {v:Value} {fp:V8} (h:TR w x v fp) (hf:∀g∈fp,F g):RV ρ w F (.t x) v
 |agg {cs:V2} {c:Array Value} (h:RVs ρ w F cs c.toList) (h1:∀v∈c.toList,v.oneCell'=true):RV ρ w F (.agg cs) (.agg c)
 |tup {cs:V2} {c:Array Value} (h:RVs ρ w F cs c.toList):RV ρ w F (.tup cs) (.tuple c)
 |ptr {b off g:Nat} {r:Root} (hr:ρ b=some r) (hv:r.v=.pointer (some ⟨g,0,none⟩)):RV ρ w F (.ptr b off) (.pointer (some ⟨g,off,none⟩))
 |eptr {b i sz off g n cap:Nat} {r:Root} (hr:ρ b=some r) (hv:r.v=.slice (some ⟨g,0,none⟩) n cap):RV ρ w F (.eptr b i sz off) (.pointer (some ⟨g,i*sz+off,none⟩))
 |iptr {cs:KS} {off g o:Nat} {c:Array Value} {e:TypeId} {fz:Nat×Nat} {fp:V8} (hg:w.heap[g]?=some (.cells c e fz)) (hF:F g)
   (hc:TRs w cs ((c.toList.drop o).take cs.length) fp) (hf:∀g∈fp,F g):RV ρ w F (.iptr cs off) (.pointer (some ⟨g,o+off,none⟩))
 |own {b:Nat} {r:Root} (hr:ρ b=some r) (h1:r.v.oneCell'=true):RV ρ w F (.own b) r.v
 |bsl {b n g:Nat} {r:Root} (hr:ρ b=some r) (hv:r.v=.pointer (some ⟨g,0,none⟩)):RV ρ w F (.bsl b n) (.slice (some ⟨g,0,none⟩) n n)
 |fn {f:Nat} {cs:V2} {c:Array Value} (h:RVs ρ w F cs c.toList):RV ρ w F (.fn f cs) (.func (.func f) #[] c)
inductive RVs (ρ:Map) (w:World) (F:Nat->Prop):V2->KI->Prop
 |nil:RVs ρ w F [] []
 |cons {a:AV} {v:Value} {as:V2} {vs:KI} (h:RV ρ w F a v) (hs:RVs ρ w F as vs):RVs ρ w F (a::as) (v::vs)
end
structure WD (ρ:Map) (w:World) (F:Nat->Prop) (ρ':Map) (w':World) (F':Nat->Prop):Prop where
 root:∀b r,ρ b=some r->∃r',ρ' b=some r'/\r'.v=r.v
 free:∀g,g<w.heap.size->F g->F' g/\w'.heap[g]?=w.heap[g]?
section
variable{ρ ρ':Map}{w w':World}{F F':Nat->Prop}{vs:KI}{as:V2}{a:AV}
theorem WD.refl:WD ρ w F ρ w F:=⟨λ_ r h=>⟨r,h,rfl⟩,λ_ _ h=>⟨h,rfl⟩⟩
theorem WD.trans{ρ'':Map}{w'':World}{F'':Nat->Prop}(h1:WD ρ w F ρ' w' F')(h2:WD ρ' w' F' ρ'' w'' F'')(hl:w.heap.size<=w'.heap.size):WD ρ w F ρ'' w'' F'':=by
 refine⟨λb r hb=>?_,λg hg hF=>?_⟩
 .obtain⟨r1,q1,q2⟩:=h1.root b r hb;obtain⟨r2,q3,q4⟩:=h2.root b r1 q1
  simp_all
 .obtain⟨p1,p2⟩:=h1.free g hg hF;obtain⟨p3,p4⟩:=h2.free g (by omega) p1
  simp_all
theorem RV.keep(hk:WD ρ w F ρ' w' F'){v:Value}(h:RV ρ w F a v):RV ρ' w' F' a v:=by
 refine RV.rec (motive_1:=λa v _=>RV ρ' w' F' a v) (motive_2:=λas vs _=>RVs ρ' w' F' as vs) ?_ ?_ ?_ ?_ ?_ ?_ ?_ ?_ ?_ ?_ ?_ ?_ ?_ h
 .exact λv=>.top v
 .exact .nilp
 .intro x v fp h hf;exact .t (h.frame λg hg=>(hk.free g (h.lt g hg) (hf g hg)).2) λg hg=>(hk.free g (h.lt g hg) (hf g hg)).1
 .intro cs c _ h1 ih;exact .agg ih h1
 .intro cs c _ ih;exact .tup ih
 .intro b off g r hr hv;obtain⟨r',h1,h2⟩:=hk.root b r hr;exact .ptr h1 (h2.trans hv)
 .intro b i sz off g n cap r hr hv;obtain⟨r',h1,h2⟩:=hk.root b r hr;exact .eptr h1 (h2.trans hv)
 .intro cs off g o c e fz fp hg hF hc hf;have hl:g<w.heap.size:=(Ycd.1 hg).1;exact .iptr (by rw[(hk.free g hl hF).2];exact hg) (hk.free g hl hF).1 (hc.frame λg hg=>(hk.free g (hc.lt g hg) (hf g hg)).2)
   λg hg=>(hk.free g (hc.lt g hg) (hf g hg)).1
 .intro b r hr ho;obtain⟨r',h1,h2⟩:=hk.root b r hr;rw[<-h2];exact .own h1 (by rw[h2];exact ho)
 .intro b n g r hr hv;obtain⟨r',h1,h2⟩:=hk.root b r hr;exact .bsl h1 (h2.trans hv)
 .intro f cs c _ ih;exact .fn ih
 .exact .nil
 .intro a v as vs _ _ ih1 ih2;exact .cons ih1 ih2
theorem RVs.keep(hk:WD ρ w F ρ' w' F')(h:RVs ρ w F as vs):RVs ρ' w' F' as vs:=by
 induction as generalizing vs with
 |nil=>cases h;exact .nil
 |cons a as ih=>cases h with|cons h hs=>exact .cons (h.keep hk) (ih hs)
theorem RVs.length(h:RVs ρ w F as vs):as.length=vs.length:=by
 induction as generalizing vs with
 |nil=>cases h;rfl
 |cons a as ih=>cases h with|cons h hs=>simp[ih hs]
theorem RVs.at(h:RVs ρ w F as vs){i:Nat}(hi:as[i]?=some a):∃v,vs[i]?=some v/\RV ρ w F a v:=by
 induction as generalizing vs i with
 |nil=>simp at hi
 |cons a' as ih =>
  cases h with
  |cons h hs =>
   grind
theorem RVs.append{bs:V2}{xs:KI}(h:RVs ρ w F as vs)(h':RVs ρ w F bs xs):RVs ρ w F (as++bs) (vs++xs):=by
 induction as generalizing vs with
 |nil=>cases h;exact h'
 |cons a as ih=>cases h with|cons h hs=>exact .cons h (ih hs)
theorem RVs.take(h:RVs ρ w F as vs)(n:Nat):RVs ρ w F (as.take n) (vs.take n):=by
 induction as generalizing vs n with
 |nil=>cases h;simpa using RVs.nil
 |cons a as ih =>
  cases h with
  |cons h hs=>cases n with|zero=>exact .nil|succ n=>exact .cons h (ih hs n)
theorem RVs.drop(h:RVs ρ w F as vs)(n:Nat):RVs ρ w F (as.drop n) (vs.drop n):=by
 induction as generalizing vs n with
 |nil=>cases h;simpa using RVs.nil
 |cons a as ih =>
  cases h with
  |cons h hs=>cases n with|zero=>exact .cons h hs|succ n=>exact ih hs n
theorem RVs.of_TRs{ts:KS}{fp:V8}(h:TRs w ts vs fp)(hf:∀g∈fp,F g):RVs ρ w F (ts.map .t) vs:=by
 induction ts generalizing vs fp with
 |nil=>cases h;exact .nil
 |cons t ts ih=>cases h with|cons h hs=>exact .cons (.t h λg hg=>hf g (by simp[hg])) (ih hs λg hg=>hf g (by simp[hg]))
end
def Zcr(N:Par)(base:Nat)(ρ:Map)(w:World)(F:Nat->Prop)(r:Root):Blk->Prop
 |.dead=>True
 |.box cs=>∃g c e,r.v=.pointer (some ⟨g,0,none⟩)/\base<=g/\w.heap[g]?=some (.cells c e (0,0))/\RVs ρ w F cs c.toList/\∀v∈c.toList,v.oneCell'=true
 |.arr e sz fr es=>∃e' xs,(e=unk\/e'=e)/\w.ownsRow base e' sz r.v es.length xs/\0<sz/\(∀x∈es,x.length=sz)/\TRs w es.flatten xs r.fp/\(∀g∈r.fp,F g)/\
   (fr=true->r.fp.Nodup/\∀g∈r.fp,N.f g)
def Wf:Blk->Bool
 |.arr _ _ fr _=>fr
 |_=>false
structure Rel (N:Par) (base:Nat) (ρ:Map) (h:V7) (w:World):Prop where
 hb:base<=w.heap.size
 hN:∀g,w.heap.size<=g->N.a g/\N.f g
 hO:∀b r g,ρ b=some r->gt h b≠.dead->X6 r.v=some g->N.a g/\N.f g
 blk:∀b,gt h b≠.dead->∃r,ρ b=some r/\Zcr N base ρ w (Free N ρ h) r (gt h b)
 inj:∀b b' r r' g,ρ b=some r->ρ b'=some r'->gt h b≠.dead->gt h b'≠.dead->X6 r.v=some g->X6 r'.v=some g->b=b'
 apart:∀b b' r r' g,ρ b=some r->ρ b'=some r'->Wf (gt h b)=true->Wf (gt h b')=true->g∈r.fp->g∈r'.fp->b=b'
theorem K8(h:V7)(b c:Nat)(x:Blk):gt (stB h b x) c=if c=b then x else gt h c:=by
 induction h generalizing b c with
 |nil =>
  induction b generalizing c with
  |zero=>cases c<;>simp[stB,gt]
  |succ b ih =>
   cases c with
   |zero=>simp[stB,gt]
   |succ c=>simpa[stB,gt]using ih c
 |cons y h ih =>
  cases b with
  |zero=>cases c<;>simp[stB,gt]
  |succ b =>
   cases c with
   |zero=>simp[stB,gt]
   |succ c=>simpa[stB,gt]using ih b c
def updM(ρ:Map)(n:Nat)(r:Root):Map:=λb=>if b=n then some r else ρ b
def Z15(h:V7)(u u':List (Nat×Blk)):upd h (u++u')=upd (upd h u) u':=by
 induction u generalizing h with
 |nil=>rfl
 |cons x u ih=>exact ih _
def gt_kill(h:V7)(ks:V8)(b:Nat):gt (upd h (kill ks)) b=if b∈ks then .dead else gt h b:=by
 induction ks generalizing h with
 |nil=>simp[kill,upd]
 |cons k ks ih =>
  show gt (upd (stB h k .dead) (kill ks)) b=_
  grind [K8]
def Zbf(h:V7)(ks:V8)(n:Nat)(x:Blk)(b:Nat):gt (upd h (kill ks++[(n,x)])) b=if b=n then x else if b∈ks then .dead else gt h b:=by
 rw[Z15];show gt (stB _ n x) b=_;rw[K8,gt_kill]
section
variable{N:Par}{base:Nat}{ρ:Map}{h:V7}{w w':World}{r:Root}{n g e sz:Nat}{x:Blk}{v:Value}{xs:KI}{F:Nat->Prop}{ks:V8}{row:Option Nat}
theorem ZEd(ho:w.ownsRow base e sz v n xs)(hg:X6 v=some g):base<=g/\g<w.heap.size:=by
 rcases ho.2 with⟨hv,_⟩|⟨g',cap,cur,hv,hb,hh,_⟩
 .rw[hv]at hg;simp[X6]at hg
 .rw[hv]at hg;simp[X6]at hg
  grind
theorem Zcr.lt(hx:Zcr N base ρ w F r x)(hd:x≠.dead)(hg:X6 r.v=some g):base<=g/\g<w.heap.size:=by
 cases x with
 |dead=>exact absurd rfl hd
 |box cs =>
  obtain⟨g',c,e,hv,hb,hh,_⟩:=hx;rw[hv]at hg;simp[X6]at hg
  grind
 |arr e sz fr es =>
  obtain⟨e',xs,_,ho,_⟩:=hx;exact ZEd ho hg
theorem Rel.lt(R:Rel N base ρ h w){b:Nat}(hr:ρ b=some r)(hd:gt h b≠.dead)(hg:X6 r.v=some g):base<=g/\g<w.heap.size:=by
 obtain⟨r',h1,h2⟩:=R.blk b hd;rw[hr]at h1;cases h1;exact h2.lt hd hg
def Jx(ρ:Map)(h:V7)(b g:Nat):Prop:=∃r,ρ b=some r/\gt h b≠.dead/\X6 r.v=some g
theorem ZEe(hn:∀r0,ρ n=some r0->r0.v=r.v)(hg:w.grownBy w' row)
  (hrow:∀g,row=some g->∃b,Jx ρ h b g) (hblk:∀g,X6 r.v=some g->w.heap.size<=g\/∃b,Jx ρ h b g) :
  WD ρ w (Free N ρ h) (updM ρ n r) w' (Free N (updM ρ n r) (upd h (kill ks++[(n,x)]))):=by
 constructor
 .intro b r0 hr;by_cases hb:b=n
  .subst hb;exact⟨r,by simp[updM],(hn r0 hr).symm⟩
  .exact⟨r0,by simp[updM,hb,hr],rfl⟩
 .intro g hlt hf;constructor
  .refine⟨hf.1,?_⟩;intro b rb hr hd he;rw[Zbf]at hd;by_cases hb:b=n
   .subst hb;simp[updM]at hr;subst hr;rcases hblk g he with h1|⟨b',r',h1,h2,h3⟩
    .omega
    .exact hf.2 b' r' h1 h2 h3
   .simp[updM,hb]at hr;simp[hb]at hd;exact hf.2 b rb hr hd.2 he
  .refine hg.block g hlt λhe=>?_
   obtain⟨b',r',h1,h2,h3⟩:=hrow g he.symm;exact hf.2 b' r' h1 h2 h3
theorem ZEf(ho:w.ownsRow base e sz v n xs)(hsame:∀g,X6 v=some g->w'.heap[g]?=w.heap[g]?):w'.ownsRow base e sz v n xs:=by
 refine⟨ho.1,?_⟩;rcases ho.2 with h0|⟨g,cap,cur,hv,hb,hh,rest⟩
 .exact .inl h0
 .exact .inr ⟨g,cap,cur,hv,hb,by rw[hsame g (by rw[hv];rfl)];exact hh,rest⟩
theorem Zcr.keep{F':Nat->Prop}{ρ':Map}(hx:Zcr N base ρ w F r x)(hk:WD ρ w F ρ' w' F')
  (hsame:∀g,X6 r.v=some g->w'.heap[g]?=w.heap[g]?):Zcr N base ρ' w' F' r x:=by
 cases x with
 |dead=>trivial
 |box cs =>
  obtain⟨g,c,e,hv,hb,hh,h1,h2⟩:=hx
  exact⟨g,c,e,hv,hb,by rw[hsame g ((by rw[hv];rfl))];exact hh,h1.keep hk,h2⟩
 |arr e sz fr es =>
  obtain⟨e',xs,he,ho,hsz,hl,ht,hf,hfr⟩:=hx;exact⟨e',xs,he,ZEf ho hsame,hsz,hl,ht.frame λg hg=>(hk.free g (ht.lt g hg) (hf g hg)).2,λg hg=>(hk.free g (ht.lt g hg) (hf g hg)).1,hfr⟩
theorem K9(R:Rel N base ρ h w)(hn:∀r0,ρ n=some r0->r0.v=r.v)(hg:w.grownBy w' row)
  (hrow:∀g,row=some g->∃b,(b∈ks\/b=n)/\Jx ρ h b g) (hblk:∀g,X6 r.v=some g->w.heap.size<=g\/∃b,(b∈ks\/b=n)/\Jx ρ h b g)
  (hB:WD ρ w (Free N ρ h) (updM ρ n r) w' (Free N (updM ρ n r) (upd h (kill ks++[(n,x)])))->
   Zcr N base (updM ρ n r) w' (Free N (updM ρ n r) (upd h (kill ks++[(n,x)]))) r x)
  (hfp:Wf x=true->∀g∈r.fp,∀d rd,d ∉ ks->d≠n->ρ d=some rd->Wf (gt h d)=true->g ∉ rd.fp) :
  Rel N base (updM ρ n r) (upd h (kill ks++[(n,x)])) w'/\WD ρ w (Free N ρ h) (updM ρ n r) w' (Free N (updM ρ n r) (upd h (kill ks++[(n,x)])))/\
   ∀g,g<w.heap.size->¬N.a g->w'.heap[g]?=w.heap[g]?:=by
 have hk:WD ρ w (Free N ρ h) (updM ρ n r) w' (Free N (updM ρ n r) (upd h (kill ks++[(n,x)]))) :=
  ZEe hn hg (λg e=>let ⟨b,_,ho⟩:=hrow g e;⟨b,ho⟩) (λg e=>(hblk g e).imp id λ⟨b,_,ho⟩=>⟨b,ho⟩)
 have hB:=hB hk;refine⟨⟨Yr R.hb hg.size,λg hl=>R.hN g (Yr hg.size hl),?_,?_,?_,?_⟩,hk,?_⟩
 .intro b rb g hrb hd hgb;rw[Zbf]at hd;by_cases hb:b=n
  .subst hb;simp[updM]at hrb;subst hrb;rcases hblk g hgb with h1|⟨c,_,rc,h1,h2,h3⟩
   .exact R.hN g h1
   .exact R.hO c rc g h1 h2 h3
  .simp[updM,hb]at hrb;simp[hb]at hd;exact R.hO b rb g hrb hd.2 hgb
 .intro b hd;rw[Zbf]at hd;by_cases hb:b=n
  .subst hb;exact⟨r,by simp[updM],by rw[Zbf];simpa using hB⟩
  .simp[hb]at hd;obtain⟨rb,h1,h2⟩:=R.blk b hd.2;refine⟨rb,by simp[updM,hb,h1],?_⟩;rw[Zbf];simp only[hb,hd.1,if_false];refine h2.keep hk λg hgb=>?_
   refine hg.block g (h2.lt hd.2 hgb).2 λe=>?_
   obtain⟨b',hb',r',h1',h2',h3'⟩:=hrow g e.symm;have:=R.inj b b' rb r' g h1 h1' hd.2 h2' hgb h3'
   simp_all
 .intro b b' rb rb' g h1 h1' hd hd' hgb hgb';rw[Zbf]at hd hd';by_cases hb:b=n<;>by_cases hb':b'=n
  .rw[hb,hb']
  .exfalso;subst hb;simp[updM]at h1;subst h1;simp[updM,hb']at h1';simp[hb']at hd';rcases hblk g hgb with h0|⟨c,hc,rc,hc1,hc2,hc3⟩
   .have:=(R.lt h1' hd'.2 hgb').2;omega
   .have:=R.inj b' c rb' rc g h1' hc1 hd'.2 hc2 hgb' hc3
    simp_all
  .exfalso;subst hb';simp[updM]at h1';subst h1';simp[updM,hb]at h1;simp[hb]at hd;rcases hblk g hgb' with h0|⟨c,hc,rc,hc1,hc2,hc3⟩
   .have:=(R.lt h1 hd.2 hgb).2;omega
   .have:=R.inj b c rb rc g h1 hc1 hd.2 hc2 hgb hc3
    simp_all
  .simp[updM,hb]at h1;simp[updM,hb']at h1';simp[hb]at hd;simp[hb']at hd';exact R.inj b b' rb rb' g h1 h1' hd.2 hd'.2 hgb hgb'
 .intro b b' rb rb' g h1 h1' hf hf' hgb hgb';rw[Zbf]at hf hf';by_cases hb:b=n<;>by_cases hb':b'=n
  .rw[hb,hb']
  .exfalso;subst hb;simp[updM]at h1;subst h1;simp[updM,hb']at h1';simp only[hb',if_false]at hf';simp only[if_true]at hf;by_cases hk':b'∈ks
   .simp[hk',Wf]at hf'
   .grind
  .exfalso;subst hb';simp[updM]at h1';subst h1';simp[updM,hb]at h1;simp only[hb,if_false]at hf;simp only[if_true]at hf';by_cases hk':b∈ks
   .simp[hk',Wf]at hf
   .grind
  .simp[updM,hb]at h1;simp[updM,hb']at h1';simp only[hb,if_false]at hf;simp only[hb',if_false]at hf';by_cases hk1:b∈ks
   .simp[hk1,Wf]at hf
   .by_cases hk2:b'∈ks
    .simp[hk2,Wf]at hf'
    .simp only[hk1,if_false]at hf;simp only[hk2,if_false]at hf';exact R.apart b b' rb rb' g h1 h1' hf hf' hgb hgb'
 .intro g hl hn';refine hg.block g hl λe=>?_
  obtain⟨c,_,rc,h1,h2,h3⟩:=hrow g e.symm;exact hn' (R.hO c rc g h1 h2 h3).1
end
open Go.RowKit (Below)
def Wk(ρ:Map)(w:World)(F:Nat->Prop)(e:Env)(tmps:Array Value):Prop:=∀s,RV ρ w F (lk s e) (tmps.getD s undef)
def OpOK(P:Program)(N:Par)(base:Nat)(ρ:Map)(h:V7)(w:World)(s:Sem Next)(v:AV)(u:List (Nat×Blk)):Prop :=
 ∃val w' ρ',((s.run P w=.ok (.value val) w')\/(s.run P w=.ok .skip w'/\val=undef))/\RV ρ' w' (Free N ρ' (upd h u)) v val/\Rel N base ρ' (upd h u) w'/\
  WD ρ w (Free N ρ h) ρ' w' (Free N ρ' (upd h u))/\(∀b,b ∉ u.map Prod.fst->ρ' b=ρ b)/\Below base w w'/\∀g,g<w.heap.size->¬N.a g->w'.heap[g]?=w.heap[g]?
section
variable{P:Program}{N:Par}{base:Nat}{ρ:Map}{h:V7}{w:World}{F:Nat->Prop}{e:Env}{a:Act}{v val:Value}{t:TypeId}{cs zs:V2}{nx:Nat}{x:AV}{s:Sem Next}
theorem RV.bool_inv{b:Bool}(hv:RV ρ w F (.t (.bool b)) v):v=.bool b:=by
 cases hv with|t h hf=>cases h;rfl
theorem RV.int_inv{k:IntKind}{n:Int}(hv:RV ρ w F (.t (.int k n)) v):v=.int k n:=by
 cases hv with|t h hf=>cases h;rfl
theorem RV.str_inv{s:YA}(hv:RV ρ w F (.t (.str s)) v):v=.string s:=by
 cases hv with|t h hf=>cases h;rfl
theorem RV.nil_inv(hv:RV ρ w F (.t .nil) v):v=.slice none 0 0:=by
 cases hv with|t h hf=>cases h;rfl
theorem RV.int_mk(k:IntKind)(n:Int):RV ρ w F (.t (.int k n)) (.int k n):=.t (.int k n) (by intro g hg;cases hg)
theorem RV.bool_mk(b:Bool):RV ρ w F (.t (.bool b)) (.bool b):=.t (.bool b) (by intro g hg;cases hg)
theorem RV.str_mk(s:YA):RV ρ w F (.t (.str s)) (.string s):=.t (.str s) (by intro g hg;cases hg)
theorem Zq6{x:T}(hv:valT v=some x):TR w x v []:=by
 unfold valT at hv;split at hv<;>cases hv
 .exact .int _ _
 .exact .bool _
 .exact .str _
 .exact .nil
theorem Z16(hv:valC v=some x):RV ρ w F x v/\v.oneCell'=true:=by
 unfold valC at hv;split at hv
 .cases hv;exact⟨.nilp,rfl⟩
 .obtain⟨t,ht,rfl⟩:=Ys.1 hv;exact⟨.t (Zq6 ht) (by intro g hg;cases hg),(Zq6 (w:=w) ht).one⟩
theorem Jy{α β:Type}{f:α->Option β}{x:α}{xs:List α}{ys:List β}(hm:mapO f (x::xs)=some ys):∃y zs,f x=some y/\mapO f xs=some zs/\ys=y::zs:=by
 unfold mapO at hm
 grind
theorem Zq7{cs:KI}(hm:mapO valC cs=some zs):RVs ρ w F zs cs/\∀v∈cs,v.oneCell'=true:=by
 induction cs generalizing zs with
 |nil=>cases hm;exact⟨.nil,by intro v hv;cases hv⟩
 |cons c cs ih =>
  obtain⟨y,ys,h1,h2,rfl⟩:=Jy hm;obtain⟨ha,hb⟩:=Z16 (ρ:=ρ) (w:=w) (F:=F) h1;obtain⟨hc,hd⟩:=ih h2;exact⟨.cons ha hc,by intro v hv;cases hv with|head=>exact hb|tail _ hv=>exact hd v hv⟩
theorem Z17{cs:KI}{zs:KS}(hm:mapO valT cs=some zs):TRs w zs cs []:=by
 induction cs generalizing zs with
 |nil=>cases hm;exact .nil
 |cons c cs ih =>
  obtain⟨y,ys,h1,h2,rfl⟩:=Jy hm;exact TRs.cons (Zq6 h1) (ih h2)
theorem ZEg(hv:valAV v=some x):RV ρ w F x v:=by
 unfold valAV at hv;split at hv
 .rename_i cs
  cases hm:mapO valC cs.toList with
  |none=>simp[hm]at hv
  |some zs =>
   simp[hm]at hv;subst hv;obtain⟨h1,h2⟩:=Zq7 (ρ:=ρ) (w:=w) (F:=F) hm;exact .agg h1 h2
 .exact(Z16 hv).1
theorem X2(hE:Wk ρ w F e a.tmps){x:Operand}{o:Opd}(ho:opd x=some o):RV ρ w F (ev e o) (a.eval x):=by
 cases x with
 |tmp t=>simp[opd]at ho;subst ho;exact hE t
 |const v =>
  simp only[opd]at ho
  cases hv:valAV v with
  |none=>simp[hv]at ho
  |some y=>simp[hv]at ho;subst ho;exact ZEg hv
 |global g=>simp[opd]at ho
 |func f=>simp[opd]at ho;subst ho;exact .fn .nil
theorem Ze4(hE:Wk ρ w F e a.tmps){xs:List Operand}{os:List Opd}(hm:mapO opd xs=some os):RVs ρ w F (os.map (ev e)) (xs.map a.eval):=by
 induction xs generalizing os with
 |nil=>cases hm;exact .nil
 |cons x xs ih =>
  obtain⟨y,ys,h1,h2,rfl⟩:=Jy hm;exact .cons (X2 hE h1) (ih h2)
theorem Zcs{v:AV}(hc:cellsOf v=some cs)(hv:RV ρ w F v val):RVs ρ w F cs val.cells.toList/\∀x∈val.cells.toList,x.oneCell'=true:=by
 cases hv with
 |top v=>simp[cellsOf]at hc
 |tup h=>simp[cellsOf]at hc
 |agg h h1=>simp[cellsOf]at hc;subst hc;exact⟨h,h1⟩
 |nilp=>simp[cellsOf]at hc;subst hc;exact⟨.cons .nilp .nil,by simp[Value.cells,Value.oneCell']⟩
 |t h hf =>
  simp[cellsOf]at hc;subst hc;have h1:=h.one
  have:val.cells=#[val]:=by cases val<;>first|rfl|simp[Value.oneCell']at h1
  rw[this]
  exact⟨.cons (.t h hf) .nil,by simpa using h1⟩
 |ptr hr hv=>simp[cellsOf]at hc;subst hc;exact⟨.cons (.ptr hr hv) .nil,by simp[Value.cells,Value.oneCell']⟩
 |eptr hr hv=>simp[cellsOf]at hc;subst hc;exact⟨.cons (.eptr hr hv) .nil,by simp[Value.cells,Value.oneCell']⟩
 |iptr hg hF h2 hf=>simp[cellsOf]at hc;subst hc;exact⟨.cons (.iptr hg hF h2 hf) .nil,by simp[Value.cells,Value.oneCell']⟩
 |@own b r hr h1 =>
  simp[cellsOf]at hc;subst hc
  have:r.v.cells=#[r.v]:=by cases hh:r.v<;>first|rfl|(rw[hh]at h1;simp[Value.oneCell']at h1)
  rw[this]
  exact⟨.cons (.own hr h1) .nil,by simpa using h1⟩
 |bsl hr hv=>simp[cellsOf]at hc;subst hc;exact⟨.cons (.bsl hr hv) .nil,by simp[Value.cells,Value.oneCell']⟩
 |fn h=>simp[cellsOf]at hc;subst hc;exact⟨.cons (.fn h) .nil,by simp[Value.cells,Value.oneCell']⟩
theorem OpOK.same(R:Rel N base ρ h w){v:AV}(hs:s.run P w=.ok (.value val) w)(hv:RV ρ w (Free N ρ h) v val):OpOK P N base ρ h w s v [] :=
 ⟨val,w,ρ,.inl hs,hv,R,.refl,λ_ _=>rfl,Below.refl _ _,λ_ _ _=>rfl⟩
theorem Z18(w:World)(o:Obj):w.grownBy (w.alloc o) none:=World.grownBy_alloc w o none
theorem OpOK.newBox(R:Rel N base ρ h w)(hn:ρ nx=none){c:Array Value}
  (hs:s.run P w=.ok (.value (.pointer (some ⟨w.heap.size,0,none⟩))) (w.alloc (.cells c t))) (hc:RVs ρ w (Free N ρ h) cs c.toList) (h1:∀v∈c.toList,v.oneCell'=true) :
  OpOK P N base ρ h w s (.ptr nx 0) [(nx,.box cs)]:=by
 have hp:=K9 R (n:=nx) (ks:=[]) (x:=.box cs) (r:=⟨.pointer (some ⟨w.heap.size,0,none⟩),[]⟩) (row:=none) (w':=w.alloc (.cells c t))
  (by intro r0 h0;rw[hn]at h0;cases h0) (Z18 w _) (by intro g hg;cases hg) (by intro g hg;simp[X6]at hg;exact .inl (by omega))
  (λhk=>⟨w.heap.size,c,t,rfl,R.hb,heap_alloc_new w _,hc.keep hk,h1⟩) (by intro hf;cases hf)
 refine⟨_,_,updM ρ nx ⟨.pointer (some ⟨w.heap.size,0,none⟩),[]⟩,.inl hs,?_,hp.1,hp.2.1,?_,(Below.refl _ _).alloc R.hb _,hp.2.2⟩
 .exact .ptr (r:=⟨.pointer (some ⟨w.heap.size,0,none⟩),[]⟩) (by simp[updM]) rfl
 .intro b hb;simp at hb;simp[updM,hb]
theorem wz1_rel{n:Option Nat}{v:AV}{x:Value}(h:RV ρ w F v x):RV ρ w F (wz1 n v) x:=by
 unfold wz1;split
 .cases h with
  |t hT hf=>cases hT;exact .t (.lst0 _ _ _) (by intro g hg;cases hg)
 .exact h
theorem Zq8:∀{ns:List (Option Nat)} {vs:V2} {xs:KI},RVs ρ w F vs xs->RVs ρ w F (wzA ns vs) xs
 |[],_,_,h=>by unfold wzA;exact h
 |n::ns,[],_,h=>by unfold wzA;exact h
 |n::ns,v::vs,_,h=>by
  unfold wzA
  cases h with
  |cons h hs=>exact .cons (wz1_rel h) (Zq8 hs)
theorem run_zero{i:TypeInfo}{z:Value}(hi:P.info? t=some i)(hz:i.zero=some z)(w:World):(zeroValue t).run P w=.ok z w:=by
 simp[zeroValue,typeInfo,hi,hz]
theorem ok_alloc(R:Rel N base ρ h w)(hn:ρ nx=none)(hz:zeroC P t=some zs) :
  OpOK P N base ρ h w (do pure (.value (<-Instr.alloc t true (.tuple #[])))) (.ptr nx 0) [(nx,.box zs)]:=by
 unfold zeroC at hz
 cases hi:P.info? t with
 |none=>simp[hi]at hz
 |some i =>
  cases hzz:i.zero with
  |none=>simp[hi,hzz]at hz
  |some z =>
   simp[hi,hzz]at hz;obtain⟨zs0,hz,rfl⟩:=hz;obtain⟨h1,h2⟩:=Zq7 (ρ:=ρ) (w:=w) (F:=Free N ρ h) hz;exact .newBox R hn (c:=z.cells) (t:=t) (by simp[Instr.alloc,run_zero hi hzz,newVar,newRow]) (Zq8 h1) h2
theorem ok_box(R:Rel N base ρ h w)(hn:ρ nx=none){v:AV}(hv:RV ρ w (Free N ρ h) v val)(hc:cellsOf v=some cs) :
  OpOK P N base ρ h w (do pure (.value (<-Instr.box t val))) (.ptr nx 0) [(nx,.box cs)]:=by
 obtain⟨h1,h2⟩:=Zcs hc hv;exact .newBox R hn (c:=val.cells) (t:=t) (by simp[Instr.box,newVar,newRow]) h1 h2
end
open Go.RowKit (Below)
section
variable{P:Program}{N:Par}{base:Nat}{ρ:Map}{h:V7}{w:World}{F:Nat->Prop}{e:Env}{a:Act}{t te:TypeId}{g o off k sz i:Nat}{c:Array Value}{fz:Nat×Nat}{fp:V8}{v val:Value}{n:Option Nat}{cs ts:KS}{es:V5}{xs:KI}
theorem Jz(g o j:Nat):(⟨g,o,none⟩:Addr).add j=⟨g,o+j,none⟩:=by unfold Addr.add;split<;>simp_all
theorem Z19{n:Nat}(hg:w.heap[g]?=some (.cells c t fz)){j:Nat}(hj:((c.toList.drop o).take n)[j]?=some v) :
  w.cell? ((⟨g,o,none⟩:Addr).add j)=some v:=by
 rw[Jz,cell_of_row w g (o+j) c t fz hg]
 grind
theorem Zma(hn:UO P t=some n)(w:World):(isAgg t).run P w=.ok n.isSome w:=by
 unfold UO at hn;split at hn
 .rename_i fs hu;cases hi:P.info? t<;>simp[hi]at hn;subst hn;simp[isAgg,run_underlying hu]
 .rename_i m el hu;cases hi:P.info? t<;>simp[hi]at hn;subst hn;simp[isAgg,run_underlying hu]
 .rename_i d h1 h2 hu;simp at hn;subst hn;simp only[isAgg,Sem.run_bind,run_underlying hu,Result.andThen_ok];simp
 .cases hn
theorem Zq9(hn:UO P t=some (some k)):∃i,P.info? t=some i/\i.size=k:=by
 unfold UO at hn;split at hn
 .simp_all
 .simp_all
 .simp at hn
 .cases hn
theorem Z1A(hn:UO P t=some none)(hg:w.heap[g]?=some (.cells c te fz))(hv:c.toList[o]?=some v) :
  (loadVar t ⟨g,o,none⟩).run P w=.ok v w:=by
 have hc:w.cell? ⟨g,o,none⟩=some v:=by rw[cell_of_row w g o c te fz hg];simpa using hv
 simp[loadVar,Zma hn,hc]
theorem Z1B(hn:UO P t=some (some k))(hg:w.heap[g]?=some (.cells c te fz)){vs:KI}
  (hv:(c.toList.drop o).take k=vs) (hl:vs.length=k):(loadVar t ⟨g,o,none⟩).run P w=.ok (.agg vs.toArray) w:=by
 obtain⟨i,hi,hs⟩:=Zq9 hn;have:=run_loadCells_list (P:=P) w ⟨g,o,none⟩ vs (λj v hj=>Z19 (n:=k) hg (by rw[hv];exact hj));rw[hl]at this;simp[loadVar,Zma hn,sizeOf,typeInfo,hi,hs,this]
theorem Z1C(hn:UO P t=some n)(hg:w.heap[g]?=some (.cells c te fz)){cs:V2}
  (hc:RVs ρ w F cs c.toList) (h1:∀v∈c.toList,v.oneCell'=true) {v:AV} (hv:Q7 cs o n=some v):∃val,(loadVar t ⟨g,o,none⟩).run P w=.ok val w/\RV ρ w F v val:=by
 cases n with
 |none =>
  obtain⟨val,h2,h3⟩:=hc.at hv
  grind [Z1A]
 |some k =>
  simp only[Q7]at hv;split at hv
  .rename_i hle;simp at hv;subst hv;have hl:=hc.length;refine⟨_,Z1B hn hg rfl (by simp;simp at hl;omega),.agg (by simpa using(hc.drop o).take k) ?_⟩
   grind
  .cases hv
theorem Z1D(hn:UO P t=some n)(hg:w.heap[g]?=some (.cells c te fz))
  (hc:TRs w cs ((c.toList.drop o).take cs.length) fp) (hf:∀g∈fp,F g) {v:AV} (hv:Zbc cs off n=some v):∃val,(loadVar t ⟨g,o+off,none⟩).run P w=.ok val w/\RV ρ w F v val:=by
 cases n with
 |none =>
  simp only[Zbc]at hv
  cases hx:cs[off]? with
  |none=>simp[hx]at hv
  |some x =>
   simp[hx]at hv;subst hv;obtain⟨val,fq,h2,h3,h4⟩:=hc.at hx;refine⟨val,Z1A hn hg ?_,.t h3 λg hg=>hf g (h4 g hg)⟩
   grind
 |some k =>
  simp only[Zbc]at hv;split at hv
  .rename_i hle;simp at hv;subst hv;have hl:=hc.length;simp at hl;have hR:=RVs.of_TRs (ρ:=ρ) hc hf;have e1:(c.toList.drop (o+off)).take k=((((c.toList.drop o).take cs.length).drop off).take k):=by
    grind [List.drop_take,List.drop_drop]
   refine⟨_,Z1B hn hg e1 (by simp;omega),.agg ?_ ?_⟩
   .simpa[List.map_drop,List.map_take]using(hR.drop off).take k
   .intro v hv;exact hc.one v (Ycr (Ybl hv))
  .cases hv
theorem Z1E{c t:T}(h:TR w t v fp):TR w (wk1 c t) v fp:=by
 unfold wk1;split
 .cases h;exact .lst0 _ _ _
 .exact h
theorem ZhB:∀{cs ts:KS} {vs:KI} {fp:V8},TRs w ts vs fp->TRs w (wk cs ts) vs fp
 |[],_,_,_,h=>by unfold wk;exact h
 |c::cs,[],_,_,h=>by unfold wk;exact h
 |c::cs,t::ts,_,_,h=>by
  unfold wk
  cases h with
  |cons h hs=>exact .cons (Z1E h) (ZhB hs)
theorem Zct:∀{cs ts:KS},(wk cs ts).length=ts.length
 |[],_=>by unfold wk;rfl
 |c::cs,[]=>by unfold wk;rfl
 |c::cs,t::ts=>by unfold wk;simp[Zct (cs:=cs) (ts:=ts)]
theorem TRs.elem(hc:TRs w es.flatten xs fp)(hl:∀x∈es,x.length=sz)(hi:es[i]?=some cs) :
  ∃fq,TRs w cs ((xs.drop (i*sz)).take cs.length) fq/\∀g∈fq,g∈fp:=by
 induction es generalizing xs fp i with
 |nil=>simp at hi
 |cons x es ih =>
  rw[Ybc]at hc;obtain⟨fa,fb,rfl,h1,h2⟩:=hc.split
  cases i with
  |zero =>
   grind
  |succ i =>
   obtain⟨fq,h3,h4⟩:=ih h2 (λy hy=>hl y (by simp[hy])) (by simpa using hi);refine⟨fq,?_,λg hg=>by simp[h4 g hg]⟩;rw[hl x (by simp),Yb2]at h3
   grind
theorem J0(hl:∀x∈es,x.length=sz):es.flatten.length=es.length*sz:=by
 induction es with
 |nil=>simp
 |cons x es ih =>
  grind
theorem TRs.splice{A B C:KS}{ys:KI}{fq:V8}(hc:TRs w (A++B++C) xs fp)(ht:TRs w ts ys fq) :
  ∃fa fb fc,fp=fa++fb++fc/\TRs w (A++ts++C) (xs.take A.length++ys++xs.drop (A.length+B.length)) (fa++fq++fc):=by
 obtain⟨fab,fc,rfl,h1,h2⟩:=hc.split;obtain⟨fa,fb,rfl,h3,h4⟩:=h1.split;refine⟨fa,fb,fc,rfl,?_⟩;have e1:(xs.take (A++B).length).take A.length=xs.take A.length:=by rw[Ycs];congr 1;simp
 rw[e1]at h3;rw[Yq]at h2;exact(h3.append ht).append h2
theorem Z1F(hi:es[i]?=some cs)(hle:off+ts.length<=cs.length) :
  es.flatten=((es.take i).flatten++cs.take off)++(cs.drop off).take ts.length++(cs.drop (off+ts.length)++(es.drop (i+1)).flatten)/\
  (es.set i (setT cs off ts)).flatten=((es.take i).flatten++cs.take off)++ts++(cs.drop (off+ts.length)++(es.drop (i+1)).flatten):=by
 have hlt:i<es.length:=by
  grind
 have hsplit:es=es.take i++cs::es.drop (i+1):=by
  have:=Ybh.1 hi;obtain⟨_,rfl⟩:=this;simp
 constructor
 .grind [List.flatten_append,List.flatten_cons,List.drop_drop,List.take_append_drop,List.append_assoc]
 .have:es.set i (setT cs off ts)=es.take i++setT cs off ts::es.drop (i+1):=by
   grind
  rw[this,Yce,Ybc];simp[setT,Y6]
theorem ZqA{i:TypeInfo}(hi:P.info? t=some i)(hg:w.heap[g]?=some (.cells c te (0,0)))(hs:val.cells.size=i.size)
  (hle:o+i.size<=c.size) (h1:∀v∈val.cells.toList,v.oneCell'=true) :
  (storeVar t ⟨g,o,none⟩ val).run P w=.ok () (w.setRow g (c.toList.take o++val.cells.toList++c.toList.drop (o+i.size)).toArray):=by
 have:=run_storeCells_at P g o te val.cells.toList 0 c w hg (by simp[hs];omega) h1;simp only[Ybt,Yz,hs]at this;simp[storeVar,sizeOf,typeInfo,hi,hs,this]
theorem Ze5(w:World)(g:Nat)(cs:Array Value):w.grownBy (w.setRow g cs) (some g) :=
 ⟨rfl,rfl,rfl,by simp,λk _ hk=>setRow_other w g k cs λe=>hk (by rw[e])⟩
theorem Below.setRow{w:World}{base:Nat}(hg:base<=g)(cs:Array Value):Below base w (w.setRow g cs) :=
 ⟨rfl,rfl,rfl,by simp,λk hk=>setRow_other w g k cs (by omega)⟩
theorem ZEh(R:Rel N base ρ h w){b:Nat}{cs:V2}(hb:gt h b=.box cs){x v:AV}{vs:V2}{px:Value}(hx:x=.ptr b off)(hpx:RV ρ w (Free N ρ h) x px)
  (hc:cellsOf v=some vs) (hv:RV ρ w (Free N ρ h) v val) {i:TypeInfo} (hi:P.info? t=some i) (hl:vs.length=i.size) (hle:off+i.size<=cs.length) :
  OpOK P N base ρ h w (do Instr.storeAt t px val;pure .skip) .top [(b,.box (setCells cs off vs))]:=by
 subst hx
 cases hpx with
 |@ptr _ _ g r hr hrv =>
  have hd:gt h b≠.dead:=by rw[hb];intro hc;cases hc
  obtain⟨r',h1,h2⟩:=R.blk b hd;rw[hr]at h1;cases h1;rw[hb]at h2;obtain⟨g',c,te,hv',hbase,hh,hcs,hone⟩:=h2;rw[hrv]at hv';cases hv';obtain⟨hvs,hone'⟩:=Zcs hc hv;have hcl:=hcs.length;have hvl:=hvs.length;simp only[Yz]at hcl hvl;have hrun:=ZqA (P:=P) hi hh (o:=off) (val:=val) (by omega) (by omega) hone';have hnew:RVs ρ w (Free N ρ h) (setCells cs off vs) (c.toList.take off++val.cells.toList++c.toList.drop (off+i.size)):=by
   rw[setCells,hl];exact((hcs.take off).append hvs).append (hcs.drop _)
  have hp:=K9 R (n:=b) (ks:=[]) (x:=.box (setCells cs off vs)) (r:=r) (row:=some g) (w':=w.setRow g (c.toList.take off++val.cells.toList++c.toList.drop (off+i.size)).toArray)
   (by intro r0 h0;rw[hr]at h0;cases h0;rfl) (Ze5 w g _)
   (by intro g' hg';cases hg';exact⟨b,.inr rfl,r,hr,hd,(by rw[hrv];rfl)⟩)
   (by intro g' hg';exact .inr ⟨b,.inr rfl,r,hr,hd,hg'⟩)
   (λhk=>⟨g,_,te,hrv,hbase,setRow_heap w g c _ te _ hh,hnew.keep hk,by
    intro x hx;change x∈c.toList.take off++val.cells.toList++c.toList.drop (off+i.size)at hx;rcases Yu.1 hx with hx|hx
    .rcases Yu.1 hx with hx|hx
     .exact hone x (Ybl hx)
     .exact hone' x hx
    .exact hone x (Ycr hx)⟩)
   (by intro hf;cases hf)
  refine⟨undef,_,updM ρ b r,.inr ⟨by simp[Instr.storeAt,Instr.sureAddr,hrun],rfl⟩,.top _,hp.1,hp.2.1,?_,Below.setRow hbase _,hp.2.2⟩;intro b' hb';simp at hb';simp[updM,hb']
end
open Go.RowKit (Below)
section
variable{P:Program}{N:Par}{base:Nat}{ρ:Map}{h:V7}{w w':World}{F:Nat->Prop}{e:Env}{a:Act}{ks fp ks':V8}{f fr:Bool}{vs cs:V2}{ts xs:KS}{r:Root}{b el sz off:Nat}{v:AV}{val px:Value}{x:Blk}{es:V5}{t:TypeId}
theorem ZhC{l:V8}:UJ l=true↔l.Nodup:=by
 induction l with
 |nil=>simp[UJ]
 |cons x l ih=>simp[UJ,ih]
structure Took (N:Par) (base:Nat) (ρ:Map) (h:V7) (ks:V8) (fp:V8) (f:Bool):Prop where
 free:∀g∈fp,Free N ρ h g\/∃k∈ks,Jx ρ h k g
 fresh:f=true->∀g∈fp,N.f g/\∃k∈ks,∃r,ρ k=some r/\((gt h k≠.dead/\X6 r.v=some g)\/(Wf (gt h k)=true/\g∈r.fp))
 nodup:f=true->ks.Nodup->fp.Nodup
theorem JY(hx:Wf x=true):x≠.dead:=by intro hc;rw[hc]at hx;cases hx
theorem Rel.free_fp(R:Rel N base ρ h w){k:Nat}(hr:ρ k=some r)(hf:Wf (gt h k)=true):∀g∈r.fp,Free N ρ h g:=by
 obtain⟨r',h1,h2⟩:=R.blk k (JY hf);rw[hr]at h1;cases h1
 cases hx:gt h k with
 |dead=>rw[hx]at hf;cases hf
 |box cs=>rw[hx]at hf;cases hf
 |arr e sz fr es =>
  rw[hx]at h2;obtain⟨_,xs,_,_,_,_,_,h6,_⟩:=h2;exact h6
theorem Took.nil(f:Bool):Took N base ρ h [] [] f:=⟨(by intro g hg;cases hg),(by intro _ g hg;cases hg),λ_ _=>Ybf⟩
theorem Took.append(R:Rel N base ρ h w){ls fq:V8}{g:Bool}(A:Took N base ρ h ks fp f)(B:Took N base ρ h ls fq g):Took N base ρ h (ks++ls) (fp++fq) (f && g):=by
 refine⟨?_,?_,?_⟩
 .intro x hx;rcases Yu.1 hx with hx|hx
  .exact(A.free x hx).imp id λ⟨k,hk,ho⟩=>⟨k,by simp[hk],ho⟩
  .exact(B.free x hx).imp id λ⟨k,hk,ho⟩=>⟨k,by simp[hk],ho⟩
 .intro hf x hx;simp only[Yg]at hf;rcases Yu.1 hx with hx|hx
  .obtain⟨h1,k,hk,h2⟩:=A.fresh hf.1 x hx;exact⟨h1,k,by simp[hk],h2⟩
  .obtain⟨h1,k,hk,h2⟩:=B.fresh hf.2 x hx;exact⟨h1,k,by simp[hk],h2⟩
 .intro hf hn;simp only[Yg]at hf;rw[Yb4]at hn|-;refine⟨A.nodup hf.1 hn.1,B.nodup hf.2 hn.2.1,?_⟩;intro x hx y hy hxy;subst hxy;obtain⟨_,k,hk,r,h1,h3⟩:=A.fresh hf.1 x hx;obtain⟨_,l,hl,s,h4,h6⟩:=B.fresh hf.2 x hy;refine hn.2.2 k hk l hl ?_;rcases h3 with⟨h2,h3⟩|⟨h2,h3⟩<;>rcases h6 with⟨h5,h6⟩|⟨h5,h6⟩
  .exact R.inj k l r s x h1 h4 h2 h5 h3 h6
  .exact absurd h3 ((R.free_fp h4 h5 x h6).2 k r h1 h2)
  .exact absurd h6 ((R.free_fp h1 h2 x h3).2 l s h4 h5)
  .exact R.apart k l r s x h1 h4 h2 h5 h3 h6
theorem ZhD(R:Rel N base ρ h w)(hr:ρ b=some r)(hb:gt h b=.arr el sz fr es) :
  ∃fp,TR w (.lst sz es) r.v fp/\Took N base ρ h [b] fp fr/\∀g∈fp,X6 r.v=some g\/g∈r.fp:=by
 have hd:gt h b≠.dead:=by rw[hb];intro hc;cases hc
 obtain⟨r',h1,h2⟩:=R.blk b hd;rw[hr]at h1;cases h1;have h2':=h2;rw[hb]at h2;obtain⟨e',xs,he',ho,hsz,hl,ht,hf,hfr⟩:=h2;by_cases hne:es=[]
 .subst hne;refine⟨[],?_,⟨(by intro g hg;cases hg),(by intro _ g hg;cases hg),λ_ _=>Ybf⟩,(by intro g hg;cases hg)⟩;rcases ho.2 with⟨hv,_⟩|⟨g,cap,cur,hv,_⟩
  .rw[hv];exact .lst0 _ _ _
  .rw[hv];exact .lst0 _ _ _
 .rcases ho.2 with⟨hv,hz⟩|⟨g,cap,cur,hv,hbg,hg,hcap,_,hcs,htake⟩
  .simp_all
  .have hblk:X6 r.v=some g:=by rw[hv];rfl
   refine⟨g::r.fp,?_,⟨?_,?_,?_⟩,?_⟩
   .rw[hv];refine .lst hne hsz hcap hg hl ?_
    simp_all
   .intro x hx
    cases hx with
    |head=>exact .inr ⟨b,by simp,r,hr,hd,hblk⟩
    |tail _ hx=>exact .inl (hf x hx)
   .intro hft x hx
    cases hx with
    |head=>exact⟨(R.hO b r g hr hd hblk).2,b,by simp,r,hr,.inl ⟨hd,hblk⟩⟩
    |tail _ hx=>exact⟨(hfr hft).2 x hx,b,by simp,r,hr,.inr ⟨by rw[hb];exact hft,hx⟩⟩
   .intro hft _;refine Ycf.2 ⟨λhx=>?_,(hfr hft).1⟩;exact(hf g hx).2 b r hr hd hblk
   .simp_all
theorem toT_rel(R:Rel N base ρ h w){x:T}(ht:toT h v=some (x,f,ks))(hv:RV ρ w (Free N ρ h) v val) :
  ∃fp,TR w x val fp/\Took N base ρ h ks fp f:=by
 cases hv with
 |t hT hf =>
  simp[toT]at ht;obtain⟨rfl,rfl,rfl⟩:=ht;refine⟨_,hT,⟨λg hg=>.inl (hf g hg),λhs=>?_,λhs _=>?_⟩⟩
  .cases hT<;>first|(intro g hg;cases hg;done)|simp[XN]at hs
  .cases hT<;>first|exact Ybf|simp[XN]at hs
 |@own b r hr h1 =>
  simp only[toT]at ht;split at ht
  .grind [ZhD]
  .cases ht
 |_=>simp[toT]at ht
theorem ZqB(R:Rel N base ρ h w){vals:KI}(ht:toTs h vs=some (xs,f,ks))(hv:RVs ρ w (Free N ρ h) vs vals) :
  ∃fp,TRs w xs vals fp/\Took N base ρ h ks fp f:=by
 induction vs generalizing xs f ks vals with
 |nil=>simp[toTs]at ht;obtain⟨rfl,rfl,rfl⟩:=ht;cases hv;exact⟨[],.nil,.nil _⟩
 |cons v vs ih =>
  cases hv with
  |cons hv hvs =>
   simp only[toTs]at ht;split at ht
   .rename_i x f1 k1 xs1 f2 k2 h1 h2;simp at ht;obtain⟨rfl,rfl,rfl⟩:=ht;obtain⟨fp,h3,h4⟩:=toT_rel R h1 hv;obtain⟨fq,h5,h6⟩:=ih h2 hvs;exact⟨fp++fq,.cons h3 h5,h4.append R h6⟩
   .cases ht
theorem ZqC(ht:toTs h vs=some (xs,f,ks)):xs.length=vs.length:=by
 induction vs generalizing xs f ks with
 |nil=>simp[toTs]at ht;obtain⟨rfl,_⟩:=ht;rfl
 |cons v vs ih =>
  simp only[toTs]at ht
  grind
theorem ZqD(R:Rel N base ρ h w)(A:Took N base ρ h ks fp f){n:Nat}{row:Option Nat}
  (hk:WD ρ w (Free N ρ h) (updM ρ n r) w' (Free N (updM ρ n r) (upd h (kill ks'++[(n,x)])))) (hg:w.grownBy w' row) (hsub:∀k∈ks,k∈ks')
  (hrow:∀g k,k∈ks->Jx ρ h k g->row≠some g/\X6 r.v≠some g) (hlt:∀g∈fp,g<w.heap.size) :
  ∀g∈fp,Free N (updM ρ n r) (upd h (kill ks'++[(n,x)])) g/\w'.heap[g]?=w.heap[g]?:=by
 intro g hgf;rcases A.free g hgf with h1|⟨k,hks,ho⟩
 .exact hk.free g (hlt g hgf) h1
 .obtain⟨h2,h3⟩:=hrow g k hks ho;refine⟨⟨?_,?_⟩,hg.block g (hlt g hgf) (λe=>h2 e.symm)⟩
  .obtain⟨rk,hk1,hk2,hk3⟩:=ho;exact(R.hO _ rk g hk1 hk2 hk3).1
  intro b rb hrb hd he;rw[Zbf]at hd;by_cases hb:b=n
  .subst hb;simp[updM]at hrb;subst hrb;exact h3 he
  .simp[updM,hb]at hrb;simp[hb]at hd;obtain⟨rk,hk1,hk2,hk3⟩:=ho;have:=R.inj b k rb rk g hrb hk1 hd.2 hk2 he hk3
   simp_all
theorem Z1G(R:Rel N base ρ h w)(A:Took N base ρ h ks fp f)(hf:f=true)(hsub:∀k∈ks,k∈ks'){g d:Nat}{rd:Root}(hg:g∈fp)(hd:d ∉ ks')
  (hr:ρ d=some rd) (hfd:Wf (gt h d)=true):g ∉ rd.fp:=by
 intro hgd;obtain⟨_,k,hk,r,h1,h3⟩:=A.fresh hf g hg;rcases h3 with⟨h2,h3⟩|⟨h2,h3⟩
 .exact(R.free_fp hr hfd g hgd).2 k r h1 h2 h3
 .exact hd (R.apart k d r rd g h1 hr h2 hfd h3 hgd▸hsub k hk)
theorem ZEi(R:Rel N base ρ h w){i sz':Nat}(hb:gt h b=.arr el sz fr es){cs:KS}(hi:es[i]?=some cs)
  (hpx:RV ρ w (Free N ρ h) (.eptr b i sz' off) px) (hsz':sz'=sz) (hc:cellsOf v=some vs) (hv:RV ρ w (Free N ρ h) v val) (ht:toTs h vs=some (ts,f,ks)) {inf:TypeInfo} (hinf:P.info? t=some inf) (hl:vs.length=inf.size) (hle:off+inf.size<=cs.length) (hnd:UJ (b::ks)=true) :
  OpOK P N base ρ h w (do Instr.storeAt t px val;pure .skip) .top (kill ks++[(b,.arr el sz (fr && f) (es.set i (setT cs off (wk (cs.drop off) ts))))]):=by
 subst hsz';rw[ZhC,Ycf]at hnd;have hd:gt h b≠.dead:=by rw[hb];intro hc;cases hc
 obtain⟨r,hr,hB⟩:=R.blk b hd;rw[hb]at hB;obtain⟨el',xs,hel,ho,hsz,hlen,htr,hfree,hfr⟩:=hB
 cases hpx with
 |@eptr _ _ _ _ g n cap r2 hr2 hrv =>
  rw[hr]at hr2;cases hr2;rcases ho.2 with⟨hv0,hz⟩|⟨g',cap',cur,hv',hbg,hg,hcap,hcm,hcs,htake⟩
  .rw[hrv]at hv0;cases hv0
  .rw[hrv]at hv';cases hv';obtain⟨hvs,hone⟩:=Zcs hc hv;obtain⟨fq,htq,hT⟩:=ZqB R ht hvs;have htl:=ZqC ht;have hwl:(wk (cs.drop off) ts).length=ts.length:=Zct;replace htq:=ZhB (cs:=cs.drop off) htq;have hvl:=hvs.length;simp only[Yz]at hvl;have hcsl:cs.length=sz':=hlen cs (Y8 hi);have hilt:i<es.length:=(Ybh.1 hi).1;have hmul:i*sz'+sz'<=es.length*sz':=by
    have:=Ybd sz' (show i+1<=es.length from hilt)
    rwa [Ybu,Yct]at this
   have hmul2:es.length*sz'<=cap*sz':=Ybd _ hcap;have hblk:X6 r.v=some g:=by rw[hrv];rfl
   have hrun:=ZqA (P:=P) hinf hg (o:=i*sz'+off) (val:=val) (by omega) (by omega) hone;have hfl:=Z1F (ts:=wk (cs.drop off) ts) (off:=off) hi (by omega);rw[hfl.1]at htr;obtain⟨fa,fb,fc,hfp,hnew⟩:=htr.splice htq;rw[<-hfl.2]at hnew;have hAl:((es.take i).flatten++cs.take off).length=i*sz'+off:=by
    rw[Yq,J0 λx hx=>hlen x (Ybl hx)];simp;rw[Ybn (by omega),Ybn (by omega)]
   have hBl:((cs.drop off).take (wk (cs.drop off) ts).length).length=inf.size:=by simp;omega
   rw[hAl,hBl]at hnew;have hxl:xs.length=es.length*sz':=ho.1;have hlt1:=htr.lt;have hlt2:=htq.lt;have hgx:∀g∈fa++fq++fc,g∈r.fp\/g∈fq:=by
    intro x hx;simp only[Yu]at hx;rcases hx with(hx|hx)|hx
    .exact .inl (by rw[hfp];simp[hx])
    .exact .inr hx
    .exact .inl (by rw[hfp];simp[hx])
   have hset:∀x∈es.set i (setT cs off (wk (cs.drop off) ts)),x.length=sz':=by
    intro x hx;rcases List.mem_or_eq_of_mem_set hx with hx|hx
    .exact hlen x hx
    .subst hx;simp[setT];omega
   have hp:=K9 R (n:=b) (ks:=ks) (x:=.arr el sz' (fr && f) (es.set i (setT cs off (wk (cs.drop off) ts)))) (r:=⟨r.v,fa++fq++fc⟩) (row:=some g)
    (w':=w.setRow g (cur.toList.take (i*sz'+off)++val.cells.toList++cur.toList.drop (i*sz'+off+inf.size)).toArray)
    (by intro r0 h0;rw[hr]at h0;cases h0;rfl) (Ze5 w g _)
    (by intro g' hg';cases hg';exact⟨b,.inr rfl,r,hr,hd,hblk⟩)
    (by intro g' hg';exact .inr ⟨b,.inr rfl,r,hr,hd,hg'⟩)
    (λhk=>by
     have hta:=ZqD R hT hk (Ze5 w g _) (λk hk=>hk) (by
      intro g' k hk' ho';have hne:g'≠g:=by
       intro he;subst he;obtain⟨rk,h1,h2,h3⟩:=ho';exact hnd.1 (R.inj b k r rk g' hr h1 hd h2 hblk h3▸hk')
      exact⟨λhe=>hne (by cases he;rfl),λhe=>hne (by rw[hblk]at he;cases he;rfl)⟩) hlt2
     have hall:∀g'∈fa++fq++fc,Free N (updM ρ b ⟨r.v,fa++fq++fc⟩) (upd h (kill ks++[(b,.arr el sz' (fr && f) (es.set i (setT cs off (wk (cs.drop off) ts))))])) g'/\
       (w.setRow g (cur.toList.take (i*sz'+off)++val.cells.toList++cur.toList.drop (i*sz'+off+inf.size)).toArray).heap[g']?=w.heap[g']?:=by
      intro g' hg';rcases hgx g' hg' with h1|h1
      .exact hk.free g' (hlt1 g' h1) (hfree g' h1)
      .exact hta g' h1
     refine⟨el',xs.take (i*sz'+off)++val.cells.toList++xs.drop (i*sz'+off+inf.size),hel,⟨?_,.inr ⟨g,cap,_,hrv▸(by simp),hbg,setRow_heap w g cur _ el' _ hg,by simpa using hcap,hcm,?_,?_⟩⟩,hsz,hset,?_,λg' hg'=>(hall g' hg').1,?_⟩
     .simp only[Yq,Ybo,Ycu,Yz,Ybm];omega
     .simp only[Ydh,Yq,Ybo,Ycu,Yz];omega
     .rw[<-htake];simp only[Ybm];have e1:(cur.toList.take (es.length*sz')).take (i*sz'+off)=cur.toList.take (i*sz'+off):=by rw[Ycs];congr 1;omega
      rw[e1];have hl1:(cur.toList.take (i*sz'+off)++val.cells.toList).length=i*sz'+off+inf.size:=by simp;omega
      rw[List.take_append,hl1,Ybp (by omega),Ycq]
     .exact hnew.frame λg' hg'=>(hall g' hg').2
     .intro hfrf;simp only[Yg]at hfrf;have h1:=(hfr hfrf.1);have h2:=hT.nodup hfrf.2 hnd.2;constructor
      .rw[hfp]at h1;have h3:=h1.1;have hdis:∀x,x∈fq->x ∉ r.fp:=by
        intro x hx hx';obtain⟨_,k,hk',rk,h4,h6⟩:=hT.fresh hfrf.2 x hx;have hfb:Wf (gt h b)=true:=by rw[hb];exact hfrf.1
        rcases h6 with⟨h5,h6⟩|⟨h5,h6⟩
        .exact(R.free_fp hr hfb x hx').2 k rk h4 h5 h6
        .exact hnd.1 (R.apart b k r rk x hr h4 hfb h5 hx' h6▸hk')
       rw[hfp]at hdis;rw[Yb4,Yb4]at h3|-;refine⟨⟨h3.1.1,h2,?_⟩,h3.2.1,?_⟩
       .intro x hx y hy hxy;subst hxy;exact hdis x hy (by simp[hx])
       .intro x hx y hy hxy;subst hxy;rcases Yu.1 hx with hx|hx
        .exact h3.2.2 x (by simp[hx]) x hy rfl
        .exact hdis x hx (by simp[hy])
      .intro x hx;rcases hgx x hx with hx|hx
       .exact h1.2 x hx
       .exact(hT.fresh hfrf.2 x hx).1)
    (by
     intro hff x hx d rd hdk hdn hrd hfd;simp only[Wf,Yg]at hff;rcases hgx x hx with hx|hx
     .intro hx';exact hdn (R.apart b d r rd x hr hrd (by rw[hb];exact hff.1) hfd hx hx'▸rfl)
     .exact Z1G R hT hff.2 (λk hk=>hk) hx hdk hrd hfd)
   refine⟨undef,_,updM ρ b ⟨r.v,fa++fq++fc⟩,.inr ⟨by simp[Instr.storeAt,Instr.sureAddr,hrun],rfl⟩,.top _,hp.1,hp.2.1,?_,Below.setRow hbg _,hp.2.2⟩;intro b' hb';simp at hb';simp[updM,hb'.2]
theorem wkA_rel{vs:KI}(h:TRs w ts vs fp)(hf:∀g∈fp,F g):RVs ρ w F (wkA cs ts) vs:=by
 induction ts generalizing cs vs fp with
 |nil=>cases h;cases cs with
  |nil=>exact .nil
  |cons c cs=>cases c<;>exact .nil
 |cons t ts ih =>
  cases h with
  |cons h hs =>
   have h1:∀c,RV ρ w F (.t (wk1 c t)) _:=λc=>.t (Z1E h) λg hg=>hf g (by simp[hg])
   have h2:RV ρ w F (.t t) _:=.t h λg hg=>hf g (by simp[hg])
   have h3:=λcs=>ih (cs:=cs) hs λg hg=>hf g (by simp[hg])
   cases cs with
   |nil =>
    have h4:=h3 [];unfold wkA at h4|-
    exact .cons h2 h4
   |cons c cs =>
    cases c<;>unfold wkA<;>first|exact .cons h2 (h3 cs)|exact .cons (h1 _) (h3 cs)
theorem wkA_len:(wkA cs ts).length=ts.length:=by
 induction ts generalizing cs with
 |nil=>cases cs with
  |nil=>rfl
  |cons c cs=>cases c<;>rfl
 |cons t ts ih =>
  cases cs with
  |nil=>simp[wkA]
  |cons c cs=>cases c<;>simp[wkA,ih]
theorem ZEj(R:Rel N base ρ h w)(hb:gt h b=.box cs)(hpx:RV ρ w (Free N ρ h) (.ptr b off) px)
  (hc:cellsOf v=some vs) (hv:RV ρ w (Free N ρ h) v val) (ht:toTs h vs=some (ts,f,ks)) {i:TypeInfo} (hi:P.info? t=some i) (hl:vs.length=i.size) (hle:off+i.size<=cs.length) (hnd:UJ (b::ks)=true) :
  OpOK P N base ρ h w (do Instr.storeAt t px val;pure .skip) .top (kill ks++[(b,.box (setCells cs off (wkA (cs.drop off) ts)))]):=by
 rw[ZhC,Ycf]at hnd
 cases hpx with
 |@ptr _ _ g r hr hrv =>
  have hd:gt h b≠.dead:=by rw[hb];intro hc;cases hc
  obtain⟨r',h1,h2⟩:=R.blk b hd;rw[hr]at h1;cases h1;rw[hb]at h2;obtain⟨g',c,te,hv',hbase,hh,hcs,hone⟩:=h2;rw[hrv]at hv';cases hv';obtain⟨hvs,hone'⟩:=Zcs hc hv;obtain⟨fq,htq,hT⟩:=ZqB R ht hvs;have htl:=ZqC ht;have hcl:=hcs.length;have hvl:=hvs.length;simp only[Yz]at hcl hvl;have hblk:X6 r.v=some g:=by rw[hrv];rfl
  have hlt2:=htq.lt;have hrun:=ZqA (P:=P) hi hh (o:=off) (val:=val) (by omega) (by omega) hone';have hwl:(wkA (cs.drop off) ts).length=i.size:=by rw[wkA_len];omega
  have hp:=K9 R (n:=b) (ks:=ks) (x:=.box (setCells cs off (wkA (cs.drop off) ts))) (r:=r) (row:=some g) (w':=w.setRow g (c.toList.take off++val.cells.toList++c.toList.drop (off+i.size)).toArray)
   (by intro r0 h0;rw[hr]at h0;cases h0;rfl) (Ze5 w g _)
   (by intro g' hg';cases hg';exact⟨b,.inr rfl,r,hr,hd,hblk⟩)
   (by intro g' hg';exact .inr ⟨b,.inr rfl,r,hr,hd,hg'⟩)
   (λhk=>by
    have hta:=ZqD R hT hk (Ze5 w g _) (λk hk=>hk) (by
     intro g' k hk' ho';have hne:g'≠g:=by
      intro he;subst he;obtain⟨rk,h1,h2,h3⟩:=ho';exact hnd.1 (R.inj b k r rk g' hr h1 hd h2 hblk h3▸hk')
     exact⟨λhe=>hne (by cases he;rfl),λhe=>hne (by rw[hblk]at he;cases he;rfl)⟩) hlt2
    have hnew:RVs (updM ρ b r) (w.setRow g (c.toList.take off++val.cells.toList++c.toList.drop (off+i.size)).toArray) (Free N (updM ρ b r) (upd h (kill ks++[(b,.box (setCells cs off (wkA (cs.drop off) ts)))])))
      (setCells cs off (wkA (cs.drop off) ts)) (c.toList.take off++val.cells.toList++c.toList.drop (off+i.size)):=by
     have e:setCells cs off (wkA (cs.drop off) ts)=cs.take off++wkA (cs.drop off) ts++cs.drop (off+i.size):=by rw[setCells,hwl]
     have hh2:=(((hcs.take off).keep hk).append (wkA_rel (cs:=cs.drop off) (htq.frame λg' hg'=>(hta g' hg').2) λg' hg'=>(hta g' hg').1)).append ((hcs.drop (off+i.size)).keep hk);rw[<-e]at hh2;exact hh2
    exact⟨g,_,te,hrv,hbase,setRow_heap w g c _ te _ hh,hnew,by
     intro x hx;change x∈c.toList.take off++val.cells.toList++c.toList.drop (off+i.size)at hx;rcases Yu.1 hx with hx|hx
     .rcases Yu.1 hx with hx|hx
      .exact hone x (Ybl hx)
      .exact hone' x hx
     .exact hone x (Ycr hx)⟩)
   (by intro hf;cases hf)
  refine⟨undef,_,updM ρ b r,.inr ⟨by simp[Instr.storeAt,Instr.sureAddr,hrun],rfl⟩,.top _,hp.1,hp.2.1,?_,Below.setRow hbase _,hp.2.2⟩;intro b' hb';simp at hb';simp[updM,hb'.2]
end
open Go.RowKit (Below)
section
variable{P:Program}{N:Par}{base:Nat}{ρ:Map}{h:V7}{w w':World}{F:Nat->Prop}{e:Env}{a:Act}{sz el n:Nat}{v:Value}{xs:KI}{f:Bool}{ks:V8}{t ty:TypeId}{i:TypeInfo}
theorem Z1H(ho:w.ownsRow base el sz v n xs):v.oneCell'=true:=by
 rcases ho.2 with⟨hv,_⟩|⟨g,cap,cur,hv,_⟩<;>rw[hv]<;>rfl
theorem ZhE(R:Rel N base ρ h w){nx:Nat}(hn:ρ nx=none){s:Sem Next}{vv:Value}(hs:s.run P w=.ok (.value vv) w'){row:Option Nat}(hg:w.grownBy w' row)(hsz:0<sz){es1 es2:V5}{xs1 xs2:KI}{fp1 fp2:V8}{fr1:Bool}{kd:V8}
  (hown:w'.ownsRow base el sz vv (es1.length+es2.length) (xs1++xs2)) (hl1:∀x∈es1,x.length=sz) (hl2:∀x∈es2,x.length=sz)
  (ht1:TRs w es1.flatten xs1 fp1) (ht2:TRs w es2.flatten xs2 fp2) (hT:Took N base ρ h ks fp2 f) (hnd:ks.Nodup)
  (hD1:∀g∈fp1,Free N ρ h g) (hD2:fr1=true->fp1.Nodup/\∀g∈fp1,N.f g)
  (hD3:fr1=true->∀g∈fp1,∀d rd,d ∉ kd++ks->ρ d=some rd->Wf (gt h d)=true->g ∉ rd.fp)
  (hD4:fr1=true->∀g∈fp1,∀k∈ks,∀rk,ρ k=some rk->Wf (gt h k)=true->g ∉ rk.fp)
  (hrow:∀g,row=some g->∃b∈kd,Jx ρ h b g) (hblk:∀g,X6 vv=some g->w.heap.size<=g\/∃b∈kd,Jx ρ h b g)
  (hap:∀g k,k∈ks->Jx ρ h k g->¬∃b∈kd,Jx ρ h b g) {lb:Nat} (hlb:lb=unk\/el=lb) :
  OpOK P N base ρ h w s (.own nx) (kill (kd++ks)++[(nx,.arr lb sz (fr1 && f) (es1++es2))]):=by
 have hlt1:=ht1.lt;have hlt2:=ht2.lt;have hp:=K9 R (n:=nx) (ks:=kd++ks) (x:=.arr lb sz (fr1 && f) (es1++es2)) (r:=⟨vv,fp1++fp2⟩) (row:=row) (w':=w')
  (by intro r0 h0;rw[hn]at h0;cases h0) hg
  (by intro g hg';obtain⟨b,hb,ho⟩:=hrow g hg';exact⟨b,.inl (by simp[hb]),ho⟩)
  (by intro g hg';exact(hblk g hg').imp id λ⟨b,hb,ho⟩=>⟨b,.inl (by simp[hb]),ho⟩)
  (λhk=>by
   have hta:=ZqD R hT hk hg (λk hk=>by simp[hk]) (by
    intro g k hk' ho;refine⟨λhe=>hap g k hk' ho (hrow g he),λhe=>?_⟩;rcases hblk g he with h1|h1
    .obtain⟨rk,h2,h3,h4⟩:=ho;have:=(R.lt h2 h3 h4).2;omega
    .exact hap g k hk' ho h1) hlt2
   have hall:∀g∈fp1++fp2,Free N (updM ρ nx ⟨vv,fp1++fp2⟩) (upd h (kill (kd++ks)++[(nx,.arr lb sz (fr1 && f) (es1++es2))])) g/\w'.heap[g]?=w.heap[g]?:=by
    intro g hg';rcases Yu.1 hg' with h1|h1
    .exact hk.free g (hlt1 g h1) (hD1 g h1)
    .exact hta g h1
   refine⟨el,xs1++xs2,hlb,by simpa using hown,hsz,?_,?_,λg hg'=>(hall g hg').1,?_⟩
   .intro x hx;rcases Yu.1 hx with hx|hx
    .exact hl1 x hx
    .exact hl2 x hx
   .rw[Yce];exact(ht1.append ht2).frame λg hg'=>(hall g hg').2
   .intro hff;simp only[Yg]at hff;obtain⟨h1,h2⟩:=hD2 hff.1;refine⟨Yb4.2 ⟨h1,hT.nodup hff.2 hnd,?_⟩,?_⟩
    .intro x hx y hy hxy;subst hxy;obtain⟨_,k,hk',rk,h4,h6⟩:=hT.fresh hff.2 x hy;rcases h6 with⟨h5,h6⟩|⟨h5,h6⟩
     .exact(hD1 x hx).2 k rk h4 h5 h6
     .exact hD4 hff.1 x hx k hk' rk h4 h5 h6
    .intro x hx;rcases Yu.1 hx with hx|hx
     .exact h2 x hx
     .exact(hT.fresh hff.2 x hx).1)
  (by
   intro hff x hx d rd hdk _ hrd hfd;simp only[Wf,Yg]at hff;rcases Yu.1 hx with hx|hx
   .exact hD3 hff.1 x hx d rd hdk hrd hfd
   .exact Z1G R hT hff.2 (λk hk=>by simp[hk]) hx hdk hrd hfd)
 refine⟨vv,w',updM ρ nx ⟨vv,fp1++fp2⟩,.inl hs,.own (r:=⟨vv,fp1++fp2⟩) (by simp[updM]) (Z1H hown),hp.1,hp.2.1,?_,?_,hp.2.2⟩
 .intro b hb;simp at hb;simp[updM,hb.2]
 .refine(Below.refl _ _).grown hg R.hb λk hk=>?_
  obtain⟨b,_,rb,h1,h2,h3⟩:=hrow k hk;exact(R.lt h1 h2 h3).1
theorem Zmb{el:TypeId}(ht:P.underlying t=some (.slice el))(hi:P.info? el=some i)(ba:Option Addr)(n cap:Nat)(hle:n<=cap)(b2:Option Addr)(c2:Nat) :
  (Builtin.append_ #[t,t] ty #[.slice ba n cap,.slice b2 0 c2]).run P w=.ok (.slice ba n cap) w:=by
 cases ba<;>cases b2<;>simp[Builtin.append_,run_underlying ht,sizeOf,typeInfo,hi,Builtin.lenOf,hle,Builtin.firstCells,loadCells,loadCellsFrom,storeCells]
theorem Z1I{el:TypeId}{z:Value}(ht:P.underlying t=some (.slice el))(hi:P.info? el=some i)(hz:i.zero=some z)(hzs:z.cells.size=i.size)(hown:w.ownsRow base el i.size v n xs){b2:Option Addr}{m c2:Nat}{news:KI}(hl:news.length=m*i.size)
  (hsrc:m=0\/∃ad,b2=some ad/\∀j u,news[j]?=some u->w.cell? (ad.add j)=some u) (h1:∀u∈news,u.oneCell'=true)
  (h63:n+m<=140737488355328) (hbytes:(n+m)*i.bytes<=140737488355328) (hbase:base<=w.heap.size) :
  ∃v' w' row,(Builtin.append_ #[t,t] ty #[v,.slice b2 m c2]).run P w=.ok v' w'/\w'.ownsRow base el i.size v' (n+m) (xs++news)/\w.grownBy w' row/\(∀g,row=some g->X6 v=some g)/\
   (∀g,X6 v'=some g->w.heap.size<=g\/X6 v=some g):=by
 have hmax:n+m<=maxLen:=by simp only[maxLen];omega
 rcases hsrc with rfl|⟨ad,rfl,hnews⟩
 .have hnil:news=[]:=Yc8 (by simpa using hl);subst hnil;refine⟨v,w,none,?_,by simpa using hown,⟨rfl,rfl,rfl,Yj _,λ_ _ _=>rfl⟩,(by intro g hg;cases hg),λg hg=>.inr hg⟩;rcases hown.2 with⟨hv,hn⟩|⟨g,cap,cur,hv,_,_,hcap,_⟩
  .simp_all [Zmb,Yj]
  .simp_all [Zmb]
 .have hlen:(xs++news).length=(n+m)*i.size:=by rw[Yq,hown.1,hl,Ybu]
  by_cases hm:m=0
  .subst hm;have hnil:news=[]:=Yc8 (by simpa using hl);subst hnil;refine⟨v,w,none,?_,by simpa using hown,⟨rfl,rfl,rfl,Yj _,λ_ _ _=>rfl⟩,(by intro g hg;cases hg),λg hg=>.inr hg⟩;rcases hown.2 with⟨hv,hn⟩|⟨g,cap,cur,hv,_,_,hcap,_⟩
   .simp_all [Zmb,Yj]
   .simp_all [Zmb]
  .have grown:∀(old:Nat),old<n+m->
     (w.drew.alloc (.cells (xs.toArray++news.toArray++Builtin.zeroCells z.cells (grownCap w (n+m) old el-(n+m))) el)).ownsRow base el i.size
      (.slice (some ⟨w.heap.size,0,none⟩) (n+m) (grownCap w (n+m) old el)) (n+m) (xs++news)/\
     w.grownBy (w.drew.alloc (.cells (xs.toArray++news.toArray++Builtin.zeroCells z.cells (grownCap w (n+m) old el-(n+m))) el)) none:=by
    intro old ho;have hge:=grownCap_ge w (n+m) old el;have hcm:grownCap w (n+m) old el<=maxLen:=grownCap_le_maxLen w (n+m) old el hmax;refine⟨⟨hlen,.inr ⟨w.heap.size,_,_,rfl,hbase,heap_alloc_new w.drew _,hge,hcm,?_,?_⟩⟩,⟨rfl,rfl,rfl,by simp,λk hk _=>Go.RowKit.Below.heap_alloc w.drew _ k hk⟩⟩
    .simp only[Array.size_append,Ydh,size_zeroCells,hzs,hown.1,hl,<-Ybu];congr 1;omega
    .grind
   rcases hown.2 with⟨rfl,rfl⟩|⟨g,cap,cur,rfl,hbg,hg,hnc,hcm,hcs,htake⟩
   .have hx:xs=[]:=Yc8 (by simpa using hown.1);subst hx;have hr:=run_append_nil (P:=P) w t ty el i z ht hi hz ad m c2 news hl hnews (by omega) (by omega) (by have hb:=hbytes;simp only[Yv]at hb;omega);have hgr:=grown 0 (by omega);simp only[Yv,Ybi,Array.empty_append]at hgr|-;exact⟨_,_,none,hr,hgr.1,hgr.2,(by intro g hg;cases hg),by intro g hg;simp[X6]at hg;exact .inl (by omega)⟩
   .by_cases hroom:n+m<=cap
    .have hfit:n*i.size+news.length<=cur.size:=by rw[hl,hcs,<-Ybu];exact Ybd _ hroom
     have hr:=run_append_room (P:=P) w t ty el i ht hi g n cap cur hg ad m c2 news hl hnews h1 hroom hfit;refine⟨_,_,some g,hr,⟨hlen,.inr ⟨g,cap,_,rfl,hbg,setRow_heap w g cur _ el _ hg,hroom,hcm,?_,?_⟩⟩,Ze5 w g _,(by intro g' hg';cases hg';rfl),λg' hg'=>.inr hg'⟩
     .grind
     .grind
    .have holds:∀j u,xs[j]?=some u->w.cell? ((⟨g,0,none⟩:Addr).add j)=some u:=hown.cells (g:=g) rfl;have hr:=run_append_grow (P:=P) w t ty el i z ht hi hz ⟨g,0,none⟩ n cap xs hown.1 holds ad m c2 news hl hnews (by omega) (by omega) (growslice_fits (by omega) hbytes);have hgr:=grown cap (by omega);exact⟨_,_,none,hr,hgr.1,hgr.2,(by intro g' hg';cases hg'),by intro g' hg';simp[X6]at hg';exact .inl (by omega)⟩
theorem src_rel(R:Rel N base ρ h w){mv:Bool}{v:AV}{ys:V5}{val:Value}(hsz:0<sz)(hs:Q8 h sz mv v=some (ys,f,ks))(hv:RV ρ w (Free N ρ h) v val) :
  ∃b2 c2 news fp,val=.slice b2 ys.length c2/\news.length=ys.length*sz/\(ys.length=0\/∃ad,b2=some ad/\∀j u,news[j]?=some u->w.cell? (ad.add j)=some u)/\
   TRs w ys.flatten news fp/\(∀x∈ys,x.length=sz)/\Took N base ρ h ks fp f/\ks.Nodup/\(∀k∈ks,v=.own k):=by
 cases hv with
 |@t x val fp hT hf =>
  cases hT with
  |nil =>
   simp[Q8]at hs;obtain⟨rfl,rfl,rfl⟩:=hs
   exact⟨none,0,[],[],rfl,by simp,.inl rfl,.nil,by simp,.nil _,Ybf,by simp⟩
  |lst0 sz' ad cap =>
   simp[Q8]at hs;obtain⟨rfl,rfl,rfl,rfl⟩:=hs
   exact⟨ad,cap,[],[],rfl,by simp,.inl rfl,.nil,by simp,.nil _,Ybf,by simp⟩
  |@lst sz' es g off cap c te fz fp' hne hsz' hcap hg hlen hc =>
   simp[Q8]at hs;obtain⟨rfl,rfl,rfl,rfl⟩:=hs;refine⟨_,cap,_,fp',rfl,?_,.inr ⟨_,rfl,λj u hj=>Z19 hg hj⟩,hc,hlen,⟨λg' hg'=>.inl (hf g' (by simp[hg'])),λhfl=>?_,λhfl _=>?_⟩,Ybf,by simp⟩
   .rw[<-hc.length,J0 hlen]
   .have:fp'=[]:=hc.flat (by
     simp only[AM.flat,Yl]at hfl|-;intro y hy;obtain⟨x,hx,hy⟩:=Yc9.1 hy
     exact hfl x hx y hy)
    subst this;intro g hg;cases hg
   .have:fp'=[]:=hc.flat (by
     simp only[AM.flat,Yl]at hfl|-;intro y hy;obtain⟨x,hx,hy⟩:=Yc9.1 hy
     exact hfl x hx y hy)
    subst this
    exact Ybf
  |_=>simp[Q8]at hs
 |@own b r hr h1 =>
  simp only[Q8]at hs;split at hs
  .rename_i el sz' fr es hb;split at hs
   .rename_i hse;subst hse;have hd:gt h b≠.dead:=by rw[hb];intro hc;cases hc
    obtain⟨r',h2,h3⟩:=R.blk b hd;rw[hr]at h2;cases h2;rw[hb]at h3;obtain⟨_,xs,_,ho,_,hl,ht,hf,hfr⟩:=h3;have hval:∃b2 c2,r.v=.slice b2 es.length c2/\(es.length=0\/∃ad,b2=some ad/\∀j u,xs[j]?=some u->w.cell? (ad.add j)=some u):=by
     rcases ho.2 with⟨hv,hz⟩|⟨g,cap,cur,hv,hbg,hg,hcap,_,hcs,htake⟩
     .exact⟨none,0,by rw[hv,hz],.inl hz⟩
     .exact⟨some ⟨g,0,none⟩,cap,hv,.inr ⟨_,rfl,ho.cells (g:=g) (by rw[hv];rfl)⟩⟩
    obtain⟨b2,c2,hv2,hsrc⟩:=hval;split at hs
    .simp at hs;obtain⟨rfl,rfl,rfl⟩:=hs;refine⟨b2,c2,xs,r.fp,hv2,ho.1,hsrc,ht,hl,⟨λg hg=>.inl (hf g hg),λhft g hg=>⟨(hfr hft).2 g hg,b,by simp,r,hr,.inr ⟨by rw[hb];exact hft,hg⟩⟩,λhft _=>(hfr hft).1⟩,by simp,by simp⟩
    .simp at hs;obtain⟨rfl,rfl,rfl⟩:=hs
     have hfl':AM.flat es=true->r.fp=[]:=λhfl=>ht.flat (by
      simp only[AM.flat,Yl]at hfl|-;intro y hy;obtain⟨x,hx,hy⟩:=Yc9.1 hy
      exact hfl x hx y hy)
     refine⟨b2,c2,xs,r.fp,hv2,ho.1,hsrc,ht,hl,⟨λg hg=>.inl (hf g hg),λhft=>?_,λhft _=>?_⟩,Ybf,by simp⟩
     .rw[hfl' hft];intro g hg;cases hg
     .rw[hfl' hft];exact Ybf
   .cases hs
  .cases hs
 |_=>simp[Q8]at hs
end
open Go.RowKit (Below)
section
variable{P:Program}{N:Par}{base:Nat}{ρ:Map}{h:V7}{w w':World}{F:Nat->Prop}{e:Env}{a:Act}{t el:TypeId}{zs:KS}{nx:Nat}{i:TypeInfo}{ps:Array (Nat×Operand)}{ks:V8}
theorem Z1J(off:Nat):∀(l:KI) (k:Nat) (arr:Array Value),off+k+l.length<=arr.size->
  ((l.zipIdx k).foldl (λcs (p:Value×Nat)=>cs.setIfInBounds (off+p.2) p.1) arr).toList=arr.toList.take (off+k)++l++arr.toList.drop (off+k+l.length)
 |[],k,arr,_=>by simp
 |v::l,k,arr,hle=>by
  simp only[List.zipIdx_cons,Y7];rw[Z1J off l (k+1) (arr.setIfInBounds (off+k) v) (by simp at hle|-;omega)];have:=list_seg_step arr.toList (off+k) v l (by simp at hle|-;omega)
  grind
theorem ZqE{place:Nat->Option (Nat×Nat)}{cells:Array Value}{i off size:Nat}{v:Value}{rest:List (Nat×Value)}(hp:place i=some (off,size))(hs:v.cells.size=size)(hle:off+size<=cells.size) :
  ∃cells',Instr.fill place cells ((i,v)::rest)=Instr.fill place cells' rest/\cells'.toList=cells.toList.take off++v.cells.toList++cells.toList.drop (off+size):=by
 refine⟨v.cells.zipIdx.foldl (λcs (c,j)=>cs.setIfInBounds (off+j) c) cells,?_,?_⟩
 .conv=>lhs;unfold Instr.fill
  grind
 .rw[<-Array.foldl_toList,Array.toList_zipIdx]
  simp_all [Z1J]
theorem Z1K(hE:Wk ρ w F e a.tmps){places:List (Nat×Nat)}:∀(ps:List (Nat×Operand)) (qs:List (Nat×Nat×Opd)) (cs:V2) (cells:Array Value),
  mapO (λp:Nat×Operand=>match places[p.1]?,opd p.2 with|some q,some x=>some (q.1,q.2,x)|_,_=>none) ps=some qs->RVs ρ w F cs cells.toList->(∀v∈cells.toList,v.oneCell'=true)->
  ∀cs',parts e cs qs=some cs'->∃cells',Instr.fill (places.toArray[·]?) cells (ps.map λp=>(p.1,a.eval p.2))=some cells'/\RVs ρ w F cs' cells'.toList/\∀v∈cells'.toList,v.oneCell'=true
 |[],qs,cs,cells,hm,hc,h1,cs',hp=>by
  cases hm;simp[parts]at hp;subst hp
  exact⟨cells,by simp[Instr.fill],hc,h1⟩
 |(k,x)::ps,qs,cs,cells,hm,hc,h1,cs',hp=>by
  obtain⟨q,qs',hq,hqs,rfl⟩:=Jy hm;split at hq
  .rename_i pl x' hpl hx;cases hq;simp only[parts]at hp;split at hp
   .rename_i vs hvs;split at hp
    .rename_i hcond;obtain⟨h2,h3⟩:=Zcs hvs (X2 hE hx);have hl1:=h2.length;have hl2:=hc.length;simp only[Yz]at hl1 hl2;obtain⟨cells1,hf,hcl⟩:=ZqE (place:=(places.toArray[·]?)) (cells:=cells) (i:=k) (off:=pl.1) (size:=pl.2) (v:=a.eval x) (rest:=ps.map λp=>(p.1,a.eval p.2)) (by simpa using hpl) (by omega) (by omega);have hR:RVs ρ w F (setCells cs pl.1 vs) cells1.toList:=by
      rw[hcl,setCells,hcond.1];exact((hc.take _).append h2).append (hc.drop _)
     have ho:∀v∈cells1.toList,v.oneCell'=true:=by
      grind
     obtain⟨cells',h4,h5,h6⟩:=Z1K hE ps qs' _ cells1 hqs hR ho cs' hp
     simp_all
    .cases hp
   .cases hp
  .cases hq
theorem ok_build(R:Rel N base ρ h w)(hE:Wk ρ w (Free N ρ h) e a.tmps){fs:Array Field}{zs:V2}{places:List (Nat×Nat)}{qs:List (Nat×Nat×Opd)}{cs:V2}
  (hu:P.underlying t=some (.struct fs)) (hz:zeroC P t=some zs) (hp:fs.toList.mapM (λf=>(P.info? f.type).map λi=>(f.offset,i.size))=some places)
  (hm:mapO (λp:Nat×Operand=>match places[p.1]?,opd p.2 with|some q,some x=>some (q.1,q.2,x)|_,_=>none) ps.toList=some qs) (hc:parts e zs qs=some cs) :
  OpOK P N base ρ h w (do pure (.value (<-Instr.build t (ps.map λ(i,x)=>(i,a.eval x))))) (.agg cs) []:=by
 unfold zeroC at hz
 cases hi:P.info? t with
 |none=>simp[hi]at hz
 |some i =>
  cases hzz:i.zero with
  |none=>simp[hi,hzz]at hz
  |some z =>
   simp[hi,hzz]at hz;obtain⟨zs0,hz,rfl⟩:=hz;obtain⟨h1,h2⟩:=Zq7 (ρ:=ρ) (w:=w) (F:=Free N ρ h) hz;obtain⟨cells',h3,h4,h5⟩:=Z1K hE ps.toList qs _ z.cells hm (Zq8 h1) h2 cs hc;have hb:P.built t (ps.map λ(i,x)=>(i,a.eval x)).toList=some cells':=by
    unfold Program.built
    simp_all
   exact .same R (by simp[run_build w t _ cells' hb]) (.agg h4 h5)
theorem Z1L{z:Array Value}(hT:TRs w zs z.toList [])(n:Nat):TRs w (List.replicate n zs).flatten (madeCells z (n*z.size)).toList []:=by
 have hl:=hT.length;simp only[Yz]at hl;have e:(madeCells z (n*z.size)).toList=(List.replicate n z.toList).flatten:=by
  induction n with
  |zero=>simp[madeCells,Array.range_zero']
  |succ n ih =>
   rw[List.replicate_succ',Yce,<-ih];apply Ybz
   .simp[madeCells,Ybu]
   .intro k h1 h2;simp only[madeCells,Yb5,Array.toList_range,List.getElem_map,List.getElem_range,Ybc,List.flatten_nil,Y9,List.getElem_append,Y1,List.length_range];simp only[madeCells,Yb5,Array.toList_range,Y1,List.length_range,Ybu,Yct]at h1;split
    .rfl
    .rename_i hk;have hk':k-n*z.size<z.size:=by omega
     have hmod:k % z.size=k-n*z.size:=by
      have:k=(k-n*z.size)+z.size*n:=by rw[Nat.mul_comm z.size n];omega
      conv=>lhs;rw[this]
      rw[Nat.add_mul_mod_self_left,Nat.mod_eq_of_lt hk']
     rw[hmod];simp[hk']
 rw[e];clear e
 induction n with
 |zero=>exact .nil
 |succ n ih =>
  rw[Ycv,Ycv,Ybc,Ybc];exact hT.append ih
theorem ZqF{α β:Type}{f:α->Option β}{xs:List α}{ys:List β}(hm:mapO f xs=some ys):ys.length=xs.length:=by
 induction xs generalizing ys with
 |nil=>cases hm;rfl
 |cons x xs ih=>obtain⟨y,zs,_,h2,rfl⟩:=Jy hm;simp[ih h2]
theorem Z1M(R:Rel N base ρ h w)(hE:Wk ρ w (Free N ρ h) e a.tmps){sz:Nat}:∀(ps:List (Nat×Operand)) (qs:List (Nat×Opd)) (es:V5) (cells:Array Value) (fp:V8) (kz:V8) (fz:Bool),
  mapO (λp:Nat×Operand=>(opd p.2).map λx=>(p.1,x)) ps=some qs->TRs w es.flatten cells.toList fp->(∀x∈es,x.length=sz)->Took N base ρ h kz fp fz->
  ∀es' f ks,elems h e sz es qs=some (es',f,ks)->∃cells' fp',Instr.fill (λi=>some (i*sz,sz)) cells (ps.map λp=>(p.1,a.eval p.2))=some cells'/\TRs w es'.flatten cells'.toList fp'/\
   (∀x∈es',x.length=sz)/\es'.length=es.length/\Took N base ρ h (kz++ks) fp' (fz && f)
 |[],qs,es,cells,fp,kz,fz,hm,hc,hl,hT,es',f,ks,hel=>by
  cases hm;simp[elems]at hel;obtain⟨rfl,rfl,rfl⟩:=hel
  exact⟨cells,fp,by simp[Instr.fill],hc,hl,rfl,by simpa using hT⟩
 |(i,x)::ps,qs,es,cells,fp,kz,fz,hm,hc,hl,hT,es',f,ks,hel=>by
  obtain⟨q,qs',hq,hqs,rfl⟩:=Jy hm;obtain⟨x',hx,rfl⟩:=Ys.1 hq;simp only[elems]at hel;split at hel
  .rename_i vs hvs;split at hel
   .rename_i ts f1 k1 hts;split at hel
    .rename_i hcond;split at hel
     .rename_i es1 f2 k2 hrec;simp at hel;obtain⟨rfl,rfl,rfl⟩:=hel;obtain⟨h2,h3⟩:=Zcs hvs (X2 hE hx);obtain⟨fq,h4,h5⟩:=ZqB R hts h2;have htl:=ZqC hts;have hgd:es.getD i []=es[i]:=by simp[List.getD,hcond.1]
      rw[hgd]at hrec;have hwl:(wk es[i] ts).length=ts.length:=Zct;replace h4:=ZhB (cs:=es[i]) h4;have hl1:=h2.length;have hl2:=hc.length;simp only[Yz]at hl1 hl2;rw[J0 hl]at hl2;have hmul:i*sz+sz<=es.length*sz:=by
       have:=Ybd sz (show i+1<=es.length from hcond.1)
       rwa [Ybu,Yct]at this
      obtain⟨cells1,hf,hcl⟩:=ZqE (place:=λi=>some (i*sz,sz)) (cells:=cells) (i:=i) (off:=i*sz) (size:=sz) (v:=a.eval x) (rest:=ps.map λp=>(p.1,a.eval p.2)) rfl (by omega) (by omega);have hcs:es[i]?=some es[i]:=by simp[hcond.1]
      have hcsl:es[i].length=sz:=hl _ (Ye _);have hfl:=Z1F (ts:=wk es[i] ts) (off:=0) hcs (by omega);rw[hfl.1]at hc;obtain⟨fa,fb,fc,hfp,hnew⟩:=hc.splice h4;rw[<-hfl.2]at hnew;have hsT:setT es[i] 0 (wk es[i] ts)=wk es[i] ts:=by simp[setT];omega
      rw[hsT]at hnew;have hAl:((es.take i).flatten++es[i].take 0).length=i*sz:=by
       rw[Yq,J0 λy hy=>hl y (Ybl hy)];simp;rw[Ybn (by omega)]
      have hBl:((es[i].drop 0).take (wk es[i] ts).length).length=sz:=by simp;omega
      rw[hAl,hBl,<-hcl]at hnew;have hset:∀y∈es.set i (wk es[i] ts),y.length=sz:=by
       intro y hy;rcases List.mem_or_eq_of_mem_set hy with hy|hy
       .exact hl y hy
       .subst hy;omega
      have hT':Took N base ρ h (kz++k1) (fa++fq++fc) (fz && f1):=by
       have hA:=hT.append R h5;have hmem:∀y,y∈fa++fq++fc->y∈fp++fq:=by
        intro y hy;simp only[Yu]at hy|-;rcases hy with(hy|hy)|hy
        .exact .inl (by rw[hfp];simp[hy])
        .exact .inr hy
        .exact .inl (by rw[hfp];simp[hy])
       refine⟨λy hy=>hA.free y (hmem y hy),λhff y hy=>hA.fresh hff y (hmem y hy),λhff hn=>?_⟩;have hN:=hA.nodup hff hn;rw[hfp,Yb4,Yb4,Yb4]at hN;rw[Yb4,Yb4];refine⟨⟨hN.1.1.1,hN.2.1,λy hy z hz=>hN.2.2 y (by simp[hy]) z hz⟩,hN.1.2.1,λy hy z hz hyz=>?_⟩;subst hyz;rcases Yu.1 hy with hy|hy
       .exact hN.1.2.2 y (by simp[hy]) y hz rfl
       .exact hN.2.2 y (by simp[hz]) y hy rfl
      obtain⟨cells',fp',h6,h7,h8,h9,h10⟩:=Z1M R hE ps qs' _ cells1 _ _ _ hqs hnew hset hT' es1 f2 k2 hrec;refine⟨cells',fp',by simp only[Y0];rw[hf];exact h6,h7,h8,by simpa using h9,?_⟩;rw[Y6,Bool.and_assoc]at h10;exact h10
     .cases hel
    .cases hel
   .cases hel
  .cases hel
theorem ZEk(R:Rel N base ρ h w)(hE:Wk ρ w (Free N ρ h) e a.tmps)(hn:ρ nx=none){n:Nat}{qs:List (Nat×Opd)}
  (hu:P.underlying t=some (.slice el)) (hi:P.info? el=some i) (hsmall:n*i.size<=16777216) (hsz:0<i.size) (hz:zeroT P el=some zs) (hzl:zs.length=i.size)
  (hm:mapO (λp:Nat×Operand=>(opd p.2).map λx=>(p.1,x)) ps.toList=some qs) {es:V5} {fr:Bool} (hel:elems h e i.size (List.replicate n zs) qs=some (es,fr,ks)) (hnd:UJ ks=true) :
  OpOK P N base ρ h w (do pure (.value (<-Instr.buildSlice t n (ps.map λ(i,x)=>(i,a.eval x))))) (.own nx) (kill ks++[(nx,.arr el i.size fr es)]):=by
 unfold zeroT at hz
 cases hzz:i.zero with
 |none=>simp[hi,hzz]at hz
 |some z =>
  simp[hi,hzz]at hz;obtain⟨zs0,hz,rfl⟩:=hz;have hzs:=ZqF hz;rw[Zct]at hzl;simp only[Yz]at hzs;have h0:=Z1L (w:=w) (ZhB (cs:=(szs P 8 el).map λs=>.lst s []) (Z17 (w:=w) hz)) n;rw[show z.cells.size=i.size by omega]at h0;obtain⟨cells',fp',h1,h2,h3,h4,h5⟩:=Z1M R hE ps.toList qs _ (madeCells z.cells (n*i.size)) [] [] true hm h0
   (by intro x hx;rw[List.eq_of_mem_replicate hx,Zct];exact hzl) (Took.nil true) es fr ks hel
  simp only[Ybi,Yn,Yci]at h4 h5;have hl2:=h2.length;rw[J0 h3]at hl2;simp only[Yz]at hl2;have hfill:Instr.fill (λi_1=>some (i_1*i.size,i.size)) (madeCells z.cells (n*i.size)) (ps.map λ(i,x)=>(i,a.eval x)).toList=some cells':=by
   simp_all
  have hrun:(Instr.buildSlice t n (ps.map λ(i,x)=>(i,a.eval x))).run P w=.ok (.slice (some ⟨w.heap.size,0,none⟩) n n) (w.alloc (.cells cells' el)):=by
   by_cases hn0:n=0
   .subst hn0;have hcells:madeCells z.cells (0*i.size)=#[]:=by simp[madeCells,Array.range_zero']
    rw[hcells]at h1;simp[Instr.buildSlice,run_underlying hu,sizeOf,typeInfo,hi,h1,newRow,Array.range_zero']
   .have:¬n*i.size=0:=by
     grind [Nat.mul_eq_zero]
    exact run_buildSlice w t el n _ cells' i z hu hi hzz (by omega) this hfill
  have hown:(w.alloc (.cells cells' el)).ownsRow base el i.size (.slice (some ⟨w.heap.size,0,none⟩) n n) (0+es.length) ([]++cells'.toList):=by
   rw[h4]at hl2|-;refine⟨by simp;omega,.inr ⟨w.heap.size,n,cells',by simp,R.hb,heap_alloc_new w _,by omega,?_,by omega,?_⟩⟩
   .have:=Nat.le_mul_of_pos_right n hsz;simp only[maxLen];omega
   .simp_all [Ybp]
  have:=ZhE (P:=P) R hn (s:=(do pure (.value (<-Instr.buildSlice t n (ps.map λ(i,x)=>(i,a.eval x)))))) (vv:=.slice (some ⟨w.heap.size,0,none⟩) n n) (by simp[hrun]) (World.grownBy_alloc w _ none) hsz (es1:=[]) (es2:=es) (xs1:=[]) (xs2:=cells'.toList)
   (fp1:=[]) (fp2:=fp') (fr1:=true) (f:=fr) (kd:=[]) (ks:=ks) hown (by simp) h3 .nil h2 h5 (ZhC.1 hnd) (by simp) (by simp) (by simp) (by simp) (by intro g hg;cases hg)
   (by intro g hg;simp[X6]at hg;exact .inl (by omega)) (by intro g k _ _ hx;obtain⟨b,hb,_⟩:=hx;cases hb) (lb:=el) (.inr rfl)
  simpa using this
theorem ZEl(R:Rel N base ρ h w)(hn:ρ nx=none)(hu:P.underlying t=some (.slice el))(hi:P.info? el=some i)(hz:zeroT P el=some zs)(hzl:zs.length=i.size)(hsz:0<i.size)
  {kl kc:IntKind} {l c:Int} (h0:0<=l) (hlc:l<=c) (hb:c.toNat*i.bytes<=room) (hc:c<=140737488355328) :
  OpOK P N base ρ h w (do pure (.value (<-Instr.makeSlice t (.int kl l) (.int kc c)))) (.own nx) [(nx,.arr el i.size true (List.replicate l.toNat zs))]:=by
 unfold zeroT at hz
 cases hzz:i.zero with
 |none=>simp[hi,hzz]at hz
 |some z =>
  simp[hi,hzz]at hz;obtain⟨zs0,hz,rfl⟩:=hz;have hzs:=ZqF hz;rw[Zct]at hzl;simp only[Yz]at hzs;have hbb:(i.bytes:Int)*c<=281474976710656:=by
   have e:c=(c.toNat:Int):=by omega
   rw[e,Int.mul_comm,<-Int.natCast_mul];simp only[room]at hb;omega
  have hrun:=run_make (P:=P) w t el i z hu hi hzz kl kc l c h0 hlc hbb (by omega);have hT:=Z1L (w:=w) (ZhB (cs:=(szs P 8 el).map λs=>.lst s []) (Z17 (w:=w) hz)) l.toNat;rw[show z.cells.size=i.size by omega]at hT;have hle:l.toNat*i.size<=c.toNat*i.size:=Ybd _ (by omega);have htake:(madeCells z.cells (c.toNat*i.size)).toList.take (l.toNat*i.size)=(madeCells z.cells (l.toNat*i.size)).toList:=by
   apply Ybz
   .rw[Ybo,Yz,Yz,size_madeCells,size_madeCells];omega
   .intro k h1 h2;simp[madeCells]
  have hown:(w.alloc (.cells (madeCells z.cells (c.toNat*i.size)) el)).ownsRow base el i.size (.slice (some ⟨w.heap.size,0,none⟩) l.toNat c.toNat) (0+(List.replicate l.toNat (wk ((szs P 8 el).map λs=>T.lst s []) zs0)).length) ([]++(madeCells z.cells (l.toNat*i.size)).toList):=by
   refine⟨by simp[madeCells],.inr ⟨w.heap.size,c.toNat,_,by simp,R.hb,heap_alloc_new w _,by simp;omega,by simp only[maxLen];omega,by simp[madeCells],by simpa using htake⟩⟩
  have:=ZhE (P:=P) R hn (s:=(do pure (.value (<-Instr.makeSlice t (.int kl l) (.int kc c))))) (by simp[hrun]) (World.grownBy_alloc w _ none) hsz (es1:=[]) (es2:=List.replicate l.toNat (wk ((szs P 8 el).map λs=>T.lst s []) zs0)) (xs1:=[]) (xs2:=_)
   (fp1:=[]) (fp2:=[]) (fr1:=true) (f:=true) (kd:=[]) (ks:=[]) hown (by simp) (by intro x hx;rw[List.eq_of_mem_replicate hx,Zct];exact hzl) .nil hT (Took.nil _) Ybf (by simp) (by simp) (by simp) (by simp) (by intro g hg;cases hg)
   (by intro g hg;simp[X6]at hg;exact .inl (by omega)) (by intro g k hk;cases hk) (lb:=el) (.inr rfl)
  simpa[kill]using this
theorem ZEm(R:Rel N base ρ h w)(hn:ρ nx=none){ty:TypeId}{z:Value}(hu:P.underlying t=some (.slice el))(hi:P.info? el=some i)(hz:i.zero=some z)(hzs:z.cells.size=i.size)(hsz:0<i.size)
  {mv:Bool} {x y:AV} {xv yv:Value} (hx:RV ρ w (Free N ρ h) x xv) (hy:RV ρ w (Free N ρ h) y yv) {ys:V5} {f:Bool} (hs:Q8 h i.size mv y=some (ys,f,ks)) (hun:el≠unk) :
  (x=.t .nil->ys.length*i.bytes<=room->ys.length<=room->OpOK P N base ρ h w (do pure (.value (<-Builtin.append_ #[t,t] ty #[xv,yv]))) (.own nx) (kill ks++[(nx,.arr el i.size f ys)]))/\
  (∀b fr es,x=.own b->gt h b=.arr el i.size fr es->UJ (b::ks)=true->(es.length+ys.length)*i.bytes<=room->es.length+ys.length<=room->
   OpOK P N base ρ h w (do pure (.value (<-Builtin.append_ #[t,t] ty #[xv,yv]))) (.own nx) (kill (b::ks)++[(nx,.arr el i.size (fr && f) (es++ys))])):=by
 obtain⟨b2,c2,news,fp,rfl,hl,hsrc,ht,hlen,hT,hnd,hks⟩:=src_rel R hsz hs hy;constructor
 .intro hxn hb1 hb2;subst hxn;cases hx.nil_inv;obtain⟨v',w',row,h1,h2,h3,h4,h5⟩:=Z1I (P:=P) (ty:=ty) hu hi hz hzs (World.ownsRow_nil w base el i.size) hl hsrc ht.one (c2:=c2) (by simp only[room]at hb2;omega) (by simp only[room]at hb1;simpa using hb1) R.hb;have:=ZhE (P:=P) R hn (s:=(do pure (.value (<-Builtin.append_ #[t,t] ty #[.slice none 0 0,.slice b2 ys.length c2])))) (vv:=v') (by simp[h1]) h3 hsz (es1:=[]) (es2:=ys) (xs1:=[]) (xs2:=news)
   (fp1:=[]) (fp2:=fp) (fr1:=true) (f:=f) (kd:=[]) (ks:=ks) (by simpa using h2) (by simp) hlen .nil ht hT hnd (by simp) (by simp) (by simp) (by simp)
   (by intro g hg;have:=h4 g hg;simp[X6]at this) (by intro g hg;exact(h5 g hg).imp id λh'=>by simp[X6]at h') (by intro g k _ _ hx;obtain⟨b,hb,_⟩:=hx;cases hb) (lb:=el) (.inr rfl)
  simpa using this
 .intro b fr es hxb hgb hnb hb1 hb2;subst hxb;rw[ZhC,Ycf]at hnb;have hd:gt h b≠.dead:=by rw[hgb];intro hc;cases hc
  obtain⟨r,hr,hB⟩:=R.blk b hd;rw[hgb]at hB;obtain⟨el',xs,hel,ho,_,hl1,ht1,hf1,hfr1⟩:=hB;obtain rfl:el'=el:=hel.resolve_left hun
  cases hx with
  |@own _ r2 hr2 hone =>
   rw[hr]at hr2;cases hr2;obtain⟨v',w',row,h1,h2,h3,h4,h5⟩:=Z1I (P:=P) (ty:=ty) hu hi hz hzs ho hl hsrc ht.one (c2:=c2) (by simp only[room]at hb2;omega) (by simp only[room]at hb1;exact hb1) R.hb;have hfb:fr=true->Wf (gt h b)=true:=λhft=>by rw[hgb];exact hft
   have:=ZhE (P:=P) R hn (s:=(do pure (.value (<-Builtin.append_ #[t,t] ty #[r.v,.slice b2 ys.length c2])))) (vv:=v') (by simp[h1]) h3 hsz (es1:=es) (es2:=ys) (xs1:=xs) (xs2:=news)
    (fp1:=r.fp) (fp2:=fp) (fr1:=fr) (f:=f) (kd:=[b]) (ks:=ks) h2 hl1 hlen ht1 ht hT hnd hf1 hfr1
    (by intro hft g hg d rd hdk hrd hfd hgd;exact hdk (by rw[<-R.apart b d r rd g hr hrd (hfb hft) hfd hg hgd];simp))
    (by intro hft g hg k hk rk hrk hfk hgk;exact hnb.1 (by rw[R.apart b k r rk g hr hrk (hfb hft) hfk hg hgk];exact hk))
    (by intro g hg;exact⟨b,by simp,r,hr,hd,(h4 g hg)⟩) (by intro g hg;exact(h5 g hg).imp id λh'=>⟨b,by simp,r,hr,hd,h'⟩)
    (by
     intro g k hk ho' hx;obtain⟨b',hb',ho2⟩:=hx;simp at hb';subst hb';obtain⟨r1,q1,q2,q3⟩:=ho';obtain⟨r2,q4,q5,q6⟩:=ho2
     exact hnb.1 (by rw[R.inj b' k r2 r1 g q4 q1 q5 q2 q6 q3];exact hk)) (lb:=el') (.inr rfl)
   simpa using this
end
open Go.RowKit (Below)
section
variable{P:Program}{N:Par}{base:Nat}{ρ:Map}{h:V7}{w w':World}{F:Nat->Prop}{e:Env}{a:Act}{r l:Nat}{k:IntKind}{n:Int}
theorem ok_iaddr(R:Rel N base ρ h w){t el:TypeId}{i:TypeInfo}(hu:P.underlying t=some (.slice el))(hi:P.info? el=some i){x:AV}{xv:Value}(h0:0<=n){v:AV}{u:List (Nat×Blk)}
  (hv:(match x with
   |.t (.lst sz' es)=>if sz'=i.size then(match es[n.toNat]? with
    |some cs=>some (AV.iptr cs 0,([]:List (Nat×Blk)))
    |none=>none)else none
   |.own b=>match gt h b with
    |.arr _ sz' _ es=>if sz'=i.size/\n.toNat<es.length then some (.eptr b n.toNat i.size 0,[])else none
    |_=>none
   |.bsl b m=>if i.size=1/\n.toNat<m then some (.ptr b n.toNat,[])else none
   |_=>none)=some (v,u)) (hx:RV ρ w (Free N ρ h) x xv) :
  OpOK P N base ρ h w (do pure (.value (<-Instr.indexAt t xv (.int k n)))) v u:=by
 have key:∀(ad:Addr) (len cap:Nat),xv=.slice (some ad) len cap->n.toNat<len->((do pure (.value (<-Instr.indexAt t xv (.int k n)))):Sem Next).run P w=.ok (.value (.pointer (some (ad.add (n.toNat*i.size))))) w:=by
  intro ad len cap hxv hlt;subst hxv;have h1:n<(len:Int):=by omega
  simp[Instr.indexAt,asIntOf,run_underlying hu,h0,h1,sizeOf,typeInfo,hi]
 cases hx with
 |@t x val fp hT hf =>
  cases hT with
  |@lst sz' es g off cap c te fz fp' hne hsz' hcap hg hlen hc =>
   simp only at hv;split at hv
   .rename_i hse;subst hse;split at hv
    .rename_i cs hcs;cases hv;have hlt:n.toNat<es.length:=(Ybh.1 hcs).1;obtain⟨fq,h1,h2⟩:=hc.elem hlen hcs;refine .same R (key _ _ _ rfl hlt) ?_;rw[Jz];refine RV.iptr (o:=off+n.toNat*i.size) (off:=0) (fp:=fq) hg (hf g (by simp)) ?_ λg' hg'=>hf g' (by simp[h2 g' hg'])
     have hcl:cs.length=i.size:=hlen cs (Y8 hcs);rw[Ycq,Ycs,Yb2]at h1;have hmul:n.toNat*i.size+i.size<=es.length*i.size:=by
      have:=Ybd i.size (show n.toNat+1<=es.length from hlt)
      rwa [Ybu,Yct]at this
     grind
    .cases hv
   .cases hv
  |lst0 sz' ad cap=>simp at hv
  |_=>simp at hv
 |@own b r hr hone =>
  simp only at hv;split at hv
  .rename_i el' sz' fr es hb;split at hv
   .rename_i hcond;cases hv;have hd:gt h b≠.dead:=by rw[hb];intro hc;cases hc
    obtain⟨r',h1,h2⟩:=R.blk b hd;rw[hr]at h1;cases h1;rw[hb]at h2;obtain⟨_,xs,_,ho,_⟩:=h2;rcases ho.2 with⟨hv,hz⟩|⟨g,cap,cur,hv,_⟩
    .omega
    .refine .same R (key _ _ _ hv hcond.2) ?_;rw[Jz,Yv];exact RV.eptr (off:=0) hr hv
   .cases hv
  .cases hv
 |@bsl b m g r hr hrv =>
  simp only at hv;split at hv
  .rename_i hcond;cases hv;refine .same R (key _ _ _ rfl hcond.2) ?_;rw[Jz,hcond.1,Nat.mul_one,Yv];exact .ptr hr hrv
  .cases hv
 |_=>simp at hv
theorem TRs.mid{es:V5}{xs:KI}{fp:V8}{sz:Nat}(hc:TRs w es.flatten xs fp)(hl:∀x∈es,x.length=sz)(hlr:l<=r)(hr:r<=es.length) :
  ∃fq,TRs w ((es.take r).drop l).flatten ((xs.drop (l*sz)).take ((r-l)*sz)) fq/\∀g∈fq,g∈fp:=by
 have e:es=es.take l++((es.take r).drop l++es.drop r):=by
  grind [List.drop_take,List.drop_drop,List.take_append_drop]
 rw[e,Yce,Yce]at hc;obtain⟨fa,fb,rfl,_,h2⟩:=hc.split;obtain⟨fc,fd,rfl,h3,_⟩:=h2.split;have hl1:(es.take l).flatten.length=l*sz:=by
  grind [J0,List.mem_of_mem_take,Nat.min_eq_left]
 have hl2:((es.take r).drop l).flatten.length=(r-l)*sz:=by
  rw[J0 λx hx=>hl x (Ybl (Ycr hx))]
  grind
 grind
theorem Z1N(hE:Wk ρ w F e a.tmps){d:Nat}{o:Option Operand}{o':Option Opd}(ho:(match o with|none=>some none|some o=>(opd o).map some)=some o')(hb:bnd e d o'=some r) :
  (o=none/\r=d)\/∃x k n,o=some x/\a.eval x=.int k n/\0<=n/\r=n.toNat:=by
 cases o with
 |none=>cases ho;simp[bnd]at hb;exact .inl ⟨rfl,hb.symm⟩
 |some x =>
  obtain⟨y,hy,rfl⟩:=Ys.1 ho;simp only[bnd]at hb;split at hb
  .rename_i k n hn;have hr:=X2 hE hy;rw[hn]at hr;simp only[natOf]at hb;split at hb
   .rename_i h0;cases hb;exact .inr ⟨x,k,n,rfl,hr.int_inv,h0,rfl⟩
   .cases hb
  .cases hb
theorem Zmc{y:Nat}{code:BoundsCode}(h0:0<=n)(h1:n.toNat<=y):(Instr.sliceBound (.int k n) y code).run P w=.ok n.toNat w:=by
 have h2:n<=(y:Int):=by omega
 simp[Instr.sliceBound,asIntOf,h0,h2]
theorem ZhF(hE:Wk ρ w F e a.tmps){lo hi:Option Operand}{lo' hi':Option Opd}(hlo:(match lo with|none=>some none|some o=>(opd o).map some)=some lo')
  (hhi:(match hi with|none=>some none|some o=>(opd o).map some)=some hi') {len cap:Nat} (hl:bnd e 0 lo'=some l) (hr:bnd e len hi'=some r) (hlr:l<=r) (hrc:r<=cap) (isS:Bool) :
  (Instr.sliceBounds isS len cap (lo.map a.eval) (hi.map a.eval) none).run P w=.ok (l,r,cap) w:=by
 rcases Z1N hE hlo hl with⟨rfl,rfl⟩|⟨x,k,n,rfl,hx,h0,rfl⟩<;>rcases Z1N hE hhi hr with⟨rfl,rfl⟩|⟨y,k',n',rfl,hy,h0',rfl⟩
 .simp[Instr.sliceBounds]
 .simp[Instr.sliceBounds,hy,Zmc h0' hrc]
 .simp[Instr.sliceBounds,hx,Zmc h0 hlr]
 .simp[Instr.sliceBounds,hx,hy,Zmc h0 hlr,Zmc h0' hrc]
end
end Go.AM
