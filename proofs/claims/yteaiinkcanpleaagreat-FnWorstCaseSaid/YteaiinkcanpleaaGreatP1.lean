/-
  Parts of the proofs for this seat: AMCore AMW AMComp AMRel AMStep AMOps1 AMOps2 AMOps3 AMOps4 AMOps5.
-/
import Derived.Below
import Derived.Calls
import Derived.Great.BuildSlice
import Derived.Laws.AppendOwn
import Derived.Laws.MakeOwn
import Derived.Still
import Derived.WalkKit
set_option linter.all false
namespace Go.AM
theorem Z{p:Prop}(h:p:=by omega):p:=h
theorem Om{p:Prop}(h:p:=by simp):p:=h
theorem Sm{p:Prop}(h:p:=by decide):p:=h
def An{c:Prop}[Decidable c]{α:Sort _}{a b:α}(h:c:=by omega):ite c a b=a:=if_pos h
def Ao{c:Prop}[Decidable c]{α:Sort _}{a b:α}(h:¬c:=by omega):ite c a b=b:=if_neg h
abbrev WA:=List (List Int)
abbrev WL:=List Int
abbrev V3:=List Nat
abbrev V4:=List Value
abbrev V6:=ByteArray
abbrev Ya:=@if_pos
abbrev Yb:=@if_neg
abbrev Yc:=@Nat.zero_le
abbrev Yd:=@List.getElem?_eq_getElem
abbrev Ye:=@Eq.trans
abbrev Yf:=@List.getElem_mem
abbrev Yg:=@Bool.and_eq_true
abbrev Yh:=@Int.toNat_natCast
abbrev Yi:=@List.drop_eq_getElem_cons
abbrev Yj:=@Nat.le_refl
abbrev Yk:=@Bool.true_and
abbrev Yl:=@List.mem_append
abbrev Ym:=@List.drop_length
abbrev Yn:=@List.mem_map
abbrev Yo:=@List.drop_zero
abbrev Yp:=@List.all_eq_true
abbrev Yq:=@List.take_length
abbrev Yr:=@Option.map_eq_some_iff
abbrev Ys:=@Int.natCast_add
abbrev Yt:=@Int.cast_ofNat_Int
abbrev Yu:=@List.length_append
abbrev Yv:=@List.foldl_cons
abbrev Yw:=@Nat.zero_add
abbrev Yx:=@List.length_cons
abbrev Yy:=@List.length_take
abbrev Yz:=@List.map_cons
abbrev Y0:=@List.take_succ_eq_append_getElem
abbrev Y1:=@List.mem_cons
abbrev Y2:=@List.pairwise_cons
abbrev Y3:=@List.mem_range
abbrev Y4:=@Option.some.injEq
abbrev Y5:=@List.length_pos_iff
abbrev Y6:=@Nat.le_trans
abbrev Y7:=@Array.length_toList
abbrev Y8:=@List.nodup_nil
abbrev Y9:=@List.mem_of_getElem?
abbrev CR:=@List.mem_filter
abbrev CU:=@List.all_cons
abbrev Dq:=@List.getElem?_eq_some_iff
abbrev CV:=@List.map_append
abbrev DL:=@List.length_map
abbrev Df:=@List.length_nil
abbrev DC:=@List.mem_of_mem_take
abbrev DD:=@Nat.lt_or_ge
abbrev Dr:=@List.map_nil
abbrev Ds:=@Prod.mk.injEq
abbrev Dt:=@Nat.sub_self
abbrev DE:=@Nat.add_zero
abbrev EX:=@List.append_assoc
abbrev EH:=@List.length_set
abbrev DM:=@List.range_succ
abbrev DN:=@List.getD_eq_getElem?_getD
abbrev Iu:=@List.drop_drop
abbrev EI:=@List.nodup_append
abbrev EJ:=@Nat.mul_le_mul_right
abbrev EK:=@Nat.add_mul
abbrev EL:=@Array.toList_map
abbrev EY:=@List.map_congr_left
abbrev EM:=@Bool.eq_iff_iff
abbrev EN:=@Nat.lt_succ_self
abbrev GK:=@Nat.min_eq_left
abbrev EZ:=@List.nil_append
abbrev E0:=@List.append_nil
abbrev E1:=@Bool.false_or
abbrev E2:=@Bool.false_and
abbrev Iv:=@List.flatten_append
abbrev GL:=@List.mem_append_left
abbrev GM:=@List.any_cons
abbrev GN:=@List.length_filter_le
abbrev OL:=@List.flatten_cons
abbrev Iw:=@List.mem_or_eq_of_mem_set
abbrev OM:=@Array.toList_inj
abbrev Ix:=@Array.getD_eq_getD_getElem?
abbrev Iy:=@List.mem_append_right
abbrev ON:=@List.filter_eq_nil_iff
abbrev rN:=@List.drop_take
abbrev OO:=@List.mem_of_mem_drop
abbrev OP:=@List.take_take
abbrev TA:=@List.nodup_cons
abbrev OQ:=@Nat.one_mul
abbrev rO:=@Nat.lt_trichotomy
abbrev Ycj:=@List.pairwise_iff_getElem
abbrev OR:=@Nat.lt_of_lt_of_le
abbrev Ycl:=@List.range'_succ
abbrev OS:=@List.drop_of_length_le
abbrev TB:=@List.ext_getElem
abbrev TC:=@Nat.add_assoc
abbrev TD:=@List.length_eq_zero_iff
abbrev Ycq:=@List.take_append_drop
abbrev Ycr:=@List.take_of_length_le
abbrev rP:=@List.eq_nil_of_length_eq_zero
abbrev rQ:=@List.replicate_succ
abbrev rR:=@Bool.or_eq_true
abbrev rS:=@Bool.false_eq_true
abbrev Ycw:=@Option.bind_eq_some_iff
abbrev Ycx:=@List.cons.injEq
abbrev rT:=@List.any_eq_false
abbrev rU:=@List.filter_cons
abbrev rV:=@List.mergeSort_perm
abbrev Yc1:=@Int.lt_or_eq_of_le
abbrev rW:=@List.getElem?_map
abbrev Yc3:=@Array.getElem?_eq_some_iff
abbrev Yc4:=@List.flatMap_cons
abbrev Yc5:=@List.getElem?_of_mem
abbrev Yc6:=@Nat.add_sub_cancel
abbrev Yc7:=@List.headD_eq_head?_getD
abbrev Yc8:=@List.getElem?_append_left
inductive T where
 |int (k:IntKind) (n:Int)
 |bool (b:Bool)
 |str (s:V6)
 |nil
 |any
 |lst (sz:Nat) (es:List (List T))
 deriving Inhabited
inductive AV where
 |top
 |nilp
 |t (x:T)
 |agg (cs:List AV)
 |tup (vs:List AV)
 |ptr (b off:Nat)
 |eptr (b i sz off:Nat)
 |iptr (cs:List T) (off:Nat)
 |own (b:Nat)
 |bsl (b n:Nat)
 |fn (f:Nat) (caps:List AV)
 deriving Inhabited
inductive AK where
 |dead
 |box (cs:List AV)
 |arr (e:TypeId) (sz:Nat) (fr:Bool) (es:List (List T))
 deriving Inhabited
abbrev XP:=Option (AV × List AK)
abbrev XQ:=List AV
abbrev XS:=AV × List AK
abbrev WI:=List (List T)
abbrev V2:=List AK
abbrev V5:=List T
def rX:TypeId:=1000000000
abbrev Env:=List (Nat×AV)
def lk(s:Nat):Env->AV
 |[]=>.top
 |(k,v)::e=>if k=s then v else lk s e
def gt(h:V2)(b:Nat):AK:=(h[b]?).getD .dead
def stB:V2->Nat->AK->V2
 |[],0,x=>[x]
 |[],b+1,x=>.dead::stB [] b x
 |_::h,0,x=>x::h
 |y::h,b+1,x=>y::stB h b x
def upd(h:V2):List (Nat×AK)->V2
 |[]=>h
 |(b,x)::u=>upd (stB h b x) u
inductive AX where
 |s (i:Nat)
 |c (v:AV)
 deriving Inhabited
def ev(e:Env):AX->AV
 |.s i=>lk i e
 |.c v=>v
inductive A5 where
 |mov (x:AX)
 |pick (c a b:AX)
 |alloc (zs:XQ)
 |box (x:AX)
 |build (zs:XQ) (ps:List (Nat×Nat×AX))
 |bslice (e:TypeId) (sz n:Nat) (zs:V5) (ps:List (Nat×AX))
 |bptrs (n:Nat) (ps:List (Nat×AX))
 |load (n:Option Nat) (x:AX)
 |store (n:Nat) (x v:AX)
 |storeF (n:Nat) (x v:AX)
 |nilchk (x:AX)
 |bin (op:BinOp) (x y:AX)
 |beq (neg:Bool) (x y:AX)
 |aeq (neg:Bool) (ks:V3) (x y:AX)
 |nileq (neg sl:Bool) (x:AX)
 |mm (mx:Bool) (x y:AX)
 |un (op:UnOp) (x:AX)
 |conv (k:IntKind) (x:AX)
 |mkfn (f:Nat) (caps:List AX)
 |mkslice (e:TypeId) (sz bytes:Nat) (zs:V5) (l c:AX)
 |slice (sz:Option Nat) (x:AX) (lo hi:Option AX)
 |faddr (off:Nat) (x:AX)
 |field (off:Nat) (n:Option Nat) (x:AX)
 |iaddr (sz:Nat) (x i:AX)
 |index (x i:AX)
 |aaddr (n sz:Nat) (x i:AX)
 |aidx (n sz:Nat) (m:Option Nat) (x i:AX)
 |ext (x:AX) (i:Nat)
 |len (st:Bool) (x:AX)
 |append (e:TypeId) (sz bytes:Nat) (mv:Bool) (x y:AX)
 |call (f:Nat) (args:List AX)
 |fcall (f:Nat) (args:List AX)
 |icall (f:Nat) (args:List AX)
 |pcall (f:Nat) (args:List AX)
 |dcall (f:AX) (args:List AX)
 deriving Inhabited
structure MO where
 dst:Option Nat
 guard:Option (Nat×Bool)   -- slot of the guarding operation,wanted value
 op:A5
 deriving Inhabited
inductive Za where
 |skip
 |reg (ops:List MO) (keep:V3)
 |regF (ops:List MO) (keep:V3)
 |drw (ops:List MO) (before:List (V3)) (keep:V3)
 |drwF (ops:List MO) (before:List (V3)) (keep:V3)
 |seq (a b:Za)
 |cond (c:AX) (x y:Za)
 |block (id:Nat) (b:Za)
 |loop (keep:V3) (b:Za)
 |exit (id:Nat)
 |ret
 deriving Inhabited
def X5:T->Bool
 |.lst _ _=>false
 |_=>true
def flat(es:WI):Bool:=es.all λx=>x.all X5
def cellsOf:AV->Option (XQ)
 |.agg cs=>some cs
 |.top|.tup _=>none
 |v=>some [v]
def VY(cs:XQ)(off:Nat)(vs:XQ):XQ:=cs.take off++vs++cs.drop (off+vs.length)
def BK(cs:V5)(off:Nat)(vs:V5):V5:=cs.take off++vs++cs.drop (off+vs.length)
def E3(h:V2):AV->Option (T×Bool×V3)
 |.t x=>some (x,X5 x,[])
 |.own b=>match gt h b with
  |.arr _ sz fr es=>some (.lst sz es,fr,[b])
  |_=>none
 |_=>none
def BD(h:V2):XQ->Option (V5×Bool×V3)
 |[]=>some ([],true,[])
 |v::vs=>match E3 h v,BD h vs with
  |some (x,f,ks),some (xs,g,ls)=>some (x::xs,f && g,ks++ls)
  |_,_=>none
def DF:T->T->T
 |.lst sz _,.nil=>.lst sz []
 |_,x=>x
def wk:V5->V5->V5
 |c::cs,x::xs=>DF c x::wk cs xs
 |_,xs=>xs
def BY:XQ->V5->XQ
 |.t c::cs,x::xs=>.t (DF c x)::BY cs xs
 |_::cs,x::xs=>.t x::BY cs xs
 |[],xs=>xs.map .t
 |_,[]=>[]
def kill(ks:V3):List (Nat×AK):=ks.map λb=>(b,.dead)
def U9:V3->Bool
 |[]=>true
 |x::xs=>!xs.contains x && U9 xs
def AJ(op:BinOp):T->T->Option T
 |.int k a,.int k' b=>match op with
  |.shl=>if b<0 then none else some (.int k (k.wrap (a*2 ^ (min b.toNat k.bits))))
  |.shr=>if b<0 then none else some (.int k (a.fdiv (2 ^ (min b.toNat k.bits))))
  |_=>if k=k' then(match op with
   |.add=>some (.int k (k.wrap (a+b)))
   |.sub=>some (.int k (k.wrap (a-b)))
   |.mul=>some (.int k (k.wrap (a*b)))
   |.quo=>if b=0 then none else some (.int k (k.wrap (a.tdiv b)))
   |.rem=>if b=0 then none else some (.int k (a.tmod b))
   |.and=>some (.int k (k.wrap (BitVec.ofInt k.bits a &&& BitVec.ofInt k.bits b).toNat))
   |.or=>some (.int k (k.wrap (BitVec.ofInt k.bits a ||| BitVec.ofInt k.bits b).toNat))
   |.xor=>some (.int k (k.wrap (BitVec.ofInt k.bits a ^^^ BitVec.ofInt k.bits b).toNat))
   |.andNot=>some (.int k (k.wrap (BitVec.ofInt k.bits a &&& ~~~ BitVec.ofInt k.bits b).toNat))
   |.eql=>some (.bool (a == b))
   |.neq=>some (.bool (a != b))
   |.lss=>some (.bool (a<b))
   |.leq=>some (.bool (a<=b))
   |.gtr=>some (.bool (a > b))
   |.geq=>some (.bool (a>=b))
   |_=>none)else none
 |.str a,.str b=>match op with
  |.add=>if a.size+b.size<=9223372036854775807 then some (.str (a++b))else none
  |.eql=>some (.bool (a.toList == b.toList))
  |.neq=>some (.bool (!(a.toList == b.toList)))
  |.lss=>some (.bool (Op.bytesLess a.toList b.toList))
  |.leq=>some (.bool (Op.bytesLess a.toList b.toList || a.toList == b.toList))
  |.gtr=>some (.bool (!(Op.bytesLess a.toList b.toList || a.toList == b.toList)))
  |.geq=>some (.bool (!Op.bytesLess a.toList b.toList))
  |_=>none
 |_,_=>none
def OT:UnOp->T->Option T
 |.not,.bool b=>some (.bool !b)
 |.neg,.int k n=>some (.int k (k.wrap (0-n)))
 |_,_=>none
def TE:Nat->T->T->Option Bool
 |1,.int k a,.int k' b=>if k=k' then some (a == b)else none
 |0,.bool a,.bool b=>some (a == b)
 |2,.str a,.str b=>some (a.toList == b.toList)
 |_,_,_=>none
def B2:V3->XQ->XQ->Option Bool
 |[],[],[]=>some true
 |k::ks,.t a::xs,.t b::ys=>match TE k a b,B2 ks xs ys with
  |some r,some s=>some (r && s)
  |_,_=>none
 |_,_,_=>none
def VH(h:V2):Bool->AV->Option Bool
 |true,.t .nil=>some true
 |true,.t (.lst _ (_::_))=>some false
 |true,.own b=>match gt h b with
  |.arr _ _ _ (_::_)=>some false
  |_=>none
 |false,.nilp=>some true
 |false,.ptr _ _=>some false
 |false,.eptr _ _ _ _=>some false
 |false,.iptr _ _=>some false
 |_,_=>none
def VZ(h:V2):Bool->AV->Option Nat
 |false,.t (.lst _ es)=>some es.length
 |false,.t .nil=>some 0
 |true,.t (.str s)=>some s.size
 |false,.own b=>match gt h b with
  |.arr _ _ _ es=>some es.length
  |_=>none
 |false,.bsl _ n=>some n
 |_,_=>none
def DO(n:Int):Option Nat:=if 0<=n then some n.toNat else none
def K5(e:Env):XQ->List (Nat×Nat×AX)->Option (XQ)
 |cs,[]=>some cs
 |cs,(off,n,x)::ps=>match cellsOf (ev e x)with
  |some vs=>if vs.length=n/\off+n<=cs.length then K5 e (VY cs off vs) ps else none
  |none=>none
def K6(h:V2)(e:Env)(sz:Nat):WI->List (Nat×AX)->Option (WI×Bool×V3)
 |es,[]=>some (es,true,[])
 |es,(i,x)::ps=>match cellsOf (ev e x)with
  |some vs=>match BD h vs with
   |some (ts,f,ks)=>if i<es.length/\vs.length=sz then(match K6 h e sz (es.set i (wk (es.getD i []) ts)) ps with
    |some (es',g,ls)=>some (es',f && g,ks++ls)
    |none=>none)else none
   |none=>none
  |none=>none
def Jg(e:Env):XQ->List (Nat×AX)->Option (XQ)
 |cs,[]=>some cs
 |cs,(i,x)::ps=>match cellsOf (ev e x)with
  |some [v]=>if i<cs.length then Jg e (cs.set i v) ps else none
  |_=>none
def GO(cs:V5)(off:Nat):Option Nat->Option AV
 |none=>(cs[off]?).map .t
 |some n=>if off+n<=cs.length then some (.agg (((cs.drop off).take n).map .t))else none
def Qz(cs:XQ)(off:Nat):Option Nat->Option AV
 |none=>cs[off]?
 |some n=>if off+n<=cs.length then some (.agg ((cs.drop off).take n))else none
def room:Nat:=140737488355328
def Q0(h:V2)(sz:Nat)(mv:Bool):AV->Option (WI×Bool×V3)
 |.t .nil=>some ([],true,[])
 |.t (.lst sz' ys)=>if sz'=sz then some (ys,flat ys,[])else none
 |.own c=>match gt h c with
  |.arr _ sz' fr ys=>if sz'=sz then(if mv then some (ys,fr,[c])else some (ys,flat ys,[]))else none
  |_=>none
 |_=>none
def bnd(e:Env)(d:Nat):Option AX->Option Nat
 |none=>some d
 |some o=>match ev e o with
  |.t (.int _ n)=>DO n
  |_=>none
def Z1(h:V2)(nx:Nat)(e:Env):A5->Option (AV×List (Nat×AK))
 |.mov x=>some (ev e x,[])
 |.pick c a b=>match ev e c with
  |.t (.bool true)=>some (ev e a,[])
  |.t (.bool false)=>some (ev e b,[])
  |_=>none
 |.alloc zs=>some (.ptr nx 0,[(nx,.box zs)])
 |.box x=>match cellsOf (ev e x)with
  |some cs=>some (.ptr nx 0,[(nx,.box cs)])
  |none=>none
 |.build zs ps=>match K5 e zs ps with
  |some cs=>some (.agg cs,[])
  |none=>none
 |.bslice el sz n zs ps=>match K6 h e sz (List.replicate n zs) ps with
  |some (es,fr,ks)=>if U9 ks then some (.own nx,kill ks++[(nx,.arr el sz fr es)])else none
  |none=>none
 |.bptrs n ps=>match Jg e (List.replicate n .nilp) ps with
  |some cs=>some (.bsl nx n,[(nx,.box cs)])
  |none=>none
 |.load n x=>match ev e x with
  |.ptr b off=>match gt h b with
   |.box cs=>(Qz cs off n).map (·,[])
   |_=>none
  |.eptr b i sz off=>match gt h b with
   |.arr _ sz' _ es=>if sz=sz' then(match es[i]? with
    |some cs=>(GO cs off n).map (·,[])
    |none=>none)else none
   |_=>none
  |.iptr cs off=>(GO cs off n).map (·,[])
  |_=>none
 |.store n x v=>match cellsOf (ev e v)with
  |some vs=>if vs.length=n then(match ev e x with
   |.ptr b off=>match gt h b with
    |.box cs=>if off+n<=cs.length then some (.top,[(b,.box (VY cs off vs))])else none
    |_=>none
   |.eptr b i sz off=>match gt h b with
    |.arr el sz' fr es=>match es[i]?,BD h vs with
     |some cs,some (ts,f,ks) =>
      if off+n<=cs.length/\U9 (b::ks)/\sz=sz' then some (.top,kill ks++[(b,.arr el sz' (fr && f) (es.set i (BK cs off (wk (cs.drop off) ts))))])else none
     |_,_=>none
    |_=>none
   |_=>none)else none
  |none=>none
 |.storeF n x v=>match cellsOf (ev e v)with
  |some vs=>if vs.length=n then(match ev e x with
   |.ptr b off=>match gt h b with
    |.box cs=>match BD h vs with
     |some (ts,_,ks)=>if off+n<=cs.length/\U9 (b::ks)then some (.top,kill ks++[(b,.box (VY cs off (BY (cs.drop off) ts)))])else none
     |none=>none
    |_=>none
   |_=>none)else none
  |none=>none
 |.nilchk x=>match ev e x with
  |.ptr b off=>some (.ptr b off,[])
  |.eptr b i sz off=>some (.eptr b i sz off,[])
  |.iptr cs off=>some (.iptr cs off,[])
  |.fn f cs=>some (.fn f cs,[])
  |_=>none
 |.bin op x y=>match ev e x,ev e y with
  |.t a,.t b=>(AJ op a b).map (.t ·,[])
  |_,_=>none
 |.beq neg x y=>match ev e x,ev e y with
  |.t (.bool a),.t (.bool b)=>some (.t (.bool (neg != (a == b))),[])
  |_,_=>none
 |.aeq neg ks x y=>match ev e x,ev e y with
  |.agg xs,.agg ys=>match B2 ks xs ys with
   |some r=>some (.t (.bool (neg != r)),[])
   |none=>none
  |_,_=>none
 |.nileq neg sl x=>match VH h sl (ev e x)with
  |some r=>some (.t (.bool (neg != r)),[])
  |none=>none
 |.mm mx x y=>match ev e x,ev e y with
  |.t (.int k a),.t (.int _ b)=>some (.t (.int k (if mx then(if b > a then b else a)else(if b<a then b else a))),[])
  |_,_=>none
 |.un op x=>match ev e x with
  |.t a=>(OT op a).map (.t ·,[])
  |_=>none
 |.conv k x=>match ev e x with
  |.t (.int _ n)=>some (.t (.int k (k.wrap n)),[])
  |_=>none
 |.mkfn f caps=>some (.fn f (caps.map (ev e)),[])
 |.mkslice el sz bytes zs l c=>match ev e l,ev e c with
  |.t (.int _ l),.t (.int _ c) =>
   if 0<=l/\l<=c/\c.toNat*bytes<=room/\c<=140737488355328 then some (.own nx,[(nx,.arr el sz true (List.replicate l.toNat zs))])else none
  |_,_=>none
 |.slice sz x lo hi=>match bnd e 0 lo with
  |none=>none
  |some l=>match sz,ev e x with
   |none,.t (.str s)=>match bnd e s.size hi with
    |some r=>if l<=r/\r<=s.size then some (.t (.str (s.extract l r)),[])else none
    |none=>none
   |some sz,.t (.lst sz' es)=>match bnd e es.length hi with
    |some r=>if l<=r/\r<=es.length/\sz'=sz then some (.t (.lst sz ((es.take r).drop l)),[])else none
    |none=>none
   |some sz,.own b=>match gt h b with
    |.arr el sz' fr es=>match bnd e es.length hi with
     |some r=>if l=0/\r<=es.length/\sz'=sz then some (.own nx,kill [b]++[(nx,.arr el sz fr (es.take r))])else none
     |none=>none
    |_=>none
   |_,_=>none
 |.faddr off x=>match ev e x with
  |.ptr b o=>some (.ptr b (o+off),[])
  |.eptr b i sz o=>some (.eptr b i sz (o+off),[])
  |.iptr cs o=>some (.iptr cs (o+off),[])
  |_=>none
 |.field off n x=>match ev e x with
  |.agg cs=>(Qz cs off n).map (·,[])
  |_=>none
 |.iaddr sz x i=>match ev e i with
  |.t (.int _ n)=>if 0<=n then(match ev e x with
   |.t (.lst sz' es)=>if sz'=sz then(match es[n.toNat]? with
    |some cs=>some (.iptr cs 0,[])
    |none=>none)else none
   |.own b=>match gt h b with
    |.arr _ sz' _ es=>if sz'=sz/\n.toNat<es.length then some (.eptr b n.toNat sz 0,[])else none
    |_=>none
   |.bsl b m=>if sz=1/\n.toNat<m then some (.ptr b n.toNat,[])else none
   |_=>none)else none
  |_=>none
 |.index x i=>match ev e x,ev e i with
  |.t (.str s),.t (.int _ n)=>if 0<=n then(match s[n.toNat]? with
   |some b=>some (.t (.int .u8 b.toNat),[])
   |none=>none)else none
  |_,_=>none
 |.aaddr n sz x i=>match ev e i with
  |.t (.int _ k)=>if 0<=k/\k.toNat<n then(match ev e x with
   |.ptr b o=>some (.ptr b (o+k.toNat*sz),[])
   |.eptr b j s o=>some (.eptr b j s (o+k.toNat*sz),[])
   |.iptr cs o=>some (.iptr cs (o+k.toNat*sz),[])
   |_=>none)else none
  |_=>none
 |.aidx n sz m x i=>match ev e i with
  |.t (.int _ k)=>if 0<=k/\k.toNat<n then(match ev e x with
   |.agg cs=>(Qz cs (k.toNat*sz) m).map (·,[])
   |_=>none)else none
  |_=>none
 |.ext x i=>match ev e x with
  |.tup vs=>(vs[i]?).map (·,[])
  |_=>none
 |.len st x=>match VZ h st (ev e x)with
  |some n=>some (.t (.int .i64 (n:Int)),[])
  |none=>none
 |.append el sz bytes mv x y=>match Q0 h sz mv (ev e y)with
  |some (ys,f,ks)=>match ev e x with
   |.t .nil=>if ys.length*bytes<=room/\ys.length<=room then some (.own nx,kill ks++[(nx,.arr el sz f ys)])else none
   |.own b=>match gt h b with
    |.arr DG sz' fr es =>
     if DG=el/\sz'=sz/\U9 (b::ks)/\(es.length+ys.length)*bytes<=room/\es.length+ys.length<=room then
      some (.own nx,kill (b::ks)++[(nx,.arr el sz (fr && f) (es++ys))])else none
    |_=>none
   |_=>none
  |none=>none
 |.call _ _|.fcall _ _|.icall _ _|.pcall _ _|.dcall _ _=>none
def BH(h:V2):AV->Option T
 |.t x=>some x
 |.own b=>match gt h b with
  |.arr _ sz _ es=>some (.lst sz es)
  |_=>none
 |_=>none
def Q1(h:V2):XQ->Option (V5)
 |[]=>some []
 |v::vs=>match BH h v,Q1 h vs with
  |some x,some xs=>some (x::xs)
  |_,_=>none
def Bx(h:V2):AV->Option AV
 |.t x=>some (.t x)
 |.nilp=>some .nilp
 |.iptr cs off=>some (.iptr cs off)
 |.own b=>match gt h b with
  |.arr _ sz _ es=>some (.t (.lst sz es))
  |_=>none
 |.ptr b off=>match gt h b with
  |.box cs=>match Q1 h cs with
   |some ts=>some (.iptr ts off)
   |none=>none
  |_=>none
 |.agg cs=>match Q1 h cs with
  |some ts=>some (.agg (ts.map .t))
  |none=>none
 |_=>none
def JV(h:V2):XQ->Option (XQ)
 |[]=>some []
 |v::vs=>match Bx h v,JV h vs with
  |some x,some xs=>some (x::xs)
  |_,_=>none
def Dg(h:V2):AV->Option AV
 |.fn g cs=>match JV h cs with
  |some ds=>some (.fn g ds)
  |none=>none
 |v=>Bx h v
def A0(h:V2):XQ->Option (XQ)
 |[]=>some []
 |v::vs=>match Dg h v,A0 h vs with
  |some x,some xs=>some (x::xs)
  |_,_=>none
def Du:AV->Bool
 |.t _|.own _|.agg _=>true
 |_=>false
def Cy(h:V2):AV->Option AV
 |.tup vs=>if vs.all Du=true then(match A0 h vs with
  |some ds=>some (.tup ds)
  |none=>none)else none
 |v=>if Du v=true then Dg h v else none
mutual
def ren(f:Nat->Nat):AV->AV
 |.agg cs=>.agg (rens f cs)
 |.tup vs=>.tup (rens f vs)
 |.ptr b off=>.ptr (f b) off
 |.eptr b i sz off=>.eptr (f b) i sz off
 |.own b=>.own (f b)
 |.bsl b n=>.bsl (f b) n
 |.fn g cs=>.fn g (rens f cs)
 |v=>v
def rens(f:Nat->Nat):XQ->XQ
 |[]=>[]
 |v::vs=>ren f v::rens f vs
end
def Bi(f:Nat->Nat):AK->AK
 |.box cs=>.box (rens f cs)
 |b=>b
mutual
def refs:AV->V3
 |.agg cs=>ZA cs
 |.tup vs=>ZA vs
 |.ptr b _=>[b]
 |.eptr b _ _ _=>[b]
 |.own b=>[b]
 |.bsl b _=>[b]
 |.fn _ cs=>ZA cs
 |_=>[]
def ZA:XQ->V3
 |[]=>[]
 |v::vs=>refs v++ZA vs
end
def Vu:AK->V3
 |.box cs=>ZA cs
 |_=>[]
structure S where
 env:Env
 stk:List Env
 h:V2
 deriving Inhabited
inductive X where
 |n
 |x (id:Nat)
 |r
def put(d:Option Nat)(v:AV)(e:Env):Env:=match d with
 |some d=>(d,v)::e
 |none=>e
def rst(keep:V3)(e:Env):Env:=keep.map λk=>(k,lk k e)
def scrub(h:V2):AV->AV
 |.own b=>match gt h b with
  |.dead=>.top
  |_=>.own b
 |v=>v
def Iz(h:V2)(e:Env):Env:=e.map λp=>(p.1,scrub h p.2)
def X7(h:V2):Nat->V3->V3->V3
 |0,_,acc=>acc
 |_,[],acc=>acc
 |n+1,b::todo,acc=>if acc.contains b then X7 h n todo acc else X7 h n (Vu (gt h b)++todo) (acc++[b])
def idx(b:Nat):V3->Nat->Nat
 |[],i=>i
 |c::cs,i=>if c=b then i else idx b cs (i+1)
def K7(e:Env):V3:=e.flatMap λp=>refs p.2
def CW(f:Nat->Nat)(e:Env):Env:=e.map λp=>(p.1,ren f p.2)
def Qh(h:V2)(ids rs:V3):Bool:=rs.all (ids.contains ·) && ids.all λb=>(Vu (gt h b)).all (ids.contains ·)
def Q2(keep:V3)(s:S):S :=
 let env:=Iz s.h (rst keep s.env)
 let rs:=K7 env++s.stk.flatMap K7
 let ids:=X7 s.h 200 rs []
 if Qh s.h ids rs then
  let f:=λb=>idx b ids 0
  { env:=CW f env,stk:=s.stk.map (CW f),h:=ids.map λb=>Bi f (gt s.h b) }
 else { env:=[],stk:=s.stk,h:=s.h }
def shift(n:Nat)(v:AV):AV:=ren (λb=>b+n) v
def Bk(n:Nat):V2->Nat->List (Nat×AK)
 |[],_=>[]
 |b::bs,i=>(n+i,Bi (λc=>c+n) b)::Bk n bs (i+1)
mutual
def QV:AV->Bool
 |.t x=>X5 x
 |.agg cs=>UF cs
 |.tup cs=>UF cs
 |.fn _ cs=>UF cs
 |.iptr _ _=>false
 |_=>true
def UF:XQ->Bool
 |[]=>true
 |v::vs=>QV v && UF vs
end
def TF:AK->Bool
 |.dead=>true
 |.box cs=>UF cs
 |.arr _ _ fr _=>fr
def EO(r:AV)(hr:V2):Bool:=QV r && hr.all TF
def UG(args:XQ):Bool:=(ZA args).isEmpty
inductive Cr where
 |tmp (t:Nat)
 |cell (a:Nat) (n:Option Nat)
 |tmpO (t:Nat) (l:List (Option (Nat×Nat)))
 |cellO (a:Nat) (n:Option Nat) (l:List (Option (Nat×Nat)))
structure Ab where
 np:Nat
 nt:Nat
 res:List Cr
 body:Za
def JW(s:S):Cr->Option AV
 |.tmp t=>some (lk t s.env)
 |.tmpO t _=>some (lk t s.env)
 |.cell a n=>match lk a s.env with
  |.ptr b off=>match gt s.h b with
   |.box cs=>Qz cs off n
   |_=>none
  |_=>none
 |.cellO a n _=>match lk a s.env with
  |.ptr b off=>match gt s.h b with
   |.box cs=>Qz cs off n
   |_=>none
  |_=>none
def UH(s:S):List Cr->Option (XQ)
 |[]=>some []
 |r::rs=>match JW s r,UH s rs with
  |some v,some vs=>some (v::vs)
  |_,_=>none
def Cs(rs:List Cr)(s:S):Option AV:=match UH s rs with
 |some [v]=>some v
 |some vs=>some (.tup vs)
 |none=>none
abbrev CS:=Nat->XQ->V2->AV->V2->Prop
def ZQ(h:V2)(vs:XQ):V3:=X7 h 200 (ZA vs) []
def A2(h:V2)(ids:V3):V2:=ids.map λb=>Bi (λc=>idx c ids 0) (gt h b)
def BQ(ids:V3)(vs:XQ):XQ:=rens (λc=>idx c ids 0) vs
def bk(ids:V3)(nx i:Nat):Nat:=match ids[i]? with
 |some b=>b
 |none=>nx+(i-ids.length)
def Wd(ids:V3)(nx:Nat):V2->Nat->List (Nat×AK)
 |[],_=>[]
 |b::bs,i=>(bk ids nx i,Bi (bk ids nx) b)::Wd ids nx bs (i+1)
mutual
def IA(b:Nat)(d:AV):AV->AV
 |.own c=>if c=b then d else .own c
 |.agg cs=>.agg (CH b d cs)
 |.tup cs=>.tup (CH b d cs)
 |.fn f cs=>.fn f (CH b d cs)
 |v=>v
def CH(b:Nat)(d:AV):XQ->XQ
 |[]=>[]
 |v::vs=>IA b d v::CH b d vs
end
def rY(b:Nat)(d:AV):AK->AK
 |.box cs=>.box (CH b d cs)
 |x=>x
def IB(b:Nat)(d:AV):Env->Env
 |[]=>[]
 |(k,v)::e=>(k,IA b d v)::IB b d e
def CX(b:Nat)(d:AV)(h:V2):V2:=stB (h.map (rY b d)) b .dead
def fzS(b:Nat)(s:S):Option S:=match gt s.h b with
 |.arr _ sz _ es=>some { env:=IB b (.t (.lst sz es)) s.env,stk:=s.stk.map (IB b (.t (.lst sz es))),h:=CX b (.t (.lst sz es)) s.h }
 |_=>none
def fzVs:XQ->S->S
 |[],s=>s
 |.own b::vs,s=>fzVs vs ((fzS b s).getD s)
 |_::vs,s=>fzVs vs s
def CI(j:Nat):List MO->List AX
 |[]=>[]
 |⟨some d,_,.mov x⟩::os=>if d=j then x::CI j os else CI j os
 |_::os=>CI j os
def Dh(all:List MO):List MO->List AX
 |[]=>[]
 |⟨_,_,.slice _ (.s j) _ _⟩::os=>CI j all++Dh all os
 |_::os=>Dh all os
def OU:AV->XQ
 |.agg cs=>cs
 |v=>[v]
def B3(s:S)(j:Nat):List MO->XQ
 |[]=>[]
 |⟨some d,_,.mov x⟩::os=>if d=j then OU (ev s.env x)++B3 s j os else B3 s j os
 |⟨some d,_,.load n x⟩::os=>if d=j then(match Z1 s.h 0 s.env (.load n x)with|some (v,_)=>OU v|none=>[])++B3 s j os else B3 s j os
 |_::os=>B3 s j os
def CJ(s:S)(all:List MO):List AX->XQ
 |[]=>[]
 |.s j::xs=>B3 s j all++CJ s all xs
 |_::xs=>CJ s all xs
def TG(s:S)(all:List MO):List MO->XQ
 |[]=>[]
 |⟨_,_,.icall _ xs⟩::os=>CJ s all xs++TG s all os
 |⟨_,_,.call _ xs⟩::os=>CJ s all xs++TG s all os
 |_::os=>TG s all os
def CK(j:Nat):List MO->Option A5
 |[]=>none
 |⟨some d,_,op⟩::os=>if d=j then some op else CK j os
 |_::os=>CK j os
def GP(s:S)(all:List MO)(j:Nat):XQ:=match CK j all with
 |some (.load n (.s k))=>(match CK k all with
  |some (.faddr o y)=>(match Z1 s.h 0 s.env (.faddr o y)with
   |some (p,_)=>(match Z1 s.h 0 [(k,p)] (.load n (.s k))with
    |some (v,_)=>OU v
    |none=>[])
   |none=>[])
  |_=>[])
 |_=>[]
def E4(s:S)(all:List MO):List MO->XQ
 |[]=>[]
 |⟨_,_,.slice _ (.s j) _ _⟩::os=>GP s all j++E4 s all os
 |_::os=>E4 s all os
def TH(os:List MO)(s:S):S:=fzVs ((Dh os os).map (ev s.env)++TG s os os++E4 s os os) s
def fzO(o:MO)(s:S):S:=match o.op with
 |.bslice _ _ _ _ ps=>fzVs (ps.map λp=>ev s.env p.2) s
 |.slice _ x _ _=>fzVs [ev s.env x] s
 |.icall _ as=>fzVs ((as.map (ev s.env)).flatMap OU) s
 |.call _ as=>fzVs ((as.map (ev s.env)).flatMap OU) s
 |_=>s
section
variable(Γ:CS)
def Qi(f:Nat)(vs:XQ)(h:V2)(nx:Nat)(K:AV->List (Nat×AK)->Prop):Prop :=
 Qh h (ZQ h vs) (ZA vs)=true/\∃r h1,Γ f (BQ (ZQ h vs) vs) (A2 h (ZQ h vs)) r h1/\K (ren (bk (ZQ h vs) nx) r) (Wd (ZQ h vs) nx h1 0)
def Jh(f:Nat)(vs:XQ)(h:V2)(nx:Nat)(K:AV->List (Nat×AK)->Prop):Prop :=
 Qh h (ZQ h vs) (ZA vs)=true/\∃r hn,Γ f (BQ (ZQ h vs) vs) (A2 h (ZQ h vs)) r (A2 h (ZQ h vs)++hn)/\K (ren (bk (ZQ h vs) nx) r) (Wd (ZQ h vs) nx hn (ZQ h vs).length)
def BB(o:MO)(s:S)(K:S->Prop):Prop:=match o.op with
 |.call f args=>∃as,A0 s.h (args.map (ev s.env))=some as/\∃r hr,Γ f as [] r hr/\(UG (args.map (ev s.env)) || EO r hr)=true/\
   K { s with env:=put o.dst (shift s.h.length r) s.env,h:=upd s.h (Bk s.h.length hr 0) }
 |.fcall f args=>∃as,A0 s.h (args.map (ev s.env))=some as/\UG (args.map (ev s.env))=true/\∃r hr d,Γ f as [] r hr/\Cy hr r=some d/\K { s with env:=put o.dst d s.env,h:=upd s.h [] }
 |.icall f args=>Qi Γ f (args.map (ev s.env)) s.h s.h.length λv u=>K { s with env:=put o.dst v s.env,h:=upd s.h u }
 |.pcall f args=>Jh Γ f (args.map (ev s.env)) s.h s.h.length λv u=>K { s with env:=put o.dst v s.env,h:=upd s.h u }
 |.dcall f args=>match ev s.env f with
  |.fn g caps=>Qi Γ g (args.map (ev s.env)++caps) s.h s.h.length λv u=>K { s with env:=put o.dst v s.env,h:=upd s.h u }
  |_=>False
 |k=>match Z1 s.h s.h.length s.env k with
  |some (v,u)=>K { s with env:=put o.dst v s.env,h:=upd s.h u }
  |none=>False
def DP(o:MO)(s:S)(K:S->Prop):Prop:=match o.guard with
 |none=>BB Γ o s K
 |some (g,want)=>match lk g s.env with
  |.t (.bool b)=>if b=want then BB Γ o s K else K { s with env:=put o.dst (.tup []) s.env }
  |.tup []=>K { s with env:=put o.dst (.tup []) s.env }
  |_=>False
def Cn:List MO->S->(S->Prop)->Prop
 |[],s,K=>K s
 |o::os,s,K=>DP Γ o s λs'=>Cn os s' K
def Ji:List MO->S->(S->Prop)->Prop
 |[],s,K=>K s
 |o::os,s,K=>DP Γ o (fzO o s) λs'=>Ji os s' K
structure AN where
 rs:V3
 ws:V3
 rb:V3
 wb:V3
def rZ:AX->V3
 |.s i=>[i]
 |.c _=>[]
def ZC:A5->List AX
 |.mov x=>[x]
 |.pick c a b=>[c,a,b]
 |.alloc _=>[]
 |.box x=>[x]
 |.build _ ps=>ps.map λp=>p.2.2
 |.bslice _ _ _ _ ps=>ps.map λp=>p.2
 |.bptrs _ ps=>ps.map λp=>p.2
 |.load _ x=>[x]
 |.store _ x v=>[x,v]
 |.storeF _ x v=>[x,v]
 |.nilchk x=>[x]
 |.bin _ x y=>[x,y]
 |.beq _ x y=>[x,y]
 |.aeq _ _ x y=>[x,y]
 |.nileq _ _ x=>[x]
 |.mm _ x y=>[x,y]
 |.un _ x=>[x]
 |.conv _ x=>[x]
 |.mkfn _ caps=>caps
 |.mkslice _ _ _ _ l c=>[l,c]
 |.slice _ x lo hi=>x::(lo.toList++hi.toList)
 |.faddr _ x=>[x]
 |.field _ _ x=>[x]
 |.iaddr _ x i=>[x,i]
 |.index x i=>[x,i]
 |.aaddr _ _ x i=>[x,i]
 |.aidx _ _ _ x i=>[x,i]
 |.ext x _=>[x]
 |.len _ x=>[x]
 |.append _ _ _ _ x y=>[x,y]
 |.call _ args=>args
 |.fcall _ args=>args
 |.icall _ args=>args
 |.pcall _ args=>args
 |.dcall f args=>f::args
def Jj(h:V2)(rs:V3):V3:=rs++(rs.flatMap λb=>Vu (gt h b))++X7 h 200 rs []
def GR(k:A5)(e:Env):V3:=match k with
 |.mov _=>[]
 |.dcall f args=>match ev e f with
  |.fn _ caps=>ZA (args.map (ev e)++caps)
  |_=>ZA ((ZC (.dcall f args)).map (ev e))
 |k=>ZA ((ZC k).map (ev e))
def E5(k:A5)(h:V2)(e:Env):V3:=match k with
 |.call f a=>Jj h (GR (.call f a) e)
 |.fcall f a=>Jj h (GR (.fcall f a) e)
 |.icall f a=>Jj h (GR (.icall f a) e)
 |.pcall f a=>Jj h (GR (.pcall f a) e)
 |.dcall f a=>Jj h (GR (.dcall f a) e)
 |k=>GR k e
def VI(o:MO)(s:S)(wb:V3):AN :=
 { rs:=(ZC o.op).flatMap rZ++(match o.guard with|some (g,_)=>[g]|none=>[]),ws:=o.dst.toList,rb:=E5 o.op s.h s.env,wb:=wb }
def meets(a b:V3):Bool:=a.any (b.contains ·)
def QW(f g:AN):Bool:=meets f.ws (g.rs++g.ws) || meets g.ws f.rs || meets f.wb (g.rb++g.wb) || meets g.wb f.rb
def TI:List (V3)->List (V3)->List (V3)
 |[],acc=>acc
 |b::bs,acc=>TI bs (acc++[b++b.flatMap λi=>acc.getD i []])
def Z2G(cl:List (V3))(Ax:List AN)(j:Nat):Bool :=
 match Ax[j]?,cl[j]? with
 |some g,some c=>(List.range j).all λi=>match Ax[i]? with
  |some f=>!QW f g || c.contains i
  |none=>false
 |_,_=>false
def JX(before:List (V3))(Ax:List AN):Bool:=(List.range Ax.length).all (Z2G (TI before []) Ax)
def Qj(o:MO)(s:S)(K:AN->S->Prop):Prop:=match o.op with
 |.call f args=>∃as,A0 s.h (args.map (ev s.env))=some as/\∃r hr,Γ f as [] r hr/\(UG (args.map (ev s.env)) || EO r hr)=true/\
   K (VI o s ((Bk s.h.length hr 0).map Prod.fst)) { s with env:=put o.dst (shift s.h.length r) s.env,h:=upd s.h (Bk s.h.length hr 0) }
 |.fcall f args=>∃as,A0 s.h (args.map (ev s.env))=some as/\UG (args.map (ev s.env))=true/\∃r hr d,Γ f as [] r hr/\Cy hr r=some d/\
   K (VI o s (([]:List (Nat×AK)).map Prod.fst)) { s with env:=put o.dst d s.env,h:=upd s.h [] }
 |.icall f args=>Qi Γ f (args.map (ev s.env)) s.h s.h.length λv u=>K (VI o s (u.map Prod.fst)) { s with env:=put o.dst v s.env,h:=upd s.h u }
 |.pcall f args=>Jh Γ f (args.map (ev s.env)) s.h s.h.length λv u=>K (VI o s (u.map Prod.fst)) { s with env:=put o.dst v s.env,h:=upd s.h u }
 |.dcall f args=>match ev s.env f with
  |.fn g caps=>Qi Γ g (args.map (ev s.env)++caps) s.h s.h.length λv u=>K (VI o s (u.map Prod.fst)) { s with env:=put o.dst v s.env,h:=upd s.h u }
  |_=>False
 |k=>match Z1 s.h s.h.length s.env k with
  |some (v,u)=>K (VI o s (u.map Prod.fst)) { s with env:=put o.dst v s.env,h:=upd s.h u }
  |none=>False
def CL(o:MO)(s:S)(K:AN->S->Prop):Prop:=match o.guard with
 |none=>Qj Γ o s K
 |some (g,want)=>match lk g s.env with
  |.t (.bool b)=>if b=want then Qj Γ o s K else K (VI o s []) { s with env:=put o.dst (.tup []) s.env }
  |.tup []=>K (VI o s []) { s with env:=put o.dst (.tup []) s.env }
  |_=>False
def CM:List MO->S->List AN->(List AN->S->Prop)->Prop
 |[],s,Ax,K=>K Ax s
 |o::os,s,Ax,K=>CL Γ o s λf s'=>CM os s' (Ax++[f]) K
def GS(keep:V3)(body:(X->S->Prop)->S->Prop)(Q:X->S->Prop)(s:S):Prop :=
 ∃(I:S->Prop) (μ:S->Nat),I (Q2 keep s)/\∀s,I s->body (λx s'=>match x with
  |.n=>I (Q2 keep s')/\μ (Q2 keep s')<μ s
  |x=>Q x s') s
def Wc:Za->(X->S->Prop)->S->Prop
 |.skip,Q,s=>Q .n s
 |.reg ops keep,Q,s=>Cn Γ ops s λs'=>Q .n { s' with env:=rst keep s'.env }
 |.drw ops before keep,Q,s=>CM Γ ops s [] λAx s'=>JX before Ax=true/\Q .n { s' with env:=rst keep s'.env }
 |.regF ops keep,Q,s=>Ji Γ ops s λs'=>Q .n { s' with env:=rst keep s'.env }
 |.drwF ops before keep,Q,s=>CM Γ ops (TH ops s) [] λAx s'=>JX before Ax=true/\Q .n { s' with env:=rst keep s'.env }
 |.seq a b,Q,s=>Wc a (λx s'=>match x with|.n=>Wc b Q s'|x=>Q x s') s
 |.cond c x y,Q,s=>match ev s.env c with
  |.t (.bool b)=>if b=true then Wc x Q s else Wc y Q s
  |_=>False
 |.block id b,Q,s=>Wc b (λx s'=>match x with|.x i=>(if i=id then Q .n s' else Q (.x i) s')|x=>Q x s') s
 |.loop keep b,Q,s=>GS keep (Wc b) Q s
 |.exit id,Q,s=>Q (.x id) s
 |.ret,Q,s=>Q .r s
end
def K8:XQ->Nat->Env
 |[],_=>[]
 |v::vs,i=>(i,v)::K8 vs (i+1)
def B5(rs:List Cr)(K:AV->S->Prop):X->S->Prop
 |.x _,_=>False
 |_,s=>match Cs rs s with
  |some v=>K v s
  |none=>False
def QX:V2->Nat->Env
 |[],_=>[]
 |b::bs,i=>(i,match b with|.box _=>.ptr i 0|.arr _ _ _ _=>.own i|_=>.top)::QX bs (i+1)
def Xo(h:V2)(e:Env)(i:Nat):Nat:=match scrub h (lk i e)with
 |.ptr b 0=>b
 |.own b=>b
 |_=>h.length+i
def r8(k:Nat)(v:AV)(s:S):XP :=
 let v:=scrub s.h v
 let e:=match s.stk with|[e]=>e|_=>[]
 let rs:=(List.range k).map (Xo s.h e)
 let ids:=X7 s.h 200 ((rs.flatMap λb=>Vu (gt s.h b))++refs v) rs
 if Qh s.h ids (rs++refs v) && U9 rs then
  some (ren (λb=>idx b ids 0) v,ids.map λb=>Bi (λb=>idx b ids 0) (gt s.h b))
 else none
def Q3:List (Option (Nat×Nat))->XQ->V2->XQ×V2
 |some (e,sz+1)::ps,.t .nil::cs,h=>match Q3 ps cs (h++[.arr e (sz+1) true []])with
  |(cs',h')=>(.own h.length::cs',h')
 |_::ps,c::cs,h=>match Q3 ps cs h with
  |(cs',h')=>(c::cs',h')
 |[],cs,h=>(cs,h)
 |_,[],h=>([],h)
def CY(n:Nat)(v:AV)(h:V2):XS:=match v with
 |.t .nil=>(.t (.lst n []),h)
 |.own b=>match gt h b with
  |.arr _ sz _ es=>(.t (.lst sz es),CX b (.t (.lst sz es)) h)
  |_=>(.own b,h)
 |v=>(v,h)
def UI:List (Option (Nat×Nat))->XQ->V2->XQ×V2
 |some (n,0)::ps,c::cs,h=>match CY n c h with
  |(c',h1)=>match UI ps cs h1 with
   |(cs',h')=>(c'::cs',h')
 |_::ps,c::cs,h=>match UI ps cs h with
  |(cs',h')=>(c::cs',h')
 |_,cs,h=>(cs,h)
def Cz(l:List (Option (Nat×Nat)))(v:AV)(h:V2):XS:=match v with
 |.agg cs=>match Q3 l cs h with
  |(cs',h')=>match UI l cs' h' with
   |(cs'',h'')=>(.agg cs'',h'')
 |v=>match l with
  |[some (e,sz+1)]=>match v with
   |.t .nil=>(.own h.length,h++[.arr e (sz+1) true []])
   |v=>(v,h)
  |[some (n,0)]=>CY n v h
  |_=>(v,h)
def Qk:List Cr->XQ->V2->XQ×V2
 |.tmpO _ l::rs,v::vs,h=>match Cz l v h with
  |(v',h')=>match Qk rs vs h' with
   |(vs',h'')=>(v'::vs',h'')
 |.cellO _ _ l::rs,v::vs,h=>match Cz l v h with
  |(v',h')=>match Qk rs vs h' with
   |(vs',h'')=>(v'::vs',h'')
 |_::rs,v::vs,h=>match Qk rs vs h with
  |(vs',h')=>(v::vs',h')
 |[],vs,h=>(vs,h)
 |_,[],h=>([],h)
def CZ:List Cr->AV->V2->XS
 |[.tmpO _ l],v,h=>Cz l v h
 |[.cellO _ _ l],v,h=>Cz l v h
 |r::q::rs,.tup vs,h=>match Qk (r::q::rs) vs h with
  |(vs',h')=>(.tup vs',h')
 |_,v,h=>(v,h)
def r9(rs:List Cr)(k:Nat)(v:AV)(s:S):XP:=match CZ rs v s.h with
 |(v',h')=>r8 k v' { s with h:=h' }
def FW(Γ:CS)(m:Ab)(args:XQ)(h0:V2)(r:AV)(hr:V2):Prop :=
 args.length=m.np/\Wc Γ m.body (B5 m.res λv s=>r9 m.res h0.length v s=some (r,hr)) { env:=K8 args 0,stk:=[QX h0 0],h:=h0 }
def DQ:Value->Option T
 |.int k n=>some (.int k n)
 |.bool b=>some (.bool b)
 |.string s=>some (.str s)
 |.slice none 0 0=>some .nil
 |_=>none
def C0(v:Value):Option AV:=match v with
 |.pointer none=>some .nilp
 |v=>(DQ v).map .t
def AW{α β:Type}(f:α->Option β):List α->Option (List β)
 |[]=>some []
 |x::xs=>match f x,AW f xs with
  |some y,some ys=>some (y::ys)
  |_,_=>none
def Di:Value->Option AV
 |.agg cs=>(AW C0 cs.toList).map .agg
 |v=>C0 v
def A7:Operand->Option AX
 |.tmp t=>some (.s t)
 |.const v=>(Di v).map .c
 |.func f=>some (.c (.fn f []))
 |.global _=>none
def IC(P:Program):Nat->Bool->TypeId->List (Option Nat)
 |0,_,_=>[]
 |n+1,a,t=>match P.underlying t with
  |some (.struct fs)=>fs.toList.flatMap λf=>IC P n a f.type
  |some (.array k e)=>(List.replicate k (IC P n true e)).flatten
  |some (.slice e)=>[if a then some (match P.info? e with|some i=>i.size|none=>0)else none]
  |_=>[none]
def wz1:Option Nat->AV->AV
 |some s,.t .nil=>.t (.lst s [])
 |_,v=>v
def OV:List (Option Nat)->XQ->XQ
 |n::ns,v::vs=>wz1 n v::OV ns vs
 |_,vs=>vs
def Ct(P:Program)(t:TypeId):Option (XQ):=(((P.info? t).bind (·.zero)).bind λz=>AW C0 z.cells.toList).map (OV (IC P 8 false t))
def ID(P:Program):Nat->TypeId->V3
 |0,_=>[]
 |n+1,t=>match P.underlying t with
  |some (.struct fs)=>fs.toList.flatMap λf=>ID P n f.type
  |some (.array k e)=>(List.replicate k (ID P n e)).flatten
  |some (.slice e)=>[match P.info? e with|some i=>i.size|none=>0]
  |_=>[0]
def Cu(P:Program)(t:TypeId):Option (V5):=(((P.info? t).bind (·.zero)).bind λz=>AW DQ z.cells.toList).map (wk ((ID P 8 t).map λs=>.lst s []))
def UJ(P:Program)(t:TypeId):Option (Option Nat):=match P.underlying t with
 |some (.struct _)|some (.array _ _)=>(P.info? t).map λi=>some i.size
 |some _=>some none
 |none=>none
def ZEl(ops:Array Oper)(x:Operand):Bool:=match x with
 |.tmp t=>ops.any λo=>o.dst == some t && (match o.op with|.buildSlice ..=>true|_=>false)
 |_=>false
def ZEm(P:Program)(ops:Array Oper)(x:Operand):Bool:=match x with
 |.tmp t=>ops.any λo=>o.dst == some t && (match o.op with
  |.indexAddr ty _ _=>(match P.underlying ty with|some (.array _ _)=>true|_=>false)
  |_=>false)
 |_=>false
def OW(P:Program)(t:TypeId)(f:Nat):Option (Nat×TypeId):=match P.underlying t with
 |some (.struct fs)=>match fs[f]? with
  |some fd=>match P.info? fd.type with
   |some i=>if i.size=0 then none else some (fd.offset,fd.type)
   |none=>none
  |none=>none
 |_=>none
def E6(P:Program):List Field->Nat->Option (V3)
 |[],_=>some []
 |f::fs,j=>if f.name≠"_"/\f.offset=j then(match(match P.underlying f.type with
   |some .bool=>some 0
   |some (.int _)=>some 1
   |some .string=>some 2
   |_=>none),E6 P fs (j+1)with
  |some k,some ks=>some (k::ks)
  |_,_=>none)else none
def Jk(P:Program)(f:Nat):Bool:=match P.funcs[f]? with
 |some fn=>fn.body.isSome && fn.name != "runtime.NumGoroutine"
 |none=>false
def DR(inl:V3)(f:Nat)(as:List AX):A5 :=
 if inl.contains f then .icall f as else if inl.contains (f+1000000)then .pcall f as else if inl.contains 9999996 && inl.contains (f+7000000)then .fcall f as else .call f as
def Xh(P:Program)(inl:V3)(ops:Array Oper):Op->Option A5
 |.move x|.assign x=>(A7 x).map .mov
 |.pick c a b=>match A7 c,A7 a,A7 b with
  |some c,some a,some b=>some (.pick c a b)
  |_,_,_=>none
 |.alloc e=>(Ct P e).map .alloc
 |.box _ x=>(A7 x).map .box
 |.build t ps=>match P.underlying t,Ct P t with
  |some (.struct fs),some zs=>match fs.toList.mapM (λf=>(P.info? f.type).map λi=>(f.offset,i.size))with
   |some places=>(AW (λp:Nat×Operand=>match places[p.1]?,A7 p.2 with
    |some q,some x=>some (q.1,q.2,x)
    |_,_=>none) ps.toList).map (.build zs)
   |none=>none
  |_,_=>none
 |.buildSlice t n ps=>match P.underlying t with
  |some (.slice e)=>match P.info? e with
   |some i=>if n*i.size<=16777216/\0<i.size then(match AW (λp:Nat×Operand=>(A7 p.2).map λx=>(p.1,x)) ps.toList with
     |some qs=>(match Cu P e with
      |some zs=>if zs.length=i.size then some (.bslice e i.size n zs qs)else none
      |none=>match i.zero with
       |some (.pointer none)=>if i.size=1 then some (.bptrs n qs)else none
       |_=>none)
     |none=>none)else none
   |none=>none
  |_=>none
 |.load t x=>match UJ P t,A7 x with
  |some n,some x'=>some (.load n x')
  |_,_=>none
 |.store t x v=>match P.info? t,A7 x,A7 v with
  |some i,some x',some v=>some (if ZEm P ops x=true then .storeF i.size x' v else .store i.size x' v)
  |_,_,_=>none
 |.nilCheck x=>(A7 x).map .nilchk
 |.binOp op t x y _=>match A7 x,A7 y with
  |some x',some y'=>match P.underlying t with
   |some (.int _)|some .string=>some (.bin op x' y')
   |some .bool=>match op with
    |.eql=>some (.beq false x' y')
    |.neq=>some (.beq true x' y')
    |_=>none
   |some (.slice _)=>match op,y with
    |.eql,.const (.slice none 0 0)=>some (.nileq false true x')
    |.neq,.const (.slice none 0 0)=>some (.nileq true true x')
    |_,_=>none
   |some (.pointer _)=>match op,y with
    |.eql,.const (.pointer none)=>some (.nileq false false x')
    |.neq,.const (.pointer none)=>some (.nileq true false x')
    |_,_=>none
   |some (.struct fs)=>match E6 P fs.toList 0 with
    |some ks=>if P.stoodInHeld t=false/\P.eqGuardType P.depth t=false then(match op with
     |.eql=>some (.aeq false ks x' y')
     |.neq=>some (.aeq true ks x' y')
     |_=>none)else none
    |none=>none
   |_=>none
  |_,_=>none
 |.unOp op _ x=>(A7 x).map (.un op)
 |.convert s d x=>match P.underlying s,P.underlying d with
  |some _,some (.int k)=>(A7 x).map (.conv k)
  |_,_=>none
 |.makeFunc (.func f) first caps=>if first.isEmpty then(AW A7 caps.toList).map (.mkfn f)else none
 |.makeSlice t l c=>match P.underlying t with
  |some (.slice e)=>match P.info? e,Cu P e,A7 l,A7 c with
   |some i,some zs,some l,some c=>if zs.length=i.size/\0<i.size then some (.mkslice e i.size i.bytes zs l c)else none
   |_,_,_,_=>none
  |_=>none
 |.slice t x lo hi none=>match(match P.underlying t with
   |some .string=>some none
   |some (.slice e)=>(P.info? e).map λi=>some i.size
   |_=>none),A7 x,(match lo with|none=>some none|some o=>(A7 o).map some),(match hi with|none=>some none|some o=>(A7 o).map some)with
  |some sz,some x,some lo,some hi=>some (.slice sz x lo hi)
  |_,_,_,_=>none
 |.fieldAddr t x f=>match OW P t f,A7 x with
  |some (off,_),some x=>some (.faddr off x)
  |_,_=>none
 |.field t x f=>match OW P t f,A7 x with
  |some (off,u),some x=>(UJ P u).map λn=>.field off n x
  |_,_=>none
 |.indexAddr t x i=>match P.underlying t with
  |some (.slice e)=>match P.info? e,A7 x,A7 i with
   |some inf,some x,some i=>some (.iaddr inf.size x i)
   |_,_,_=>none
  |some (.array n e)=>match P.info? e,A7 x,A7 i with
   |some inf,some x,some i=>some (.aaddr n inf.size x i)
   |_,_,_=>none
  |_=>none
 |.index t x i=>match P.underlying t,A7 x,A7 i with
  |some .string,some x,some i=>some (.index x i)
  |some (.array n e),some x,some i=>match P.info? e,UJ P e with
   |some inf,some m=>some (.aidx n inf.size m x i)
   |_,_=>none
  |_,_,_=>none
 |.extract x i=>(A7 x).map λx=>.ext x i
 |.call c=>match c.callee with
  |.builtin .len=>match c.args.toList,c.argTypes.toList with
   |[x],[t]=>match P.underlying t with
    |some (.slice _)=>(A7 x).map (.len false)
    |some .string=>(A7 x).map (.len true)
    |_=>none
   |_,_=>none
  |.builtin .append=>match c.args.toList,c.argTypes.toList with
   |[x,y],[t,u]=>match P.underlying t,P.underlying u with
    |some (.slice e),some (.slice _)=>match P.info? e,A7 x,A7 y with
     |some i,some x',some y'=>match i.zero with
      |some z=>if 0<i.size/\z.cells.size=i.size/\t=u/\e≠rX then some (.append e i.size i.bytes (ZEl ops y) x' y')else none
      |none=>none
     |_,_,_=>none
    |_,_=>none
   |_,_=>none
  |.builtin .max=>match c.args.toList with
   |[x,y]=>match A7 x,A7 y with
    |some x,some y=>some (.mm true x y)
    |_,_=>none
   |_=>none
  |.builtin .min=>match c.args.toList with
   |[x,y]=>match A7 x,A7 y with
    |some x,some y=>some (.mm false x y)
    |_,_=>none
   |_=>none
  |.value (.func f)=>if Jk P f=true then(AW A7 c.args.toList).map (DR inl f)else none
  |.value x=>match A7 x,AW A7 c.args.toList with
   |some x,some as=>some (.dcall x as)
   |_,_=>none
  |_=>none
 |_=>none
def B6(P:Program)(inl:V3)(nt:Nat)(ops:Array Oper)(o:Oper):Option MO :=
 if o.dst.all (·<nt)=true then match Xh P inl ops o.op,(match o.guard with
  |none=>some none
  |some (j,b)=>((ops[j]?).bind (·.dst)).map λd=>some (d,b))with
 |some k,some g=>some { dst:=o.dst,guard:=g,op:=k }
 |_,_=>none
 else none
def Ua(o:Oper):V3:=o.after.toList.filterMap λe=>if Region.binds .any e then some e.on else none
def B7:List (V3)->Nat->Bool
 |[],_=>true
 |b::bs,i=>b.all (·<i) && B7 bs (i+1)
def comp(P:Program)(inl:V3)(nt:Nat):Code->List (V3)->Option (Za×List (V3))
 |.skip,ks=>some (.skip,ks)
 |.region _ ops draw,k::ks=>match AW (B6 P inl nt ops) ops.toList with
  |some os=>if draw then(if B7 (ops.toList.map Ua) 0=true/\P.follows .mixedOrders=true/\Region.noSelect ops=true then some (if inl.contains 9999995 then .drwF os (ops.toList.map Ua) k else .drw os (ops.toList.map Ua) k,ks)else none)else some (if inl.contains 9999995 then .regF os k else .reg os k,ks)
  |none=>none
 |.seq a b,ks=>match comp P inl nt a ks with
  |some (x,ks)=>match comp P inl nt b ks with
   |some (y,ks)=>some (.seq x y,ks)
   |none=>none
  |none=>none
 |.cond c a b,ks=>match A7 c,comp P inl nt a ks with
  |some c,some (x,ks)=>match comp P inl nt b ks with
   |some (y,ks)=>some (.cond c x y,ks)
   |none=>none
  |_,_=>none
 |.block id b,ks=>match comp P inl nt b ks with
  |some (x,ks)=>some (.block id x,ks)
  |none=>none
 |.loop b,k::ks=>match comp P inl nt b ks with
  |some (x,ks)=>some (.loop k x,ks)
  |none=>none
 |.exit id,ks=>some (.exit id,ks)
 |.ret,ks=>some (.ret,ks)
 |_,_=>none
def IE(P:Program):ResultVar->Option Cr
 |.tmp t=>some (.tmp t)
 |.cell a t=>(UJ P t).map (.cell a)
def DS(P:Program):Nat->TypeId->List TypeId
 |0,t=>[t]
 |n+1,t=>match P.underlying t with
  |some (.struct fs)=>fs.toList.flatMap λf=>DS P n f.type
  |_=>[t]
def GU(P:Program)(d:Bool)(t:TypeId):List (Option (Nat×Nat)):=(DS P 8 t).map λc=>match P.underlying c with
 |some (.slice e)=>some (if d then(P.cellsOf e,0)else(e,P.cellsOf e))
 |_=>none
def Co(P:Program)(d:TypeId->Bool):List Cr->List TypeId->List Cr
 |.tmp t::rs,ty::CN=>.tmpO t (GU P (d ty) ty)::Co P d rs CN
 |.cell a n::rs,ty::CN=>.cellO a n (GU P (d ty) ty)::Co P d rs CN
 |r::rs,_::CN=>r::Co P d rs CN
 |rs,[]=>rs
 |[],_=>[]
def GV(P:Program)(inl:V3)(keeps:List (V3))(f:Func):Option Ab:=match f.body with
 |some c=>match comp P inl f.ntmps c keeps,AW (IE P) f.results.toList with
  |some (b,[]),some rs=>(if f.params.size+f.nfree<=f.ntmps then some { np:=f.params.size+f.nfree,nt:=f.ntmps,res:=if inl.contains 9999994 then Co P (λt=>!(inl.contains 9999993 && inl.contains (20000000+t))) rs f.resultTypes.toList else if inl.contains 9999997 then Co P (λ_=>false) rs f.resultTypes.toList else rs,body:=b } else none)
  |_,_=>none
 |none=>none
mutual
inductive TR (w:World):T->Value->V3->Prop
 |int (k:IntKind) (n:Int):TR w (.int k n) (.int k n) []
 |bool (b:Bool):TR w (.bool b) (.bool b) []
 |str (s:V6):TR w (.str s) (.string s) []
 |nil:TR w .nil (.slice none 0 0) []
 |any {v:Value} (h:v.oneCell'=true):TR w .any v []
 |lst0 (sz:Nat) (a:Option Addr) (cap:Nat):TR w (.lst sz []) (.slice a 0 cap) []
 |lst {sz:Nat} {es:WI} {g off cap:Nat} {c:Array Value} {e:TypeId} {fz:Nat×Nat} {fp:V3} (hne:es≠[]) (hsz:0<sz) (hcap:es.length<=cap)
   (hg:w.heap[g]?=some (.cells c e fz)) (hlen:∀x∈es,x.length=sz) (hc:A6 w es.flatten ((c.toList.drop off).take (es.length*sz)) fp) :
   TR w (.lst sz es) (.slice (some ⟨g,off,none⟩) es.length cap) (g::fp)
inductive A6 (w:World):V5->V4->V3->Prop
 |nil:A6 w [] [] []
 |cons {t:T} {v:Value} {fp:V3} {ts:V5} {vs:V4} {fq:V3} (h:TR w t v fp) (hs:A6 w ts vs fq):A6 w (t::ts) (v::vs) (fp++fq)
end
section
variable{w w':World}{fp:V3}{ts us:V5}{vs:V4}{t:T}{v:Value}
theorem TR.frame(h:TR w t v fp):(∀g∈fp,w'.heap[g]?=w.heap[g]?)->TR w' t v fp:=by
 refine TR.rec (motive_1:=λt v fp _=>(∀g∈fp,w'.heap[g]?=w.heap[g]?)->TR w' t v fp) (motive_2:=λts vs fp _=>(∀g∈fp,w'.heap[g]?=w.heap[g]?)->A6 w' ts vs fp)
  ?_ ?_ ?_ ?_ ?_ ?_ ?_ ?_ ?_ h
 .intro k n _;exact .int k n
 .intro b _;exact .bool b
 .intro s _;exact .str s
 .intro _;exact .nil
 .intro v h _;exact .any h
 .intro sz a cap _;exact .lst0 sz a cap
 .intro sz es g off cap c e fz fp hne hsz hcap hg hlen _ ih hf;exact .lst hne hsz hcap (by rw[hf g Om];exact hg) hlen (ih λg hg=>hf g (by simp[hg]))
 .intro _;exact .nil
 .intro t v fp ts vs fq _ _ ih1 ih2 hf;exact .cons (ih1 λg hg=>hf g (by simp[hg])) (ih2 λg hg=>hf g (by simp[hg]))
theorem A6.frame(h:A6 w ts vs fp):(∀g∈fp,w'.heap[g]?=w.heap[g]?)->A6 w' ts vs fp:=by
 induction ts generalizing vs fp with
 |nil=>cases h;exact λ_=>.nil
 |cons t ts ih =>
  cases h with
  |cons h hs=>exact λhf=>.cons (h.frame λg hg=>hf g (by simp[hg])) (ih hs λg hg=>hf g (by simp[hg]))
theorem TR.lt(h:TR w t v fp):∀g∈fp,g<w.heap.size:=by
 refine TR.rec (motive_1:=λt v fp _=>∀g∈fp,g<w.heap.size) (motive_2:=λts vs fp _=>∀g∈fp,g<w.heap.size)
  ?_ ?_ ?_ ?_ ?_ ?_ ?_ ?_ ?_ h
 .simp
 .intro _ g hg;cases hg
 .intro _ g hg;cases hg
 .intro g hg;cases hg
 .simp
 .simp
 .grind
 .intro g hg;cases hg
 .grind
theorem A6.lt(h:A6 w ts vs fp):∀g∈fp,g<w.heap.size:=by
 induction ts generalizing vs fp with
 |nil=>cases h;intro g hg;cases hg
 |cons t ts ih =>
  cases h with
  |cons h hs =>
   intro g hg;rcases Yl.1 hg with hg|hg
   .exact h.lt g hg
   .exact ih hs g hg
theorem TR.one(h:TR w t v fp):v.oneCell'=true:=by cases h<;>first|rfl|assumption
theorem A6.one(h:A6 w ts vs fp):∀v∈vs,v.oneCell'=true:=by
 induction ts generalizing vs fp with
 |nil=>cases h;intro v hv;cases hv
 |cons t ts ih =>
  cases h with
  |cons h hs =>
   intro v hv
   cases hv with
   |head=>exact h.one
   |tail _ hv=>exact ih hs v hv
theorem A6.length(h:A6 w ts vs fp):ts.length=vs.length:=by
 induction ts generalizing vs fp with
 |nil=>cases h;rfl
 |cons t ts ih =>
  cases h with
  |cons h hs=>simp[ih hs]
theorem A6.append{xs:V4}{fq:V3}(h:A6 w ts vs fp)(h':A6 w us xs fq):A6 w (ts++us) (vs++xs) (fp++fq):=by
 induction ts generalizing vs fp with
 |nil=>cases h;exact h'
 |cons t ts ih =>
  cases h with
  |cons h hs=>simpa[EX]using A6.cons h (ih hs)
theorem A6.split(h:A6 w (ts++us) vs fp) :
  ∃fa fb,fp=fa++fb/\A6 w ts (vs.take ts.length) fa/\A6 w us (vs.drop ts.length) fb:=by
 induction ts generalizing vs fp with
 |nil=>exact⟨[],fp,rfl,.nil,h⟩
 |cons t ts ih =>
  cases h with
  |cons h hs =>
   obtain⟨fa,fb,rfl,h1,h2⟩:=ih hs;exact⟨_++fa,fb,Om,.cons h h1,h2⟩
theorem A6.at(h:A6 w ts vs fp){i:Nat}(hi:ts[i]?=some t) :
  ∃v fq,vs[i]?=some v/\TR w t v fq/\∀g∈fq,g∈fp:=by
 induction ts generalizing vs fp i with
 |nil=>simp at hi
 |cons t' ts ih =>
  cases h with
  |cons h hs =>
   grind
theorem A6.flat(h:A6 w ts vs fp)(hf:ts.all X5=true):fp=[]:=by
 induction ts generalizing vs fp with
 |nil=>cases h;rfl
 |cons t ts ih =>
  cases h with
  |cons h hs =>
   simp only[CU,Yg]at hf;rw[ih hs hf.2];cases h<;>first|rfl|simp[X5]at hf
end
def ZEn{w:World}{base base':Nat}(hb:base'<=base){e:TypeId}{sz n:Nat}{v:Value}{xs:V4}(ho:w.ownsRow base e sz v n xs):w.ownsRow base' e sz v n xs:=by
 refine⟨ho.1,?_⟩;rcases ho.2 with h|⟨g,cap,cur,h1,h2,h3⟩
 .exact .inl h
 .exact .inr ⟨g,cap,cur,h1,Y6 hb h2,h3⟩
structure Root where
 v:Value
 fp:V3
def Xu:Value->Option Nat
 |.pointer (some a)=>some a.block
 |.slice (some a) _ _=>some a.block
 |_=>none
abbrev Map:=Nat->Option Root
structure Bu where
 a:Nat->Prop
 f:Nat->Prop
 z:Nat->Prop
def Free(N:Bu)(ρ:Map)(h:V2)(g:Nat):Prop:=N.a g/\∀b r,ρ b=some r->gt h b≠.dead->Xu r.v≠some g
mutual
inductive RV (ρ:Map) (w:World) (F:Nat->Prop):AV->Value->Prop
 |top (v:Value):RV ρ w F .top v
 |nilp:RV ρ w F .nilp (.pointer none)
 |t {x:T} {v:Value} {fp:V3} (h:TR w x v fp) (hf:∀g∈fp,F g):RV ρ w F (.t x) v
 |agg {cs:XQ} {c:Array Value} (h:AE ρ w F cs c.toList) (h1:∀v∈c.toList,v.oneCell'=true):RV ρ w F (.agg cs) (.agg c)
 |tup {cs:XQ} {c:Array Value} (h:AE ρ w F cs c.toList):RV ρ w F (.tup cs) (.tuple c)
 |ptr {b off g:Nat} {r:Root} (hr:ρ b=some r) (hv:r.v=.pointer (some ⟨g,0,none⟩)):RV ρ w F (.ptr b off) (.pointer (some ⟨g,off,none⟩))
 |eptr {b i sz off g n cap:Nat} {r:Root} (hr:ρ b=some r) (hv:r.v=.slice (some ⟨g,0,none⟩) n cap):RV ρ w F (.eptr b i sz off) (.pointer (some ⟨g,i*sz+off,none⟩))
 |iptr {cs:V5} {off g o:Nat} {c:Array Value} {e:TypeId} {fz:Nat×Nat} {fp:V3} (hg:w.heap[g]?=some (.cells c e fz)) (hF:F g)
   (hc:A6 w cs ((c.toList.drop o).take cs.length) fp) (hf:∀g∈fp,F g):RV ρ w F (.iptr cs off) (.pointer (some ⟨g,o+off,none⟩))
 |own {b:Nat} {r:Root} (hr:ρ b=some r) (h1:r.v.oneCell'=true):RV ρ w F (.own b) r.v
 |bsl {b n g:Nat} {r:Root} (hr:ρ b=some r) (hv:r.v=.pointer (some ⟨g,0,none⟩)):RV ρ w F (.bsl b n) (.slice (some ⟨g,0,none⟩) n n)
 |fn {f:Nat} {cs:XQ} {c:Array Value} (h:AE ρ w F cs c.toList):RV ρ w F (.fn f cs) (.func (.func f) #[] c)
inductive AE (ρ:Map) (w:World) (F:Nat->Prop):XQ->V4->Prop
 |nil:AE ρ w F [] []
 |cons {a:AV} {v:Value} {as:XQ} {vs:V4} (h:RV ρ w F a v) (hs:AE ρ w F as vs):AE ρ w F (a::as) (v::vs)
end
structure W4 (ρ:Map) (w:World) (F:Nat->Prop) (ρ':Map) (w':World) (F':Nat->Prop):Prop where
 root:∀b r,ρ b=some r->∃r',ρ' b=some r'/\r'.v=r.v
 free:∀g,g<w.heap.size->F g->F' g/\w'.heap[g]?=w.heap[g]?
section
variable{ρ ρ':Map}{w w':World}{F F':Nat->Prop}{vs:V4}{as:XQ}{a:AV}
theorem W4.refl:W4 ρ w F ρ w F:=⟨λ_ r h=>⟨r,h,rfl⟩,λ_ _ h=>⟨h,rfl⟩⟩
theorem W4.trans{ρ'':Map}{w'':World}{F'':Nat->Prop}(h1:W4 ρ w F ρ' w' F')(h2:W4 ρ' w' F' ρ'' w'' F'')(hl:w.heap.size<=w'.heap.size):W4 ρ w F ρ'' w'' F'':=by
 refine⟨λb r hb=>?_,λg hg hF=>?_⟩
 .obtain⟨r1,q1,q2⟩:=h1.root b r hb;obtain⟨r2,q3,q4⟩:=h2.root b r1 q1
  simp_all
 .obtain⟨p1,p2⟩:=h1.free g hg hF;obtain⟨p3,p4⟩:=h2.free g Z p1
  simp_all
theorem RV.keep(hk:W4 ρ w F ρ' w' F'){v:Value}(h:RV ρ w F a v):RV ρ' w' F' a v:=by
 refine RV.rec (motive_1:=λa v _=>RV ρ' w' F' a v) (motive_2:=λas vs _=>AE ρ' w' F' as vs) ?_ ?_ ?_ ?_ ?_ ?_ ?_ ?_ ?_ ?_ ?_ ?_ ?_ h
 .exact λv=>.top v
 .exact .nilp
 .intro x v fp h hf;exact .t (h.frame λg hg=>(hk.free g (h.lt g hg) (hf g hg)).2) λg hg=>(hk.free g (h.lt g hg) (hf g hg)).1
 .intro cs c _ h1 ih;exact .agg ih h1
 .intro cs c _ ih;exact .tup ih
 .intro b off g r hr hv;obtain⟨r',h1,h2⟩:=hk.root b r hr;exact .ptr h1 (h2.trans hv)
 .intro b i sz off g n cap r hr hv;obtain⟨r',h1,h2⟩:=hk.root b r hr;exact .eptr h1 (h2.trans hv)
 .intro cs off g o c e fz fp hg hF hc hf;have hl:g<w.heap.size:=(Yc3.1 hg).1;exact .iptr (by rw[(hk.free g hl hF).2];exact hg) (hk.free g hl hF).1 (hc.frame λg hg=>(hk.free g (hc.lt g hg) (hf g hg)).2)
   λg hg=>(hk.free g (hc.lt g hg) (hf g hg)).1
 .intro b r hr ho;obtain⟨r',h1,h2⟩:=hk.root b r hr;rw[<-h2];exact .own h1 (by rw[h2];exact ho)
 .intro b n g r hr hv;obtain⟨r',h1,h2⟩:=hk.root b r hr;exact .bsl h1 (h2.trans hv)
 .intro f cs c _ ih;exact .fn ih
 .exact .nil
 .intro a v as vs _ _ ih1 ih2;exact .cons ih1 ih2
theorem AE.keep(hk:W4 ρ w F ρ' w' F')(h:AE ρ w F as vs):AE ρ' w' F' as vs:=by
 induction as generalizing vs with
 |nil=>cases h;exact .nil
 |cons a as ih=>cases h with|cons h hs=>exact .cons (h.keep hk) (ih hs)
theorem AE.length(h:AE ρ w F as vs):as.length=vs.length:=by
 induction as generalizing vs with
 |nil=>cases h;rfl
 |cons a as ih=>cases h with|cons h hs=>simp[ih hs]
theorem AE.at(h:AE ρ w F as vs){i:Nat}(hi:as[i]?=some a):∃v,vs[i]?=some v/\RV ρ w F a v:=by
 induction as generalizing vs i with
 |nil=>simp at hi
 |cons a' as ih =>
  cases h with
  |cons h hs =>
   grind
theorem AE.append{bs:XQ}{xs:V4}(h:AE ρ w F as vs)(h':AE ρ w F bs xs):AE ρ w F (as++bs) (vs++xs):=by
 induction as generalizing vs with
 |nil=>cases h;exact h'
 |cons a as ih=>cases h with|cons h hs=>exact .cons h (ih hs)
theorem AE.take(h:AE ρ w F as vs)(n:Nat):AE ρ w F (as.take n) (vs.take n):=by
 induction as generalizing vs n with
 |nil=>cases h;simpa using AE.nil
 |cons a as ih =>
  cases h with
  |cons h hs=>cases n with|zero=>exact .nil|succ n=>exact .cons h (ih hs n)
theorem AE.drop(h:AE ρ w F as vs)(n:Nat):AE ρ w F (as.drop n) (vs.drop n):=by
 induction as generalizing vs n with
 |nil=>cases h;simpa using AE.nil
 |cons a as ih =>
  cases h with
  |cons h hs=>cases n with|zero=>exact .cons h hs|succ n=>exact ih hs n
theorem AE.of_TRs{ts:V5}{fp:V3}(h:A6 w ts vs fp)(hf:∀g∈fp,F g):AE ρ w F (ts.map .t) vs:=by
 induction ts generalizing vs fp with
 |nil=>cases h;exact .nil
 |cons t ts ih=>cases h with|cons h hs=>exact .cons (.t h λg hg=>hf g (by simp[hg])) (ih hs λg hg=>hf g (by simp[hg]))
end
def IF(N:Bu)(base:Nat)(ρ:Map)(w:World)(F:Nat->Prop)(r:Root):AK->Prop
 |.dead=>True
 |.box cs=>∃g c e,r.v=.pointer (some ⟨g,0,none⟩)/\base<=g/\w.heap[g]?=some (.cells c e (0,0))/\AE ρ w F cs c.toList/\∀v∈c.toList,v.oneCell'=true
 |.arr e sz fr es=>∃e' xs,(e=rX\/e'=e)/\w.ownsRow base e' sz r.v es.length xs/\0<sz/\(∀x∈es,x.length=sz)/\A6 w es.flatten xs r.fp/\(∀g∈r.fp,F g)/\
   (fr=true->r.fp.Nodup/\∀g∈r.fp,N.f g)
def XG:AK->Bool
 |.arr _ _ fr _=>fr
 |_=>false
structure Rel (N:Bu) (base:Nat) (ρ:Map) (h:V2) (w:World):Prop where
 hb:base<=w.heap.size
 hN:∀g,w.heap.size<=g->N.a g/\N.f g
 hO:∀b r g,ρ b=some r->gt h b≠.dead->Xu r.v=some g->N.a g/\N.f g
 blk:∀b,gt h b≠.dead->∃r,ρ b=some r/\IF N base ρ w (Free N ρ h) r (gt h b)
 inj:∀b b' r r' g,ρ b=some r->ρ b'=some r'->gt h b≠.dead->gt h b'≠.dead->Xu r.v=some g->Xu r'.v=some g->b=b'
 apart:∀b b' r r' g,ρ b=some r->ρ b'=some r'->XG (gt h b)=true->XG (gt h b')=true->g∈r.fp->g∈r'.fp->b=b'
theorem K9(h:V2)(b c:Nat)(x:AK):gt (stB h b x) c=if c=b then x else gt h c:=by
 induction h generalizing b c with
 |nil =>
  induction b generalizing c with
  |zero=>cases c<;>simp[stB,gt]
  |succ b ih =>
   cases c with
   |zero=>simp[stB,gt]
   |succ c=>simpa[stB,gt]using ih c
 |cons y h ih =>
  cases b with
  |zero=>cases c<;>simp[stB,gt]
  |succ b =>
   cases c with
   |zero=>simp[stB,gt]
   |succ c=>simpa[stB,gt]using ih b c
def Ay(ρ:Map)(n:Nat)(r:Root):Map:=λb=>if b=n then some r else ρ b
def Z2H(h:V2)(u u':List (Nat×AK)):upd h (u++u')=upd (upd h u) u':=by
 induction u generalizing h with
 |nil=>rfl
 |cons x u ih=>exact ih _
def E7(h:V2)(ks:V3)(b:Nat):gt (upd h (kill ks)) b=if b∈ks then .dead else gt h b:=by
 induction ks generalizing h with
 |nil=>simp[kill,upd]
 |cons k ks ih =>
  show gt (upd (stB h k .dead) (kill ks)) b=_
  grind [K9]
def GX(h:V2)(ks:V3)(n:Nat)(x:AK)(b:Nat):gt (upd h (kill ks++[(n,x)])) b=if b=n then x else if b∈ks then .dead else gt h b:=by
 rw[Z2H];show gt (stB _ n x) b=_;rw[K9,E7]
section
variable{N:Bu}{base:Nat}{ρ:Map}{h:V2}{w w':World}{r:Root}{n g e sz:Nat}{x:AK}{v:Value}{xs:V4}{F:Nat->Prop}{ks:V3}{row:Option Nat}
theorem ZEo(ho:w.ownsRow base e sz v n xs)(hg:Xu v=some g):base<=g/\g<w.heap.size:=by
 rcases ho.2 with⟨hv,_⟩|⟨g',cap,cur,hv,hb,hh,_⟩
 .rw[hv]at hg;simp[Xu]at hg
 .rw[hv]at hg;simp[Xu]at hg
  grind
theorem IF.lt(hx:IF N base ρ w F r x)(hd:x≠.dead)(hg:Xu r.v=some g):base<=g/\g<w.heap.size:=by
 cases x with
 |dead=>exact absurd rfl hd
 |box cs =>
  obtain⟨g',c,e,hv,hb,hh,_⟩:=hx;rw[hv]at hg;simp[Xu]at hg
  grind
 |arr e sz fr es =>
  obtain⟨e',xs,_,ho,_⟩:=hx;exact ZEo ho hg
theorem Rel.lt(R:Rel N base ρ h w){b:Nat}(hr:ρ b=some r)(hd:gt h b≠.dead)(hg:Xu r.v=some g):base<=g/\g<w.heap.size:=by
 obtain⟨r',h1,h2⟩:=R.blk b hd;rw[hr]at h1;cases h1;exact h2.lt hd hg
def Jl(ρ:Map)(h:V2)(b g:Nat):Prop:=∃r,ρ b=some r/\gt h b≠.dead/\Xu r.v=some g
theorem ZEp(hn:∀r0,ρ n=some r0->r0.v=r.v)(hg:w.grownBy w' row)
  (hrow:∀g,row=some g->∃b,Jl ρ h b g) (hblk:∀g,Xu r.v=some g->w.heap.size<=g\/∃b,Jl ρ h b g) :
  W4 ρ w (Free N ρ h) (Ay ρ n r) w' (Free N (Ay ρ n r) (upd h (kill ks++[(n,x)]))):=by
 constructor
 .intro b r0 hr;by_cases hb:b=n
  .subst hb;exact⟨r,by simp[Ay],(hn r0 hr).symm⟩
  .exact⟨r0,by simp[Ay,hb,hr],rfl⟩
 .intro g hlt hf;constructor
  .refine⟨hf.1,?_⟩;intro b rb hr hd he;rw[GX]at hd;by_cases hb:b=n
   .subst hb;simp[Ay]at hr;subst hr;rcases hblk g he with h1|⟨b',r',h1,h2,h3⟩
    .omega
    .exact hf.2 b' r' h1 h2 h3
   .simp[Ay,hb]at hr;simp[hb]at hd;exact hf.2 b rb hr hd.2 he
  .refine hg.block g hlt λhe=>?_
   obtain⟨b',r',h1,h2,h3⟩:=hrow g he.symm;exact hf.2 b' r' h1 h2 h3
theorem ZEq(ho:w.ownsRow base e sz v n xs)(hsame:∀g,Xu v=some g->w'.heap[g]?=w.heap[g]?):w'.ownsRow base e sz v n xs:=by
 refine⟨ho.1,?_⟩;rcases ho.2 with h0|⟨g,cap,cur,hv,hb,hh,rest⟩
 .exact .inl h0
 .exact .inr ⟨g,cap,cur,hv,hb,by rw[hsame g (by rw[hv];rfl)];exact hh,rest⟩
theorem IF.keep{F':Nat->Prop}{ρ':Map}(hx:IF N base ρ w F r x)(hk:W4 ρ w F ρ' w' F')
  (hsame:∀g,Xu r.v=some g->w'.heap[g]?=w.heap[g]?):IF N base ρ' w' F' r x:=by
 cases x with
 |dead=>trivial
 |box cs =>
  obtain⟨g,c,e,hv,hb,hh,h1,h2⟩:=hx
  exact⟨g,c,e,hv,hb,by rw[hsame g ((by rw[hv];rfl))];exact hh,h1.keep hk,h2⟩
 |arr e sz fr es =>
  obtain⟨e',xs,he,ho,hsz,hl,ht,hf,hfr⟩:=hx;exact⟨e',xs,he,ZEq ho hsame,hsz,hl,ht.frame λg hg=>(hk.free g (ht.lt g hg) (hf g hg)).2,λg hg=>(hk.free g (ht.lt g hg) (hf g hg)).1,hfr⟩
theorem IG(R:Rel N base ρ h w)(hn:∀r0,ρ n=some r0->r0.v=r.v)(hg:w.grownBy w' row)
  (hrow:∀g,row=some g->∃b,(b∈ks\/b=n)/\Jl ρ h b g) (hblk:∀g,Xu r.v=some g->w.heap.size<=g\/∃b,(b∈ks\/b=n)/\Jl ρ h b g)
  (hB:W4 ρ w (Free N ρ h) (Ay ρ n r) w' (Free N (Ay ρ n r) (upd h (kill ks++[(n,x)])))->
   IF N base (Ay ρ n r) w' (Free N (Ay ρ n r) (upd h (kill ks++[(n,x)]))) r x)
  (hfp:XG x=true->∀g∈r.fp,∀d rd,d ∉ ks->d≠n->ρ d=some rd->XG (gt h d)=true->g ∉ rd.fp) :
  Rel N base (Ay ρ n r) (upd h (kill ks++[(n,x)])) w'/\W4 ρ w (Free N ρ h) (Ay ρ n r) w' (Free N (Ay ρ n r) (upd h (kill ks++[(n,x)])))/\
   ∀g,g<w.heap.size->¬N.a g->w'.heap[g]?=w.heap[g]?:=by
 have hk:W4 ρ w (Free N ρ h) (Ay ρ n r) w' (Free N (Ay ρ n r) (upd h (kill ks++[(n,x)]))) :=
  ZEp hn hg (λg e=>let ⟨b,_,ho⟩:=hrow g e;⟨b,ho⟩) (λg e=>(hblk g e).imp id λ⟨b,_,ho⟩=>⟨b,ho⟩)
 have hB:=hB hk;refine⟨⟨Y6 R.hb hg.size,λg hl=>R.hN g (Y6 hg.size hl),?_,?_,?_,?_⟩,hk,?_⟩
 .intro b rb g hrb hd hgb;rw[GX]at hd;by_cases hb:b=n
  .subst hb;simp[Ay]at hrb;subst hrb;rcases hblk g hgb with h1|⟨c,_,rc,h1,h2,h3⟩
   .exact R.hN g h1
   .exact R.hO c rc g h1 h2 h3
  .simp[Ay,hb]at hrb;simp[hb]at hd;exact R.hO b rb g hrb hd.2 hgb
 .intro b hd;rw[GX]at hd;by_cases hb:b=n
  .subst hb;exact⟨r,by simp[Ay],by rw[GX];simpa using hB⟩
  .simp[hb]at hd;obtain⟨rb,h1,h2⟩:=R.blk b hd.2;refine⟨rb,by simp[Ay,hb,h1],?_⟩;rw[GX];simp only[hb,hd.1,if_false];refine h2.keep hk λg hgb=>?_
   refine hg.block g (h2.lt hd.2 hgb).2 λe=>?_
   obtain⟨b',hb',r',h1',h2',h3'⟩:=hrow g e.symm;have:=R.inj b b' rb r' g h1 h1' hd.2 h2' hgb h3'
   simp_all
 .intro b b' rb sA g h1 h1' hd hd' hgb hgb';rw[GX]at hd hd';by_cases hb:b=n<;>by_cases hb':b'=n
  .rw[hb,hb']
  .exfalso;subst hb;simp[Ay]at h1;subst h1;simp[Ay,hb']at h1';simp[hb']at hd';rcases hblk g hgb with h0|⟨c,hc,rc,hc1,hc2,hc3⟩
   .have:=(R.lt h1' hd'.2 hgb').2;omega
   .have:=R.inj b' c sA rc g h1' hc1 hd'.2 hc2 hgb' hc3
    simp_all
  .exfalso;subst hb';simp[Ay]at h1';subst h1';simp[Ay,hb]at h1;simp[hb]at hd;rcases hblk g hgb' with h0|⟨c,hc,rc,hc1,hc2,hc3⟩
   .have:=(R.lt h1 hd.2 hgb).2;omega
   .have:=R.inj b c rb rc g h1 hc1 hd.2 hc2 hgb hc3
    simp_all
  .simp[Ay,hb]at h1;simp[Ay,hb']at h1';simp[hb]at hd;simp[hb']at hd';exact R.inj b b' rb sA g h1 h1' hd.2 hd'.2 hgb hgb'
 .intro b b' rb sA g h1 h1' hf hf' hgb hgb';rw[GX]at hf hf';by_cases hb:b=n<;>by_cases hb':b'=n
  .rw[hb,hb']
  .exfalso;subst hb;simp[Ay]at h1;subst h1;simp[Ay,hb']at h1';simp only[hb',if_false]at hf';simp only[if_true]at hf;by_cases hk':b'∈ks
   .simp[hk',XG]at hf'
   .grind
  .exfalso;subst hb';simp[Ay]at h1';subst h1';simp[Ay,hb]at h1;simp only[hb,if_false]at hf;simp only[if_true]at hf';by_cases hk':b∈ks
   .simp[hk',XG]at hf
   .grind
  .simp[Ay,hb]at h1;simp[Ay,hb']at h1';simp only[hb,if_false]at hf;simp only[hb',if_false]at hf';by_cases hk1:b∈ks
   .simp[hk1,XG]at hf
   .by_cases hk2:b'∈ks
    .simp[hk2,XG]at hf'
    .simp only[hk1,if_false]at hf;simp only[hk2,if_false]at hf';exact R.apart b b' rb sA g h1 h1' hf hf' hgb hgb'
 .intro g hl hn';refine hg.block g hl λe=>?_
  obtain⟨c,_,rc,h1,h2,h3⟩:=hrow g e.symm;exact hn' (R.hO c rc g h1 h2 h3).1
end
open Go.RowKit (Below)
def XO(ρ:Map)(w:World)(F:Nat->Prop)(e:Env)(tmps:Array Value):Prop:=∀s,RV ρ w F (lk s e) (tmps.getD s undef)
def Bb(P:Program)(N:Bu)(base:Nat)(ρ:Map)(h:V2)(w:World)(s:Sem Next)(v:AV)(u:List (Nat×AK)):Prop :=
 ∃val w' ρ',((s.run P w=.ok (.value val) w')\/(s.run P w=.ok .skip w'/\val=undef))/\RV ρ' w' (Free N ρ' (upd h u)) v val/\Rel N base ρ' (upd h u) w'/\
  W4 ρ w (Free N ρ h) ρ' w' (Free N ρ' (upd h u))/\(∀b,b ∉ u.map Prod.fst->ρ' b=ρ b)/\Below base w w'/\∀g,g<w.heap.size->¬N.a g->w'.heap[g]?=w.heap[g]?
section
variable{P:Program}{N:Bu}{base:Nat}{ρ:Map}{h:V2}{w:World}{F:Nat->Prop}{e:Env}{a:Act}{v val:Value}{t:TypeId}{cs zs:XQ}{nx:Nat}{x:AV}{s:Sem Next}
theorem RV.bool_inv{b:Bool}(hv:RV ρ w F (.t (.bool b)) v):v=.bool b:=by
 cases hv with|t h hf=>cases h;rfl
theorem RV.int_inv{k:IntKind}{n:Int}(hv:RV ρ w F (.t (.int k n)) v):v=.int k n:=by
 cases hv with|t h hf=>cases h;rfl
theorem RV.str_inv{s:V6}(hv:RV ρ w F (.t (.str s)) v):v=.string s:=by
 cases hv with|t h hf=>cases h;rfl
theorem RV.nil_inv(hv:RV ρ w F (.t .nil) v):v=.slice none 0 0:=by
 cases hv with|t h hf=>cases h;rfl
theorem RV.int_mk(k:IntKind)(n:Int):RV ρ w F (.t (.int k n)) (.int k n):=.t (.int k n) (by intro g hg;cases hg)
theorem RV.bool_mk(b:Bool):RV ρ w F (.t (.bool b)) (.bool b):=.t (.bool b) (by intro g hg;cases hg)
theorem RV.str_mk(s:V6):RV ρ w F (.t (.str s)) (.string s):=.t (.str s) (by intro g hg;cases hg)
theorem Zrm{x:T}(hv:DQ v=some x):TR w x v []:=by
 unfold DQ at hv;split at hv<;>cases hv
 .exact .int _ _
 .exact .bool _
 .exact .str _
 .exact .nil
theorem Z2I(hv:C0 v=some x):RV ρ w F x v/\v.oneCell'=true:=by
 unfold C0 at hv;split at hv
 .cases hv;exact⟨.nilp,rfl⟩
 .obtain⟨t,ht,rfl⟩:=Yr.1 hv;exact⟨.t (Zrm ht) (by intro g hg;cases hg),(Zrm (w:=w) ht).one⟩
theorem KA{α β:Type}{f:α->Option β}{x:α}{xs:List α}{ys:List β}(hm:AW f (x::xs)=some ys):∃y zs,f x=some y/\AW f xs=some zs/\ys=y::zs:=by
 unfold AW at hm
 grind
theorem Zrn{cs:V4}(hm:AW C0 cs=some zs):AE ρ w F zs cs/\∀v∈cs,v.oneCell'=true:=by
 induction cs generalizing zs with
 |nil=>cases hm;exact⟨.nil,by intro v hv;cases hv⟩
 |cons c cs ih =>
  obtain⟨y,ys,h1,h2,rfl⟩:=KA hm;obtain⟨ha,hb⟩:=Z2I (ρ:=ρ) (w:=w) (F:=F) h1;obtain⟨hc,hd⟩:=ih h2;exact⟨.cons ha hc,by intro v hv;cases hv with|head=>exact hb|tail _ hv=>exact hd v hv⟩
theorem Z2J{cs:V4}{zs:V5}(hm:AW DQ cs=some zs):A6 w zs cs []:=by
 induction cs generalizing zs with
 |nil=>cases hm;exact .nil
 |cons c cs ih =>
  obtain⟨y,ys,h1,h2,rfl⟩:=KA hm;exact A6.cons (Zrm h1) (ih h2)
theorem ZEr(hv:Di v=some x):RV ρ w F x v:=by
 unfold Di at hv;split at hv
 .rename_i cs
  cases hm:AW C0 cs.toList with
  |none=>simp[hm]at hv
  |some zs =>
   simp[hm]at hv;subst hv;obtain⟨h1,h2⟩:=Zrn (ρ:=ρ) (w:=w) (F:=F) hm;exact .agg h1 h2
 .exact(Z2I hv).1
theorem Xi(hE:XO ρ w F e a.tmps){x:Operand}{o:AX}(ho:A7 x=some o):RV ρ w F (ev e o) (a.eval x):=by
 cases x with
 |tmp t=>simp[A7]at ho;subst ho;exact hE t
 |const v =>
  simp only[A7]at ho
  cases hv:Di v with
  |none=>simp[hv]at ho
  |some y=>simp[hv]at ho;subst ho;exact ZEr hv
 |global g=>simp[A7]at ho
 |func f=>simp[A7]at ho;subst ho;exact .fn .nil
theorem OX(hE:XO ρ w F e a.tmps){xs:List Operand}{os:List AX}(hm:AW A7 xs=some os):AE ρ w F (os.map (ev e)) (xs.map a.eval):=by
 induction xs generalizing os with
 |nil=>cases hm;exact .nil
 |cons x xs ih =>
  obtain⟨y,ys,h1,h2,rfl⟩:=KA hm;exact .cons (Xi hE h1) (ih h2)
theorem IH{v:AV}(hc:cellsOf v=some cs)(hv:RV ρ w F v val):AE ρ w F cs val.cells.toList/\∀x∈val.cells.toList,x.oneCell'=true:=by
 cases hv with
 |top v=>simp[cellsOf]at hc
 |tup h=>simp[cellsOf]at hc
 |agg h h1=>simp[cellsOf]at hc;subst hc;exact⟨h,h1⟩
 |nilp=>simp[cellsOf]at hc;subst hc;exact⟨.cons .nilp .nil,by simp[Value.cells,Value.oneCell']⟩
 |t h hf =>
  simp[cellsOf]at hc;subst hc;have h1:=h.one
  have:val.cells=#[val]:=by cases val<;>first|rfl|simp[Value.oneCell']at h1
  rw[this]
  exact⟨.cons (.t h hf) .nil,by simpa using h1⟩
 |ptr hr hv=>simp[cellsOf]at hc;subst hc;exact⟨.cons (.ptr hr hv) .nil,by simp[Value.cells,Value.oneCell']⟩
 |eptr hr hv=>simp[cellsOf]at hc;subst hc;exact⟨.cons (.eptr hr hv) .nil,by simp[Value.cells,Value.oneCell']⟩
 |iptr hg hF h2 hf=>simp[cellsOf]at hc;subst hc;exact⟨.cons (.iptr hg hF h2 hf) .nil,by simp[Value.cells,Value.oneCell']⟩
 |@own b r hr h1 =>
  simp[cellsOf]at hc;subst hc
  have:r.v.cells=#[r.v]:=by cases hh:r.v<;>first|rfl|(rw[hh]at h1;simp[Value.oneCell']at h1)
  rw[this]
  exact⟨.cons (.own hr h1) .nil,by simpa using h1⟩
 |bsl hr hv=>simp[cellsOf]at hc;subst hc;exact⟨.cons (.bsl hr hv) .nil,by simp[Value.cells,Value.oneCell']⟩
 |fn h=>simp[cellsOf]at hc;subst hc;exact⟨.cons (.fn h) .nil,by simp[Value.cells,Value.oneCell']⟩
theorem Bb.same(R:Rel N base ρ h w){v:AV}(hs:s.run P w=.ok (.value val) w)(hv:RV ρ w (Free N ρ h) v val):Bb P N base ρ h w s v [] :=
 ⟨val,w,ρ,.inl hs,hv,R,.refl,λ_ _=>rfl,Below.refl _ _,λ_ _ _=>rfl⟩
theorem Z2K(w:World)(o:Obj):w.grownBy (w.alloc o) none:=World.grownBy_alloc w o none
theorem Bb.newBox(R:Rel N base ρ h w)(hn:ρ nx=none){c:Array Value}
  (hs:s.run P w=.ok (.value (.pointer (some ⟨w.heap.size,0,none⟩))) (w.alloc (.cells c t))) (hc:AE ρ w (Free N ρ h) cs c.toList) (h1:∀v∈c.toList,v.oneCell'=true) :
  Bb P N base ρ h w s (.ptr nx 0) [(nx,.box cs)]:=by
 have hp:=IG R (n:=nx) (ks:=[]) (x:=.box cs) (r:=⟨.pointer (some ⟨w.heap.size,0,none⟩),[]⟩) (row:=none) (w':=w.alloc (.cells c t))
  (by intro r0 h0;rw[hn]at h0;cases h0) (Z2K w _) (by intro g hg;cases hg) (by intro g hg;simp[Xu]at hg;exact .inl Z)
  (λhk=>⟨w.heap.size,c,t,rfl,R.hb,heap_alloc_new w _,hc.keep hk,h1⟩) (by intro hf;cases hf)
 refine⟨_,_,Ay ρ nx ⟨.pointer (some ⟨w.heap.size,0,none⟩),[]⟩,.inl hs,?_,hp.1,hp.2.1,?_,(Below.refl _ _).alloc R.hb _,hp.2.2⟩
 .exact .ptr (r:=⟨.pointer (some ⟨w.heap.size,0,none⟩),[]⟩) (by simp[Ay]) rfl
 .intro b hb;simp at hb;simp[Ay,hb]
theorem E8{n:Option Nat}{v:AV}{x:Value}(h:RV ρ w F v x):RV ρ w F (wz1 n v) x:=by
 unfold wz1;split
 .cases h with
  |t hT hf=>cases hT;exact .t (.lst0 _ _ _) (by intro g hg;cases hg)
 .exact h
theorem Zro:∀{ns:List (Option Nat)} {vs:XQ} {xs:V4},AE ρ w F vs xs->AE ρ w F (OV ns vs) xs
 |[],_,_,h=>by unfold OV;exact h
 |n::ns,[],_,h=>by unfold OV;exact h
 |n::ns,v::vs,_,h=>by
  unfold OV
  cases h with
  |cons h hs=>exact .cons (E8 h) (Zro hs)
theorem DT{i:TypeInfo}{z:Value}(hi:P.info? t=some i)(hz:i.zero=some z)(w:World):(zeroValue t).run P w=.ok z w:=by
 simp[zeroValue,typeInfo,hi,hz]
theorem DU(R:Rel N base ρ h w)(hn:ρ nx=none)(hz:Ct P t=some zs) :
  Bb P N base ρ h w (do pure (.value (<-Instr.alloc t true (.tuple #[])))) (.ptr nx 0) [(nx,.box zs)]:=by
 unfold Ct at hz
 cases hi:P.info? t with
 |none=>simp[hi]at hz
 |some i =>
  cases hzz:i.zero with
  |none=>simp[hi,hzz]at hz
  |some z =>
   simp[hi,hzz]at hz;obtain⟨zs0,hz,rfl⟩:=hz;obtain⟨h1,h2⟩:=Zrn (ρ:=ρ) (w:=w) (F:=Free N ρ h) hz;exact .newBox R hn (c:=z.cells) (t:=t) (by simp[Instr.alloc,DT hi hzz,newVar,newRow]) (Zro h1) h2
theorem II(R:Rel N base ρ h w)(hn:ρ nx=none){v:AV}(hv:RV ρ w (Free N ρ h) v val)(hc:cellsOf v=some cs) :
  Bb P N base ρ h w (do pure (.value (<-Instr.box t val))) (.ptr nx 0) [(nx,.box cs)]:=by
 obtain⟨h1,h2⟩:=IH hc hv;exact .newBox R hn (c:=val.cells) (t:=t) (by simp[Instr.box,newVar,newRow]) h1 h2
end
open Go.RowKit (Below)
section
variable{P:Program}{N:Bu}{base:Nat}{ρ:Map}{h:V2}{w:World}{F:Nat->Prop}{e:Env}{a:Act}{t te:TypeId}{g o off k sz i:Nat}{c:Array Value}{fz:Nat×Nat}{fp:V3}{v val:Value}{n:Option Nat}{cs ts:V5}{es:WI}{xs:V4}
theorem Jm(g o j:Nat):(⟨g,o,none⟩:Addr).add j=⟨g,o+j,none⟩:=by unfold Addr.add;split<;>simp_all
theorem Z2L{n:Nat}(hg:w.heap[g]?=some (.cells c t fz)){j:Nat}(hj:((c.toList.drop o).take n)[j]?=some v) :
  w.cell? ((⟨g,o,none⟩:Addr).add j)=some v:=by
 rw[Jm,cell_of_row w g (o+j) c t fz hg]
 grind
theorem sB(hn:UJ P t=some n)(w:World):(isAgg t).run P w=.ok n.isSome w:=by
 unfold UJ at hn;split at hn
 .rename_i fs hu;cases hi:P.info? t<;>simp[hi]at hn;subst hn;simp[isAgg,run_underlying hu]
 .rename_i m el hu;cases hi:P.info? t<;>simp[hi]at hn;subst hn;simp[isAgg,run_underlying hu]
 .rename_i d h1 h2 hu;simp at hn;subst hn;simp only[isAgg,Sem.run_bind,run_underlying hu,Result.andThen_ok];simp
 .cases hn
theorem Zrp(hn:UJ P t=some (some k)):∃i,P.info? t=some i/\i.size=k:=by
 unfold UJ at hn;split at hn
 .simp_all
 .simp_all
 .simp at hn
 .cases hn
theorem Z2M(hn:UJ P t=some none)(hg:w.heap[g]?=some (.cells c te fz))(hv:c.toList[o]?=some v) :
  (loadVar t ⟨g,o,none⟩).run P w=.ok v w:=by
 have hc:w.cell? ⟨g,o,none⟩=some v:=by rw[cell_of_row w g o c te fz hg];simpa using hv
 simp[loadVar,sB hn,hc]
theorem Z2N(hn:UJ P t=some (some k))(hg:w.heap[g]?=some (.cells c te fz)){vs:V4}
  (hv:(c.toList.drop o).take k=vs) (hl:vs.length=k):(loadVar t ⟨g,o,none⟩).run P w=.ok (.agg vs.toArray) w:=by
 obtain⟨i,hi,hs⟩:=Zrp hn;have:=run_loadCells_list (P:=P) w ⟨g,o,none⟩ vs (λj v hj=>Z2L (n:=k) hg (by rw[hv];exact hj));rw[hl]at this;simp[loadVar,sB hn,sizeOf,typeInfo,hi,hs,this]
theorem Z2O(hn:UJ P t=some n)(hg:w.heap[g]?=some (.cells c te fz)){cs:XQ}
  (hc:AE ρ w F cs c.toList) (h1:∀v∈c.toList,v.oneCell'=true) {v:AV} (hv:Qz cs o n=some v):∃val,(loadVar t ⟨g,o,none⟩).run P w=.ok val w/\RV ρ w F v val:=by
 cases n with
 |none =>
  obtain⟨val,h2,h3⟩:=hc.at hv
  grind [Z2M]
 |some k =>
  simp only[Qz]at hv;split at hv
  .rename_i hle;simp at hv;subst hv;have hl:=hc.length;refine⟨_,Z2N hn hg rfl (by simp;simp at hl;omega),.agg (by simpa using(hc.drop o).take k) ?_⟩
   grind
  .cases hv
theorem Z2P(hn:UJ P t=some n)(hg:w.heap[g]?=some (.cells c te fz))
  (hc:A6 w cs ((c.toList.drop o).take cs.length) fp) (hf:∀g∈fp,F g) {v:AV} (hv:GO cs off n=some v):∃val,(loadVar t ⟨g,o+off,none⟩).run P w=.ok val w/\RV ρ w F v val:=by
 cases n with
 |none =>
  simp only[GO]at hv
  cases hx:cs[off]? with
  |none=>simp[hx]at hv
  |some x =>
   simp[hx]at hv;subst hv;obtain⟨val,fq,h2,h3,h4⟩:=hc.at hx;refine⟨val,Z2M hn hg ?_,.t h3 λg hg=>hf g (h4 g hg)⟩
   grind
 |some k =>
  simp only[GO]at hv;split at hv
  .rename_i hle;simp at hv;subst hv;have hl:=hc.length;simp at hl;have hR:=AE.of_TRs (ρ:=ρ) hc hf;have e1:(c.toList.drop (o+off)).take k=((((c.toList.drop o).take cs.length).drop off).take k):=by
    grind [List.drop_take,List.drop_drop]
   refine⟨_,Z2N hn hg e1 (by simp;omega),.agg ?_ ?_⟩
   .simpa[List.map_drop,List.map_take]using(hR.drop off).take k
   .intro v hv;exact hc.one v (OO (DC hv))
  .cases hv
theorem Z2Q{c t:T}(h:TR w t v fp):TR w (DF c t) v fp:=by
 unfold DF;split
 .cases h;exact .lst0 _ _ _
 .exact h
theorem TJ:∀{cs ts:V5} {vs:V4} {fp:V3},A6 w ts vs fp->A6 w (wk cs ts) vs fp
 |[],_,_,_,h=>by unfold wk;exact h
 |c::cs,[],_,_,h=>by unfold wk;exact h
 |c::cs,t::ts,_,_,h=>by
  unfold wk
  cases h with
  |cons h hs=>exact .cons (Z2Q h) (TJ hs)
theorem IJ:∀{cs ts:V5},(wk cs ts).length=ts.length
 |[],_=>by unfold wk;rfl
 |c::cs,[]=>by unfold wk;rfl
 |c::cs,t::ts=>by unfold wk;simp[IJ (cs:=cs) (ts:=ts)]
theorem A6.elem(hc:A6 w es.flatten xs fp)(hl:∀x∈es,x.length=sz)(hi:es[i]?=some cs) :
  ∃fq,A6 w cs ((xs.drop (i*sz)).take cs.length) fq/\∀g∈fq,g∈fp:=by
 induction es generalizing xs fp i with
 |nil=>simp at hi
 |cons x es ih =>
  rw[OL]at hc;obtain⟨fa,fb,rfl,h1,h2⟩:=hc.split
  cases i with
  |zero =>
   grind
  |succ i =>
   obtain⟨fq,h3,h4⟩:=ih h2 (λy hy=>hl y (by simp[hy])) (by simpa using hi);refine⟨fq,?_,λg hg=>by simp[h4 g hg]⟩;rw[hl x Om,Iu]at h3
   grind
theorem GY(hl:∀x∈es,x.length=sz):es.flatten.length=es.length*sz:=by
 induction es with
 |nil=>simp
 |cons x es ih =>
  grind
theorem A6.splice{A B C:V5}{ys:V4}{fq:V3}(hc:A6 w (A++B++C) xs fp)(ht:A6 w ts ys fq) :
  ∃fa fb fc,fp=fa++fb++fc/\A6 w (A++ts++C) (xs.take A.length++ys++xs.drop (A.length+B.length)) (fa++fq++fc):=by
 obtain⟨fab,fc,rfl,h1,h2⟩:=hc.split;obtain⟨fa,fb,rfl,h3,h4⟩:=h1.split;refine⟨fa,fb,fc,rfl,?_⟩;have e1:(xs.take (A++B).length).take A.length=xs.take A.length:=by rw[OP];congr 1;simp
 rw[e1]at h3;rw[Yu]at h2;exact(h3.append ht).append h2
theorem Z2R(hi:es[i]?=some cs)(hle:off+ts.length<=cs.length) :
  es.flatten=((es.take i).flatten++cs.take off)++(cs.drop off).take ts.length++(cs.drop (off+ts.length)++(es.drop (i+1)).flatten)/\
  (es.set i (BK cs off ts)).flatten=((es.take i).flatten++cs.take off)++ts++(cs.drop (off+ts.length)++(es.drop (i+1)).flatten):=by
 have hlt:i<es.length:=by
  grind
 have hsplit:es=es.take i++cs::es.drop (i+1):=by
  have:=Dq.1 hi;obtain⟨_,rfl⟩:=this;simp
 constructor
 .grind [List.flatten_append,List.flatten_cons,List.drop_drop,List.take_append_drop,List.append_assoc]
 .have:es.set i (BK cs off ts)=es.take i++BK cs off ts::es.drop (i+1):=by
   grind
  rw[this,Iv,OL];simp[BK,EX]
theorem Zrq{i:TypeInfo}(hi:P.info? t=some i)(hg:w.heap[g]?=some (.cells c te (0,0)))(hs:val.cells.size=i.size)
  (hle:o+i.size<=c.size) (h1:∀v∈val.cells.toList,v.oneCell'=true) :
  (storeVar t ⟨g,o,none⟩ val).run P w=.ok () (w.setRow g (c.toList.take o++val.cells.toList++c.toList.drop (o+i.size)).toArray):=by
 have:=run_storeCells_at P g o te val.cells.toList 0 c w hg (by simp[hs];omega) h1;simp only[DE,Y7,hs]at this;simp[storeVar,sizeOf,typeInfo,hi,hs,this]
theorem OY(w:World)(g:Nat)(cs:Array Value):w.grownBy (w.setRow g cs) (some g) :=
 ⟨rfl,rfl,rfl,Om,λk _ hk=>setRow_other w g k cs λe=>hk (by rw[e])⟩
theorem Below.setRow{w:World}{base:Nat}(hg:base<=g)(cs:Array Value):Below base w (w.setRow g cs) :=
 ⟨rfl,rfl,rfl,Om,λk hk=>setRow_other w g k cs Z⟩
theorem ZEs(R:Rel N base ρ h w){b:Nat}{cs:XQ}(hb:gt h b=.box cs){x v:AV}{vs:XQ}{px:Value}(hx:x=.ptr b off)(hpx:RV ρ w (Free N ρ h) x px)
  (hc:cellsOf v=some vs) (hv:RV ρ w (Free N ρ h) v val) {i:TypeInfo} (hi:P.info? t=some i) (hl:vs.length=i.size) (hle:off+i.size<=cs.length) :
  Bb P N base ρ h w (do Instr.storeAt t px val;pure .skip) .top [(b,.box (VY cs off vs))]:=by
 subst hx
 cases hpx with
 |@ptr _ _ g r hr BS =>
  have hd:gt h b≠.dead:=by rw[hb];intro hc;cases hc
  obtain⟨r',h1,h2⟩:=R.blk b hd;rw[hr]at h1;cases h1;rw[hb]at h2;obtain⟨g',c,te,hv',hbase,hh,hcs,hone⟩:=h2;rw[BS]at hv';cases hv';obtain⟨hvs,hone'⟩:=IH hc hv;have hcl:=hcs.length;have hvl:=hvs.length;simp only[Y7]at hcl hvl;have hrun:=Zrq (P:=P) hi hh (o:=off) (val:=val) Z Z hone';have hnew:AE ρ w (Free N ρ h) (VY cs off vs) (c.toList.take off++val.cells.toList++c.toList.drop (off+i.size)):=by
   rw[VY,hl];exact((hcs.take off).append hvs).append (hcs.drop _)
  have hp:=IG R (n:=b) (ks:=[]) (x:=.box (VY cs off vs)) (r:=r) (row:=some g) (w':=w.setRow g (c.toList.take off++val.cells.toList++c.toList.drop (off+i.size)).toArray)
   (by intro r0 h0;rw[hr]at h0;cases h0;rfl) (OY w g _)
   (by intro g' hg';cases hg';exact⟨b,.inr rfl,r,hr,hd,(by rw[BS];rfl)⟩)
   (by intro g' hg';exact .inr ⟨b,.inr rfl,r,hr,hd,hg'⟩)
   (λhk=>⟨g,_,te,BS,hbase,setRow_heap w g c _ te _ hh,hnew.keep hk,by
    intro x hx;change x∈c.toList.take off++val.cells.toList++c.toList.drop (off+i.size)at hx;rcases Yl.1 hx with hx|hx
    .rcases Yl.1 hx with hx|hx
     .exact hone x (DC hx)
     .exact hone' x hx
    .exact hone x (OO hx)⟩)
   (by intro hf;cases hf)
  refine⟨undef,_,Ay ρ b r,.inr ⟨by simp[Instr.storeAt,Instr.sureAddr,hrun],rfl⟩,.top _,hp.1,hp.2.1,?_,Below.setRow hbase _,hp.2.2⟩;intro b' hb';simp at hb';simp[Ay,hb']
end
open Go.RowKit (Below)
section
variable{P:Program}{N:Bu}{base:Nat}{ρ:Map}{h:V2}{w w':World}{F:Nat->Prop}{e:Env}{a:Act}{ks fp ks':V3}{f fr:Bool}{vs cs:XQ}{ts xs:V5}{r:Root}{b el sz off:Nat}{v:AV}{val px:Value}{x:AK}{es:WI}{t:TypeId}
theorem TK{l:V3}:U9 l=true↔l.Nodup:=by
 induction l with
 |nil=>simp[U9]
 |cons x l ih=>simp[U9,ih]
structure By (N:Bu) (base:Nat) (ρ:Map) (h:V2) (ks:V3) (fp:V3) (f:Bool):Prop where
 free:∀g∈fp,Free N ρ h g\/∃k∈ks,Jl ρ h k g
 fresh:f=true->∀g∈fp,N.f g/\∃k∈ks,∃r,ρ k=some r/\((gt h k≠.dead/\Xu r.v=some g)\/(XG (gt h k)=true/\g∈r.fp))
 nodup:f=true->ks.Nodup->fp.Nodup
theorem JY(hx:XG x=true):x≠.dead:=by intro hc;rw[hc]at hx;cases hx
theorem Rel.free_fp(R:Rel N base ρ h w){k:Nat}(hr:ρ k=some r)(hf:XG (gt h k)=true):∀g∈r.fp,Free N ρ h g:=by
 obtain⟨r',h1,h2⟩:=R.blk k (JY hf);rw[hr]at h1;cases h1
 cases hx:gt h k with
 |dead=>rw[hx]at hf;cases hf
 |box cs=>rw[hx]at hf;cases hf
 |arr e sz fr es =>
  rw[hx]at h2;obtain⟨_,xs,_,_,_,_,_,h6,_⟩:=h2;exact h6
theorem By.nil(f:Bool):By N base ρ h [] [] f:=⟨(by intro g hg;cases hg),(by intro _ g hg;cases hg),λ_ _=>Y8⟩
theorem By.append(R:Rel N base ρ h w){ls fq:V3}{g:Bool}(A:By N base ρ h ks fp f)(B:By N base ρ h ls fq g):By N base ρ h (ks++ls) (fp++fq) (f && g):=by
 refine⟨?_,?_,?_⟩
 .intro x hx;rcases Yl.1 hx with hx|hx
  .exact(A.free x hx).imp id λ⟨k,hk,ho⟩=>⟨k,by simp[hk],ho⟩
  .exact(B.free x hx).imp id λ⟨k,hk,ho⟩=>⟨k,by simp[hk],ho⟩
 .intro hf x hx;simp only[Yg]at hf;rcases Yl.1 hx with hx|hx
  .obtain⟨h1,k,hk,h2⟩:=A.fresh hf.1 x hx;exact⟨h1,k,by simp[hk],h2⟩
  .obtain⟨h1,k,hk,h2⟩:=B.fresh hf.2 x hx;exact⟨h1,k,by simp[hk],h2⟩
 .intro hf hn;simp only[Yg]at hf;rw[EI]at hn|-;refine⟨A.nodup hf.1 hn.1,B.nodup hf.2 hn.2.1,?_⟩;intro x hx y hy hxy;subst hxy;obtain⟨_,k,hk,r,h1,h3⟩:=A.fresh hf.1 x hx;obtain⟨_,l,hl,s,h4,h6⟩:=B.fresh hf.2 x hy;refine hn.2.2 k hk l hl ?_;rcases h3 with⟨h2,h3⟩|⟨h2,h3⟩<;>rcases h6 with⟨h5,h6⟩|⟨h5,h6⟩
  .exact R.inj k l r s x h1 h4 h2 h5 h3 h6
  .exact absurd h3 ((R.free_fp h4 h5 x h6).2 k r h1 h2)
  .exact absurd h6 ((R.free_fp h1 h2 x h3).2 l s h4 h5)
  .exact R.apart k l r s x h1 h4 h2 h5 h3 h6
theorem TL(R:Rel N base ρ h w)(hr:ρ b=some r)(hb:gt h b=.arr el sz fr es) :
  ∃fp,TR w (.lst sz es) r.v fp/\By N base ρ h [b] fp fr/\∀g∈fp,Xu r.v=some g\/g∈r.fp:=by
 have hd:gt h b≠.dead:=by rw[hb];intro hc;cases hc
 obtain⟨r',h1,h2⟩:=R.blk b hd;rw[hr]at h1;cases h1;have h2':=h2;rw[hb]at h2;obtain⟨e',xs,he',ho,hsz,hl,ht,hf,hfr⟩:=h2;by_cases hne:es=[]
 .subst hne;refine⟨[],?_,⟨(by intro g hg;cases hg),(by intro _ g hg;cases hg),λ_ _=>Y8⟩,(by intro g hg;cases hg)⟩;rcases ho.2 with⟨hv,_⟩|⟨g,cap,cur,hv,_⟩
  .rw[hv];exact .lst0 _ _ _
  .rw[hv];exact .lst0 _ _ _
 .rcases ho.2 with⟨hv,hz⟩|⟨g,cap,cur,hv,hbg,hg,hcap,_,hcs,htake⟩
  .simp_all
  .have hblk:Xu r.v=some g:=by rw[hv];rfl
   refine⟨g::r.fp,?_,⟨?_,?_,?_⟩,?_⟩
   .rw[hv];refine .lst hne hsz hcap hg hl ?_
    simp_all
   .intro x hx
    cases hx with
    |head=>exact .inr ⟨b,Om,r,hr,hd,hblk⟩
    |tail _ hx=>exact .inl (hf x hx)
   .intro hft x hx
    cases hx with
    |head=>exact⟨(R.hO b r g hr hd hblk).2,b,Om,r,hr,.inl ⟨hd,hblk⟩⟩
    |tail _ hx=>exact⟨(hfr hft).2 x hx,b,Om,r,hr,.inr ⟨by rw[hb];exact hft,hx⟩⟩
   .intro hft _;refine TA.2 ⟨λhx=>?_,(hfr hft).1⟩;exact(hf g hx).2 b r hr hd hblk
   .simp_all
theorem E9(R:Rel N base ρ h w){x:T}(ht:E3 h v=some (x,f,ks))(hv:RV ρ w (Free N ρ h) v val) :
  ∃fp,TR w x val fp/\By N base ρ h ks fp f:=by
 cases hv with
 |t hT hf =>
  simp[E3]at ht;obtain⟨rfl,rfl,rfl⟩:=ht;refine⟨_,hT,⟨λg hg=>.inl (hf g hg),λhs=>?_,λhs _=>?_⟩⟩
  .cases hT<;>first|(intro g hg;cases hg;done)|simp[X5]at hs
  .cases hT<;>first|exact Y8|simp[X5]at hs
 |@own b r hr h1 =>
  simp only[E3]at ht;split at ht
  .grind [TL]
  .cases ht
 |_=>simp[E3]at ht
theorem Zrr(R:Rel N base ρ h w){vals:V4}(ht:BD h vs=some (xs,f,ks))(hv:AE ρ w (Free N ρ h) vs vals) :
  ∃fp,A6 w xs vals fp/\By N base ρ h ks fp f:=by
 induction vs generalizing xs f ks vals with
 |nil=>simp[BD]at ht;obtain⟨rfl,rfl,rfl⟩:=ht;cases hv;exact⟨[],.nil,.nil _⟩
 |cons v vs ih =>
  cases hv with
  |cons hv hvs =>
   simp only[BD]at ht;split at ht
   .rename_i x f1 k1 xs1 f2 k2 h1 h2;simp at ht;obtain⟨rfl,rfl,rfl⟩:=ht;obtain⟨fp,h3,h4⟩:=E9 R h1 hv;obtain⟨fq,h5,h6⟩:=ih h2 hvs;exact⟨fp++fq,.cons h3 h5,h4.append R h6⟩
   .cases ht
theorem Zrs(ht:BD h vs=some (xs,f,ks)):xs.length=vs.length:=by
 induction vs generalizing xs f ks with
 |nil=>simp[BD]at ht;obtain⟨rfl,_⟩:=ht;rfl
 |cons v vs ih =>
  simp only[BD]at ht
  grind
theorem Zrt(R:Rel N base ρ h w)(A:By N base ρ h ks fp f){n:Nat}{row:Option Nat}
  (hk:W4 ρ w (Free N ρ h) (Ay ρ n r) w' (Free N (Ay ρ n r) (upd h (kill ks'++[(n,x)])))) (hg:w.grownBy w' row) (hsub:∀k∈ks,k∈ks')
  (hrow:∀g k,k∈ks->Jl ρ h k g->row≠some g/\Xu r.v≠some g) (hlt:∀g∈fp,g<w.heap.size) :
  ∀g∈fp,Free N (Ay ρ n r) (upd h (kill ks'++[(n,x)])) g/\w'.heap[g]?=w.heap[g]?:=by
 intro g hgf;rcases A.free g hgf with h1|⟨k,hks,ho⟩
 .exact hk.free g (hlt g hgf) h1
 .obtain⟨h2,h3⟩:=hrow g k hks ho;refine⟨⟨?_,?_⟩,hg.block g (hlt g hgf) (λe=>h2 e.symm)⟩
  .obtain⟨rk,hk1,hk2,hk3⟩:=ho;exact(R.hO _ rk g hk1 hk2 hk3).1
  intro b rb hrb hd he;rw[GX]at hd;by_cases hb:b=n
  .subst hb;simp[Ay]at hrb;subst hrb;exact h3 he
  .simp[Ay,hb]at hrb;simp[hb]at hd;obtain⟨rk,hk1,hk2,hk3⟩:=ho;have:=R.inj b k rb rk g hrb hk1 hd.2 hk2 he hk3
   simp_all
theorem Z2S(R:Rel N base ρ h w)(A:By N base ρ h ks fp f)(hf:f=true)(hsub:∀k∈ks,k∈ks'){g d:Nat}{rd:Root}(hg:g∈fp)(hd:d ∉ ks')
  (hr:ρ d=some rd) (hfd:XG (gt h d)=true):g ∉ rd.fp:=by
 intro hgd;obtain⟨_,k,hk,r,h1,h3⟩:=A.fresh hf g hg;rcases h3 with⟨h2,h3⟩|⟨h2,h3⟩
 .exact(R.free_fp hr hfd g hgd).2 k r h1 h2 h3
 .exact hd (R.apart k d r rd g h1 hr h2 hfd h3 hgd▸hsub k hk)
theorem ZEt(R:Rel N base ρ h w){i sz':Nat}(hb:gt h b=.arr el sz fr es){cs:V5}(hi:es[i]?=some cs)
  (hpx:RV ρ w (Free N ρ h) (.eptr b i sz' off) px) (hsz':sz'=sz) (hc:cellsOf v=some vs) (hv:RV ρ w (Free N ρ h) v val) (ht:BD h vs=some (ts,f,ks)) {inf:TypeInfo} (Dv:P.info? t=some inf) (hl:vs.length=inf.size) (hle:off+inf.size<=cs.length) (hnd:U9 (b::ks)=true) :
  Bb P N base ρ h w (do Instr.storeAt t px val;pure .skip) .top (kill ks++[(b,.arr el sz (fr && f) (es.set i (BK cs off (wk (cs.drop off) ts))))]):=by
 subst hsz';rw[TK,TA]at hnd;have hd:gt h b≠.dead:=by rw[hb];intro hc;cases hc
 obtain⟨r,hr,hB⟩:=R.blk b hd;rw[hb]at hB;obtain⟨DG,xs,hel,ho,hsz,hlen,htr,hfree,hfr⟩:=hB
 cases hpx with
 |@eptr _ _ _ _ g n cap r2 hr2 BS =>
  rw[hr]at hr2;cases hr2;rcases ho.2 with⟨hv0,hz⟩|⟨g',cap',cur,hv',hbg,hg,hcap,hcm,hcs,htake⟩
  .rw[BS]at hv0;cases hv0
  .rw[BS]at hv';cases hv';obtain⟨hvs,hone⟩:=IH hc hv;obtain⟨fq,IK,hT⟩:=Zrr R ht hvs;have htl:=Zrs ht;have hwl:(wk (cs.drop off) ts).length=ts.length:=IJ;replace IK:=TJ (cs:=cs.drop off) IK;have hvl:=hvs.length;simp only[Y7]at hvl;have Aab:cs.length=sz':=hlen cs (Y9 hi);have hilt:i<es.length:=(Dq.1 hi).1;have hmul:i*sz'+sz'<=es.length*sz':=by
    have:=EJ sz' (show i+1<=es.length from hilt)
    rwa [EK,OQ]at this
   have Ab1:es.length*sz'<=cap*sz':=EJ _ hcap;have hblk:Xu r.v=some g:=by rw[BS];rfl
   have hrun:=Zrq (P:=P) Dv hg (o:=i*sz'+off) (val:=val) Z Z hone;have hfl:=Z2R (ts:=wk (cs.drop off) ts) (off:=off) hi Z;rw[hfl.1]at htr;obtain⟨fa,fb,fc,hfp,hnew⟩:=htr.splice IK;rw[<-hfl.2]at hnew;have hAl:((es.take i).flatten++cs.take off).length=i*sz'+off:=by
    rw[Yu,GY λx hx=>hlen x (DC hx)];simp;rw[GK Z,GK Z]
   have hBl:((cs.drop off).take (wk (cs.drop off) ts).length).length=inf.size:=by simp;omega
   rw[hAl,hBl]at hnew;have hxl:xs.length=es.length*sz':=ho.1;have hlt1:=htr.lt;have hlt2:=IK.lt;have hgx:∀g∈fa++fq++fc,g∈r.fp\/g∈fq:=by
    intro x hx;simp only[Yl]at hx;rcases hx with(hx|hx)|hx
    .exact .inl (by rw[hfp];simp[hx])
    .exact .inr hx
    .exact .inl (by rw[hfp];simp[hx])
   have hset:∀x∈es.set i (BK cs off (wk (cs.drop off) ts)),x.length=sz':=by
    intro x hx;rcases Iw hx with hx|hx
    .exact hlen x hx
    .subst hx;simp[BK];omega
   have hp:=IG R (n:=b) (ks:=ks) (x:=.arr el sz' (fr && f) (es.set i (BK cs off (wk (cs.drop off) ts)))) (r:=⟨r.v,fa++fq++fc⟩) (row:=some g)
    (w':=w.setRow g (cur.toList.take (i*sz'+off)++val.cells.toList++cur.toList.drop (i*sz'+off+inf.size)).toArray)
    (by intro r0 h0;rw[hr]at h0;cases h0;rfl) (OY w g _)
    (by intro g' hg';cases hg';exact⟨b,.inr rfl,r,hr,hd,hblk⟩)
    (by intro g' hg';exact .inr ⟨b,.inr rfl,r,hr,hd,hg'⟩)
    (λhk=>by
     have hta:=Zrt R hT hk (OY w g _) (λk hk=>hk) (by
      intro g' k hk' ho';have hne:g'≠g:=by
       intro he;subst he;obtain⟨rk,h1,h2,h3⟩:=ho';exact hnd.1 (R.inj b k r rk g' hr h1 hd h2 hblk h3▸hk')
      exact⟨λhe=>hne (by cases he;rfl),λhe=>hne (by rw[hblk]at he;cases he;rfl)⟩) hlt2
     have hall:∀g'∈fa++fq++fc,Free N (Ay ρ b ⟨r.v,fa++fq++fc⟩) (upd h (kill ks++[(b,.arr el sz' (fr && f) (es.set i (BK cs off (wk (cs.drop off) ts))))])) g'/\
       (w.setRow g (cur.toList.take (i*sz'+off)++val.cells.toList++cur.toList.drop (i*sz'+off+inf.size)).toArray).heap[g']?=w.heap[g']?:=by
      intro g' hg';rcases hgx g' hg' with h1|h1
      .exact hk.free g' (hlt1 g' h1) (hfree g' h1)
      .exact hta g' h1
     refine⟨DG,xs.take (i*sz'+off)++val.cells.toList++xs.drop (i*sz'+off+inf.size),hel,⟨?_,.inr ⟨g,cap,_,BS▸Om,hbg,setRow_heap w g cur _ DG _ hg,by simpa using hcap,hcm,?_,?_⟩⟩,hsz,hset,?_,λg' hg'=>(hall g' hg').1,?_⟩
     .simp only[Yu,Yy,List.length_drop,Y7,EH];omega
     .simp only[List.size_toArray,Yu,Yy,List.length_drop,Y7];omega
     .rw[<-htake];simp only[EH];have e1:(cur.toList.take (es.length*sz')).take (i*sz'+off)=cur.toList.take (i*sz'+off):=by rw[OP];congr 1;omega
      rw[e1];have hl1:(cur.toList.take (i*sz'+off)++val.cells.toList).length=i*sz'+off+inf.size:=by simp;omega
      rw[List.take_append,hl1,Ycr Z,rN]
     .exact hnew.frame λg' hg'=>(hall g' hg').2
     .intro Dw;simp only[Yg]at Dw;have h1:=(hfr Dw.1);have h2:=hT.nodup Dw.2 hnd.2;constructor
      .rw[hfp]at h1;have h3:=h1.1;have hdis:∀x,x∈fq->x ∉ r.fp:=by
        intro x hx hx';obtain⟨_,k,hk',rk,h4,h6⟩:=hT.fresh Dw.2 x hx;have hfb:XG (gt h b)=true:=by rw[hb];exact Dw.1
        rcases h6 with⟨h5,h6⟩|⟨h5,h6⟩
        .exact(R.free_fp hr hfb x hx').2 k rk h4 h5 h6
        .exact hnd.1 (R.apart b k r rk x hr h4 hfb h5 hx' h6▸hk')
       rw[hfp]at hdis;rw[EI,EI]at h3|-;refine⟨⟨h3.1.1,h2,?_⟩,h3.2.1,?_⟩
       .intro x hx y hy hxy;subst hxy;exact hdis x hy (by simp[hx])
       .intro x hx y hy hxy;subst hxy;rcases Yl.1 hx with hx|hx
        .exact h3.2.2 x (by simp[hx]) x hy rfl
        .exact hdis x hx (by simp[hy])
      .intro x hx;rcases hgx x hx with hx|hx
       .exact h1.2 x hx
       .exact(hT.fresh Dw.2 x hx).1)
    (by
     intro Ch x hx d rd hdk hdn hrd hfd;simp only[XG,Yg]at Ch;rcases hgx x hx with hx|hx
     .intro hx';exact hdn (R.apart b d r rd x hr hrd (by rw[hb];exact Ch.1) hfd hx hx'▸rfl)
     .exact Z2S R hT Ch.2 (λk hk=>hk) hx hdk hrd hfd)
   refine⟨undef,_,Ay ρ b ⟨r.v,fa++fq++fc⟩,.inr ⟨by simp[Instr.storeAt,Instr.sureAddr,hrun],rfl⟩,.top _,hp.1,hp.2.1,?_,Below.setRow hbg _,hp.2.2⟩;intro b' hb';simp at hb';simp[Ay,hb'.2]
theorem Fa{vs:V4}(h:A6 w ts vs fp)(hf:∀g∈fp,F g):AE ρ w F (BY cs ts) vs:=by
 induction ts generalizing cs vs fp with
 |nil=>cases h;cases cs with
  |nil=>exact .nil
  |cons c cs=>cases c<;>exact .nil
 |cons t ts ih =>
  cases h with
  |cons h hs =>
   have h1:∀c,RV ρ w F (.t (DF c t)) _:=λc=>.t (Z2Q h) λg hg=>hf g (by simp[hg])
   have h2:RV ρ w F (.t t) _:=.t h λg hg=>hf g (by simp[hg])
   have h3:=λcs=>ih (cs:=cs) hs λg hg=>hf g (by simp[hg])
   cases cs with
   |nil =>
    have h4:=h3 [];unfold BY at h4|-
    exact .cons h2 h4
   |cons c cs =>
    cases c<;>unfold BY<;>first|exact .cons h2 (h3 cs)|exact .cons (h1 _) (h3 cs)
theorem Fb:(BY cs ts).length=ts.length:=by
 induction ts generalizing cs with
 |nil=>cases cs with
  |nil=>rfl
  |cons c cs=>cases c<;>rfl
 |cons t ts ih =>
  cases cs with
  |nil=>simp[BY]
  |cons c cs=>cases c<;>simp[BY,ih]
theorem ZEu(R:Rel N base ρ h w)(hb:gt h b=.box cs)(hpx:RV ρ w (Free N ρ h) (.ptr b off) px)
  (hc:cellsOf v=some vs) (hv:RV ρ w (Free N ρ h) v val) (ht:BD h vs=some (ts,f,ks)) {i:TypeInfo} (hi:P.info? t=some i) (hl:vs.length=i.size) (hle:off+i.size<=cs.length) (hnd:U9 (b::ks)=true) :
  Bb P N base ρ h w (do Instr.storeAt t px val;pure .skip) .top (kill ks++[(b,.box (VY cs off (BY (cs.drop off) ts)))]):=by
 rw[TK,TA]at hnd
 cases hpx with
 |@ptr _ _ g r hr BS =>
  have hd:gt h b≠.dead:=by rw[hb];intro hc;cases hc
  obtain⟨r',h1,h2⟩:=R.blk b hd;rw[hr]at h1;cases h1;rw[hb]at h2;obtain⟨g',c,te,hv',hbase,hh,hcs,hone⟩:=h2;rw[BS]at hv';cases hv';obtain⟨hvs,hone'⟩:=IH hc hv;obtain⟨fq,IK,hT⟩:=Zrr R ht hvs;have htl:=Zrs ht;have hcl:=hcs.length;have hvl:=hvs.length;simp only[Y7]at hcl hvl;have hblk:Xu r.v=some g:=by rw[BS];rfl
  have hlt2:=IK.lt;have hrun:=Zrq (P:=P) hi hh (o:=off) (val:=val) Z Z hone';have hwl:(BY (cs.drop off) ts).length=i.size:=by rw[Fb];omega
  have hp:=IG R (n:=b) (ks:=ks) (x:=.box (VY cs off (BY (cs.drop off) ts))) (r:=r) (row:=some g) (w':=w.setRow g (c.toList.take off++val.cells.toList++c.toList.drop (off+i.size)).toArray)
   (by intro r0 h0;rw[hr]at h0;cases h0;rfl) (OY w g _)
   (by intro g' hg';cases hg';exact⟨b,.inr rfl,r,hr,hd,hblk⟩)
   (by intro g' hg';exact .inr ⟨b,.inr rfl,r,hr,hd,hg'⟩)
   (λhk=>by
    have hta:=Zrt R hT hk (OY w g _) (λk hk=>hk) (by
     intro g' k hk' ho';have hne:g'≠g:=by
      intro he;subst he;obtain⟨rk,h1,h2,h3⟩:=ho';exact hnd.1 (R.inj b k r rk g' hr h1 hd h2 hblk h3▸hk')
     exact⟨λhe=>hne (by cases he;rfl),λhe=>hne (by rw[hblk]at he;cases he;rfl)⟩) hlt2
    have hnew:AE (Ay ρ b r) (w.setRow g (c.toList.take off++val.cells.toList++c.toList.drop (off+i.size)).toArray) (Free N (Ay ρ b r) (upd h (kill ks++[(b,.box (VY cs off (BY (cs.drop off) ts)))])))
      (VY cs off (BY (cs.drop off) ts)) (c.toList.take off++val.cells.toList++c.toList.drop (off+i.size)):=by
     have e:VY cs off (BY (cs.drop off) ts)=cs.take off++BY (cs.drop off) ts++cs.drop (off+i.size):=by rw[VY,hwl]
     have hh2:=(((hcs.take off).keep hk).append (Fa (cs:=cs.drop off) (IK.frame λg' hg'=>(hta g' hg').2) λg' hg'=>(hta g' hg').1)).append ((hcs.drop (off+i.size)).keep hk);rw[<-e]at hh2;exact hh2
    exact⟨g,_,te,BS,hbase,setRow_heap w g c _ te _ hh,hnew,by
     intro x hx;change x∈c.toList.take off++val.cells.toList++c.toList.drop (off+i.size)at hx;rcases Yl.1 hx with hx|hx
     .rcases Yl.1 hx with hx|hx
      .exact hone x (DC hx)
      .exact hone' x hx
     .exact hone x (OO hx)⟩)
   (by intro hf;cases hf)
  refine⟨undef,_,Ay ρ b r,.inr ⟨by simp[Instr.storeAt,Instr.sureAddr,hrun],rfl⟩,.top _,hp.1,hp.2.1,?_,Below.setRow hbase _,hp.2.2⟩;intro b' hb';simp at hb';simp[Ay,hb'.2]
end
open Go.RowKit (Below)
section
variable{P:Program}{N:Bu}{base:Nat}{ρ:Map}{h:V2}{w w':World}{F:Nat->Prop}{e:Env}{a:Act}{sz el n:Nat}{v:Value}{xs:V4}{f:Bool}{ks:V3}{t ty:TypeId}{i:TypeInfo}
theorem Z2T(ho:w.ownsRow base el sz v n xs):v.oneCell'=true:=by
 rcases ho.2 with⟨hv,_⟩|⟨g,cap,cur,hv,_⟩<;>rw[hv]<;>rfl
theorem TM(R:Rel N base ρ h w){nx:Nat}(hn:ρ nx=none){s:Sem Next}{vv:Value}(hs:s.run P w=.ok (.value vv) w'){row:Option Nat}(hg:w.grownBy w' row)(hsz:0<sz){es1 es2:WI}{xs1 xs2:V4}{fp1 fp2:V3}{fr1:Bool}{kd:V3}
  (hown:w'.ownsRow base el sz vv (es1.length+es2.length) (xs1++xs2)) (hl1:∀x∈es1,x.length=sz) (hl2:∀x∈es2,x.length=sz)
  (ht1:A6 w es1.flatten xs1 fp1) (ht2:A6 w es2.flatten xs2 fp2) (hT:By N base ρ h ks fp2 f) (hnd:ks.Nodup)
  (hD1:∀g∈fp1,Free N ρ h g) (hD2:fr1=true->fp1.Nodup/\∀g∈fp1,N.f g)
  (hD3:fr1=true->∀g∈fp1,∀d rd,d ∉ kd++ks->ρ d=some rd->XG (gt h d)=true->g ∉ rd.fp)
  (hD4:fr1=true->∀g∈fp1,∀k∈ks,∀rk,ρ k=some rk->XG (gt h k)=true->g ∉ rk.fp)
  (hrow:∀g,row=some g->∃b∈kd,Jl ρ h b g) (hblk:∀g,Xu vv=some g->w.heap.size<=g\/∃b∈kd,Jl ρ h b g)
  (hap:∀g k,k∈ks->Jl ρ h k g->¬∃b∈kd,Jl ρ h b g) {lb:Nat} (hlb:lb=rX\/el=lb) :
  Bb P N base ρ h w s (.own nx) (kill (kd++ks)++[(nx,.arr lb sz (fr1 && f) (es1++es2))]):=by
 have hlt1:=ht1.lt;have hlt2:=ht2.lt;have hp:=IG R (n:=nx) (ks:=kd++ks) (x:=.arr lb sz (fr1 && f) (es1++es2)) (r:=⟨vv,fp1++fp2⟩) (row:=row) (w':=w')
  (by intro r0 h0;rw[hn]at h0;cases h0) hg
  (by intro g hg';obtain⟨b,hb,ho⟩:=hrow g hg';exact⟨b,.inl (by simp[hb]),ho⟩)
  (by intro g hg';exact(hblk g hg').imp id λ⟨b,hb,ho⟩=>⟨b,.inl (by simp[hb]),ho⟩)
  (λhk=>by
   have hta:=Zrt R hT hk hg (λk hk=>by simp[hk]) (by
    intro g k hk' ho;refine⟨λhe=>hap g k hk' ho (hrow g he),λhe=>?_⟩;rcases hblk g he with h1|h1
    .obtain⟨rk,h2,h3,h4⟩:=ho;have:=(R.lt h2 h3 h4).2;omega
    .exact hap g k hk' ho h1) hlt2
   have hall:∀g∈fp1++fp2,Free N (Ay ρ nx ⟨vv,fp1++fp2⟩) (upd h (kill (kd++ks)++[(nx,.arr lb sz (fr1 && f) (es1++es2))])) g/\w'.heap[g]?=w.heap[g]?:=by
    intro g hg';rcases Yl.1 hg' with h1|h1
    .exact hk.free g (hlt1 g h1) (hD1 g h1)
    .exact hta g h1
   refine⟨el,xs1++xs2,hlb,by simpa using hown,hsz,?_,?_,λg hg'=>(hall g hg').1,?_⟩
   .intro x hx;rcases Yl.1 hx with hx|hx
    .exact hl1 x hx
    .exact hl2 x hx
   .rw[Iv];exact(ht1.append ht2).frame λg hg'=>(hall g hg').2
   .intro Ch;simp only[Yg]at Ch;obtain⟨h1,h2⟩:=hD2 Ch.1;refine⟨EI.2 ⟨h1,hT.nodup Ch.2 hnd,?_⟩,?_⟩
    .intro x hx y hy hxy;subst hxy;obtain⟨_,k,hk',rk,h4,h6⟩:=hT.fresh Ch.2 x hy;rcases h6 with⟨h5,h6⟩|⟨h5,h6⟩
     .exact(hD1 x hx).2 k rk h4 h5 h6
     .exact hD4 Ch.1 x hx k hk' rk h4 h5 h6
    .intro x hx;rcases Yl.1 hx with hx|hx
     .exact h2 x hx
     .exact(hT.fresh Ch.2 x hx).1)
  (by
   intro Ch x hx d rd hdk _ hrd hfd;simp only[XG,Yg]at Ch;rcases Yl.1 hx with hx|hx
   .exact hD3 Ch.1 x hx d rd hdk hrd hfd
   .exact Z2S R hT Ch.2 (λk hk=>by simp[hk]) hx hdk hrd hfd)
 refine⟨vv,w',Ay ρ nx ⟨vv,fp1++fp2⟩,.inl hs,.own (r:=⟨vv,fp1++fp2⟩) (by simp[Ay]) (Z2T hown),hp.1,hp.2.1,?_,?_,hp.2.2⟩
 .intro b hb;simp at hb;simp[Ay,hb.2]
 .refine(Below.refl _ _).grown hg R.hb λk hk=>?_
  obtain⟨b,_,rb,h1,h2,h3⟩:=hrow k hk;exact(R.lt h1 h2 h3).1
theorem sC{el:TypeId}(ht:P.underlying t=some (.slice el))(hi:P.info? el=some i)(ba:Option Addr)(n cap:Nat)(hle:n<=cap)(b2:Option Addr)(c2:Nat) :
  (Builtin.append_ #[t,t] ty #[.slice ba n cap,.slice b2 0 c2]).run P w=.ok (.slice ba n cap) w:=by
 cases ba<;>cases b2<;>simp[Builtin.append_,run_underlying ht,sizeOf,typeInfo,hi,Builtin.lenOf,hle,Builtin.firstCells,loadCells,loadCellsFrom,storeCells]
theorem Z2U{el:TypeId}{z:Value}(ht:P.underlying t=some (.slice el))(hi:P.info? el=some i)(hz:i.zero=some z)(hzs:z.cells.size=i.size)(hown:w.ownsRow base el i.size v n xs){b2:Option Addr}{m c2:Nat}{news:V4}(hl:news.length=m*i.size)
  (hsrc:m=0\/∃ad,b2=some ad/\∀j u,news[j]?=some u->w.cell? (ad.add j)=some u) (h1:∀u∈news,u.oneCell'=true)
  (h63:n+m<=140737488355328) (hbytes:(n+m)*i.bytes<=140737488355328) (hbase:base<=w.heap.size) :
  ∃v' w' row,(Builtin.append_ #[t,t] ty #[v,.slice b2 m c2]).run P w=.ok v' w'/\w'.ownsRow base el i.size v' (n+m) (xs++news)/\w.grownBy w' row/\(∀g,row=some g->Xu v=some g)/\
   (∀g,Xu v'=some g->w.heap.size<=g\/Xu v=some g):=by
 have hmax:n+m<=maxLen:=by simp only[maxLen];omega
 rcases hsrc with rfl|⟨ad,rfl,hnews⟩
 .have hnil:news=[]:=rP (by simpa using hl);subst hnil;refine⟨v,w,none,?_,by simpa using hown,⟨rfl,rfl,rfl,Yj _,λ_ _ _=>rfl⟩,(by intro g hg;cases hg),λg hg=>.inr hg⟩;rcases hown.2 with⟨hv,hn⟩|⟨g,cap,cur,hv,_,_,hcap,_⟩
  .simp_all [sC,Yj]
  .simp_all [sC]
 .have hlen:(xs++news).length=(n+m)*i.size:=by rw[Yu,hown.1,hl,EK]
  by_cases hm:m=0
  .subst hm;have hnil:news=[]:=rP (by simpa using hl);subst hnil;refine⟨v,w,none,?_,by simpa using hown,⟨rfl,rfl,rfl,Yj _,λ_ _ _=>rfl⟩,(by intro g hg;cases hg),λg hg=>.inr hg⟩;rcases hown.2 with⟨hv,hn⟩|⟨g,cap,cur,hv,_,_,hcap,_⟩
   .simp_all [sC,Yj]
   .simp_all [sC]
  .have grown:∀(old:Nat),old<n+m->
     (w.drew.alloc (.cells (xs.toArray++news.toArray++Builtin.zeroCells z.cells (grownCap w (n+m) old el-(n+m))) el)).ownsRow base el i.size
      (.slice (some ⟨w.heap.size,0,none⟩) (n+m) (grownCap w (n+m) old el)) (n+m) (xs++news)/\
     w.grownBy (w.drew.alloc (.cells (xs.toArray++news.toArray++Builtin.zeroCells z.cells (grownCap w (n+m) old el-(n+m))) el)) none:=by
    intro old ho;have hge:=grownCap_ge w (n+m) old el;have hcm:grownCap w (n+m) old el<=maxLen:=grownCap_le_maxLen w (n+m) old el hmax;refine⟨⟨hlen,.inr ⟨w.heap.size,_,_,rfl,hbase,heap_alloc_new w.drew _,hge,hcm,?_,?_⟩⟩,⟨rfl,rfl,rfl,Om,λk hk _=>Go.RowKit.Below.heap_alloc w.drew _ k hk⟩⟩
    .simp only[Array.size_append,List.size_toArray,size_zeroCells,hzs,hown.1,hl,<-EK];congr 1;omega
    .grind
   rcases hown.2 with⟨rfl,rfl⟩|⟨g,cap,cur,rfl,hbg,hg,hnc,hcm,hcs,htake⟩
   .have hx:xs=[]:=rP (by simpa using hown.1);subst hx;have hr:=run_append_nil (P:=P) w t ty el i z ht hi hz ad m c2 news hl hnews Z Z (by have hb:=hbytes;simp only[Yw]at hb;omega);have hgr:=grown 0 Z;simp only[Yw,EZ,Array.empty_append]at hgr|-;exact⟨_,_,none,hr,hgr.1,hgr.2,(by intro g hg;cases hg),by intro g hg;simp[Xu]at hg;exact .inl Z⟩
   .by_cases hroom:n+m<=cap
    .have hfit:n*i.size+news.length<=cur.size:=by rw[hl,hcs,<-EK];exact EJ _ hroom
     have hr:=run_append_room (P:=P) w t ty el i ht hi g n cap cur hg ad m c2 news hl hnews h1 hroom hfit;refine⟨_,_,some g,hr,⟨hlen,.inr ⟨g,cap,_,rfl,hbg,setRow_heap w g cur _ el _ hg,hroom,hcm,?_,?_⟩⟩,OY w g _,(by intro g' hg';cases hg';rfl),λg' hg'=>.inr hg'⟩
     .grind
     .grind
    .have holds:∀j u,xs[j]?=some u->w.cell? ((⟨g,0,none⟩:Addr).add j)=some u:=hown.cells (g:=g) rfl;have hr:=run_append_grow (P:=P) w t ty el i z ht hi hz ⟨g,0,none⟩ n cap xs hown.1 holds ad m c2 news hl hnews Z Z (growslice_fits Z hbytes);have hgr:=grown cap Z;exact⟨_,_,none,hr,hgr.1,hgr.2,(by intro g' hg';cases hg'),by intro g' hg';simp[Xu]at hg';exact .inl Z⟩
theorem Fc(R:Rel N base ρ h w){mv:Bool}{v:AV}{ys:WI}{val:Value}(hsz:0<sz)(hs:Q0 h sz mv v=some (ys,f,ks))(hv:RV ρ w (Free N ρ h) v val) :
  ∃b2 c2 news fp,val=.slice b2 ys.length c2/\news.length=ys.length*sz/\(ys.length=0\/∃ad,b2=some ad/\∀j u,news[j]?=some u->w.cell? (ad.add j)=some u)/\
   A6 w ys.flatten news fp/\(∀x∈ys,x.length=sz)/\By N base ρ h ks fp f/\ks.Nodup/\(∀k∈ks,v=.own k):=by
 cases hv with
 |@t x val fp hT hf =>
  cases hT with
  |nil =>
   simp[Q0]at hs;obtain⟨rfl,rfl,rfl⟩:=hs
   exact⟨none,0,[],[],rfl,Om,.inl rfl,.nil,Om,.nil _,Y8,Om⟩
  |lst0 sz' ad cap =>
   simp[Q0]at hs;obtain⟨rfl,rfl,rfl,rfl⟩:=hs
   exact⟨ad,cap,[],[],rfl,Om,.inl rfl,.nil,Om,.nil _,Y8,Om⟩
  |@lst sz' es g off cap c te fz fp' hne hsz' hcap hg hlen hc =>
   simp[Q0]at hs;obtain⟨rfl,rfl,rfl,rfl⟩:=hs;refine⟨_,cap,_,fp',rfl,?_,.inr ⟨_,rfl,λj u hj=>Z2L hg hj⟩,hc,hlen,⟨λg' hg'=>.inl (hf g' (by simp[hg'])),λhfl=>?_,λhfl _=>?_⟩,Y8,Om⟩
   .rw[<-hc.length,GY hlen]
   .have:fp'=[]:=hc.flat (by
     simp only[AM.flat,Yp]at hfl|-;intro y hy;obtain⟨x,hx,hy⟩:=List.mem_flatten.1 hy
     exact hfl x hx y hy)
    subst this;intro g hg;cases hg
   .have:fp'=[]:=hc.flat (by
     simp only[AM.flat,Yp]at hfl|-;intro y hy;obtain⟨x,hx,hy⟩:=List.mem_flatten.1 hy
     exact hfl x hx y hy)
    subst this
    exact Y8
  |_=>simp[Q0]at hs
 |@own b r hr h1 =>
  simp only[Q0]at hs;split at hs
  .rename_i el sz' fr es hb;split at hs
   .rename_i hse;subst hse;have hd:gt h b≠.dead:=by rw[hb];intro hc;cases hc
    obtain⟨r',h2,h3⟩:=R.blk b hd;rw[hr]at h2;cases h2;rw[hb]at h3;obtain⟨_,xs,_,ho,_,hl,ht,hf,hfr⟩:=h3;have hval:∃b2 c2,r.v=.slice b2 es.length c2/\(es.length=0\/∃ad,b2=some ad/\∀j u,xs[j]?=some u->w.cell? (ad.add j)=some u):=by
     rcases ho.2 with⟨hv,hz⟩|⟨g,cap,cur,hv,hbg,hg,hcap,_,hcs,htake⟩
     .exact⟨none,0,by rw[hv,hz],.inl hz⟩
     .exact⟨some ⟨g,0,none⟩,cap,hv,.inr ⟨_,rfl,ho.cells (g:=g) (by rw[hv];rfl)⟩⟩
    obtain⟨b2,c2,hv2,hsrc⟩:=hval;split at hs
    .simp at hs;obtain⟨rfl,rfl,rfl⟩:=hs;refine⟨b2,c2,xs,r.fp,hv2,ho.1,hsrc,ht,hl,⟨λg hg=>.inl (hf g hg),λhft g hg=>⟨(hfr hft).2 g hg,b,Om,r,hr,.inr ⟨by rw[hb];exact hft,hg⟩⟩,λhft _=>(hfr hft).1⟩,Om,Om⟩
    .simp at hs;obtain⟨rfl,rfl,rfl⟩:=hs
     have TN:AM.flat es=true->r.fp=[]:=λhfl=>ht.flat (by
      simp only[AM.flat,Yp]at hfl|-;intro y hy;obtain⟨x,hx,hy⟩:=List.mem_flatten.1 hy
      exact hfl x hx y hy)
     refine⟨b2,c2,xs,r.fp,hv2,ho.1,hsrc,ht,hl,⟨λg hg=>.inl (hf g hg),λhft=>?_,λhft _=>?_⟩,Y8,Om⟩
     .rw[TN hft];intro g hg;cases hg
     .rw[TN hft];exact Y8
   .cases hs
  .cases hs
 |_=>simp[Q0]at hs
end
open Go.RowKit (Below)
section
variable{P:Program}{N:Bu}{base:Nat}{ρ:Map}{h:V2}{w w':World}{F:Nat->Prop}{e:Env}{a:Act}{t el:TypeId}{zs:V5}{nx:Nat}{i:TypeInfo}{ps:Array (Nat×Operand)}{ks:V3}
theorem Z2V(off:Nat):∀(l:V4) (k:Nat) (arr:Array Value),off+k+l.length<=arr.size->
  ((l.zipIdx k).foldl (λcs (p:Value×Nat)=>cs.setIfInBounds (off+p.2) p.1) arr).toList=arr.toList.take (off+k)++l++arr.toList.drop (off+k+l.length)
 |[],k,arr,_=>by simp
 |v::l,k,arr,hle=>by
  simp only[List.zipIdx_cons,Yv];rw[Z2V off l (k+1) (arr.setIfInBounds (off+k) v) (by simp at hle|-;omega)];have:=list_seg_step arr.toList (off+k) v l (by simp at hle|-;omega)
  grind
theorem Zru{place:Nat->Option (Nat×Nat)}{cells:Array Value}{i off size:Nat}{v:Value}{rest:List (Nat×Value)}(hp:place i=some (off,size))(hs:v.cells.size=size)(hle:off+size<=cells.size) :
  ∃cells',Instr.fill place cells ((i,v)::rest)=Instr.fill place cells' rest/\cells'.toList=cells.toList.take off++v.cells.toList++cells.toList.drop (off+size):=by
 refine⟨v.cells.zipIdx.foldl (λcs (c,j)=>cs.setIfInBounds (off+j) c) cells,?_,?_⟩
 .conv=>lhs;unfold Instr.fill
  grind
 .rw[<-Array.foldl_toList,Array.toList_zipIdx]
  simp_all [Z2V]
theorem Z2W(hE:XO ρ w F e a.tmps){places:List (Nat×Nat)}:∀(ps:List (Nat×Operand)) (qs:List (Nat×Nat×AX)) (cs:XQ) (cells:Array Value),
  AW (λp:Nat×Operand=>match places[p.1]?,A7 p.2 with|some q,some x=>some (q.1,q.2,x)|_,_=>none) ps=some qs->AE ρ w F cs cells.toList->(∀v∈cells.toList,v.oneCell'=true)->
  ∀cs',K5 e cs qs=some cs'->∃cells',Instr.fill (places.toArray[·]?) cells (ps.map λp=>(p.1,a.eval p.2))=some cells'/\AE ρ w F cs' cells'.toList/\∀v∈cells'.toList,v.oneCell'=true
 |[],qs,cs,cells,hm,hc,h1,cs',hp=>by
  cases hm;simp[K5]at hp;subst hp
  exact⟨cells,by simp[Instr.fill],hc,h1⟩
 |(k,x)::ps,qs,cs,cells,hm,hc,h1,cs',hp=>by
  obtain⟨q,TO,hq,TP,rfl⟩:=KA hm;split at hq
  .rename_i pl x' hpl hx;cases hq;simp only[K5]at hp;split at hp
   .rename_i vs hvs;split at hp
    .rename_i hcond;obtain⟨h2,h3⟩:=IH hvs (Xi hE hx);have hl1:=h2.length;have hl2:=hc.length;simp only[Y7]at hl1 hl2;obtain⟨Bz,hf,hcl⟩:=Zru (place:=(places.toArray[·]?)) (cells:=cells) (i:=k) (off:=pl.1) (size:=pl.2) (v:=a.eval x) (rest:=ps.map λp=>(p.1,a.eval p.2)) (by simpa using hpl) Z Z;have hR:AE ρ w F (VY cs pl.1 vs) Bz.toList:=by
      rw[hcl,VY,hcond.1];exact((hc.take _).append h2).append (hc.drop _)
     have ho:∀v∈Bz.toList,v.oneCell'=true:=by
      grind
     obtain⟨cells',h4,h5,h6⟩:=Z2W hE ps TO _ Bz TP hR ho cs' hp
     simp_all
    .cases hp
   .cases hp
  .cases hq
theorem DV(R:Rel N base ρ h w)(hE:XO ρ w (Free N ρ h) e a.tmps){fs:Array Field}{zs:XQ}{places:List (Nat×Nat)}{qs:List (Nat×Nat×AX)}{cs:XQ}
  (hu:P.underlying t=some (.struct fs)) (hz:Ct P t=some zs) (hp:fs.toList.mapM (λf=>(P.info? f.type).map λi=>(f.offset,i.size))=some places)
  (hm:AW (λp:Nat×Operand=>match places[p.1]?,A7 p.2 with|some q,some x=>some (q.1,q.2,x)|_,_=>none) ps.toList=some qs) (hc:K5 e zs qs=some cs) :
  Bb P N base ρ h w (do pure (.value (<-Instr.build t (ps.map λ(i,x)=>(i,a.eval x))))) (.agg cs) []:=by
 unfold Ct at hz
 cases hi:P.info? t with
 |none=>simp[hi]at hz
 |some i =>
  cases hzz:i.zero with
  |none=>simp[hi,hzz]at hz
  |some z =>
   simp[hi,hzz]at hz;obtain⟨zs0,hz,rfl⟩:=hz;obtain⟨h1,h2⟩:=Zrn (ρ:=ρ) (w:=w) (F:=Free N ρ h) hz;obtain⟨cells',h3,h4,h5⟩:=Z2W hE ps.toList qs _ z.cells hm (Zro h1) h2 cs hc;have hb:P.built t (ps.map λ(i,x)=>(i,a.eval x)).toList=some cells':=by
    unfold Program.built
    simp_all
   exact .same R (by simp[run_build w t _ cells' hb]) (.agg h4 h5)
theorem Z2X{z:Array Value}(hT:A6 w zs z.toList [])(n:Nat):A6 w (List.replicate n zs).flatten (madeCells z (n*z.size)).toList []:=by
 have hl:=hT.length;simp only[Y7]at hl;have e:(madeCells z (n*z.size)).toList=(List.replicate n z.toList).flatten:=by
  induction n with
  |zero=>simp[madeCells,Array.range_zero']
  |succ n ih =>
   rw[List.replicate_succ',Iv,<-ih];apply TB
   .simp[madeCells,EK]
   .intro k h1 h2;simp only[madeCells,EL,Array.toList_range,List.getElem_map,List.getElem_range,OL,List.flatten_nil,E0,List.getElem_append,DL,List.length_range];simp only[madeCells,EL,Array.toList_range,DL,List.length_range,EK,OQ]at h1;split
    .rfl
    .rename_i hk;have hk':k-n*z.size<z.size:=by omega
     have hmod:k % z.size=k-n*z.size:=by
      have:k=(k-n*z.size)+z.size*n:=by rw[Nat.mul_comm z.size n];omega
      conv=>lhs;rw[this]
      rw[Nat.add_mul_mod_self_left,Nat.mod_eq_of_lt hk']
     rw[hmod];simp[hk']
 rw[e];clear e
 induction n with
 |zero=>exact .nil
 |succ n ih =>
  rw[rQ,rQ,OL,OL];exact hT.append ih
theorem Zrv{α β:Type}{f:α->Option β}{xs:List α}{ys:List β}(hm:AW f xs=some ys):ys.length=xs.length:=by
 induction xs generalizing ys with
 |nil=>cases hm;rfl
 |cons x xs ih=>obtain⟨y,zs,_,h2,rfl⟩:=KA hm;simp[ih h2]
theorem Z2Y(R:Rel N base ρ h w)(hE:XO ρ w (Free N ρ h) e a.tmps){sz:Nat}:∀(ps:List (Nat×Operand)) (qs:List (Nat×AX)) (es:WI) (cells:Array Value) (fp:V3) (kz:V3) (fz:Bool),
  AW (λp:Nat×Operand=>(A7 p.2).map λx=>(p.1,x)) ps=some qs->A6 w es.flatten cells.toList fp->(∀x∈es,x.length=sz)->By N base ρ h kz fp fz->
  ∀es' f ks,K6 h e sz es qs=some (es',f,ks)->∃cells' fp',Instr.fill (λi=>some (i*sz,sz)) cells (ps.map λp=>(p.1,a.eval p.2))=some cells'/\A6 w es'.flatten cells'.toList fp'/\
   (∀x∈es',x.length=sz)/\es'.length=es.length/\By N base ρ h (kz++ks) fp' (fz && f)
 |[],qs,es,cells,fp,kz,fz,hm,hc,hl,hT,es',f,ks,hel=>by
  cases hm;simp[K6]at hel;obtain⟨rfl,rfl,rfl⟩:=hel
  exact⟨cells,fp,by simp[Instr.fill],hc,hl,rfl,by simpa using hT⟩
 |(i,x)::ps,qs,es,cells,fp,kz,fz,hm,hc,hl,hT,es',f,ks,hel=>by
  obtain⟨q,TO,hq,TP,rfl⟩:=KA hm;obtain⟨x',hx,rfl⟩:=Yr.1 hq;simp only[K6]at hel;split at hel
  .rename_i vs hvs;split at hel
   .rename_i ts f1 k1 hts;split at hel
    .rename_i hcond;split at hel
     .rename_i es1 f2 k2 hrec;simp at hel;obtain⟨rfl,rfl,rfl⟩:=hel;obtain⟨h2,h3⟩:=IH hvs (Xi hE hx);obtain⟨fq,h4,h5⟩:=Zrr R hts h2;have htl:=Zrs hts;have hgd:es.getD i []=es[i]:=by simp[List.getD,hcond.1]
      rw[hgd]at hrec;have hwl:(wk es[i] ts).length=ts.length:=IJ;replace h4:=TJ (cs:=es[i]) h4;have hl1:=h2.length;have hl2:=hc.length;simp only[Y7]at hl1 hl2;rw[GY hl]at hl2;have hmul:i*sz+sz<=es.length*sz:=by
       have:=EJ sz (show i+1<=es.length from hcond.1)
       rwa [EK,OQ]at this
      obtain⟨Bz,hf,hcl⟩:=Zru (place:=λi=>some (i*sz,sz)) (cells:=cells) (i:=i) (off:=i*sz) (size:=sz) (v:=a.eval x) (rest:=ps.map λp=>(p.1,a.eval p.2)) rfl Z Z;have hcs:es[i]?=some es[i]:=by simp[hcond.1]
      have Aab:es[i].length=sz:=hl _ (Yf _);have hfl:=Z2R (ts:=wk es[i] ts) (off:=0) hcs Z;rw[hfl.1]at hc;obtain⟨fa,fb,fc,hfp,hnew⟩:=hc.splice h4;rw[<-hfl.2]at hnew;have hsT:BK es[i] 0 (wk es[i] ts)=wk es[i] ts:=by simp[BK];omega
      rw[hsT]at hnew;have hAl:((es.take i).flatten++es[i].take 0).length=i*sz:=by
       rw[Yu,GY λy hy=>hl y (DC hy)];simp;rw[GK Z]
      have hBl:((es[i].drop 0).take (wk es[i] ts).length).length=sz:=by simp;omega
      rw[hAl,hBl,<-hcl]at hnew;have hset:∀y∈es.set i (wk es[i] ts),y.length=sz:=by
       intro y hy;rcases Iw hy with hy|hy
       .exact hl y hy
       .subst hy;omega
      have hT':By N base ρ h (kz++k1) (fa++fq++fc) (fz && f1):=by
       have hA:=hT.append R h5;have hmem:∀y,y∈fa++fq++fc->y∈fp++fq:=by
        intro y hy;simp only[Yl]at hy|-;rcases hy with(hy|hy)|hy
        .exact .inl (by rw[hfp];simp[hy])
        .exact .inr hy
        .exact .inl (by rw[hfp];simp[hy])
       refine⟨λy hy=>hA.free y (hmem y hy),λCh y hy=>hA.fresh Ch y (hmem y hy),λCh hn=>?_⟩;have hN:=hA.nodup Ch hn;rw[hfp,EI,EI,EI]at hN;rw[EI,EI];refine⟨⟨hN.1.1.1,hN.2.1,λy hy z hz=>hN.2.2 y (by simp[hy]) z hz⟩,hN.1.2.1,λy hy z hz hyz=>?_⟩;subst hyz;rcases Yl.1 hy with hy|hy
       .exact hN.1.2.2 y (by simp[hy]) y hz rfl
       .exact hN.2.2 y (by simp[hz]) y hy rfl
      obtain⟨cells',fp',h6,h7,h8,h9,h10⟩:=Z2Y R hE ps TO _ Bz _ _ _ TP hnew hset hT' es1 f2 k2 hrec;refine⟨cells',fp',by simp only[Yz];rw[hf];exact h6,h7,h8,by simpa using h9,?_⟩;rw[EX,Bool.and_assoc]at h10;exact h10
     .cases hel
    .cases hel
   .cases hel
  .cases hel
theorem ZEv(R:Rel N base ρ h w)(hE:XO ρ w (Free N ρ h) e a.tmps)(hn:ρ nx=none){n:Nat}{qs:List (Nat×AX)}
  (hu:P.underlying t=some (.slice el)) (hi:P.info? el=some i) (hsmall:n*i.size<=16777216) (hsz:0<i.size) (hz:Cu P el=some zs) (hzl:zs.length=i.size)
  (hm:AW (λp:Nat×Operand=>(A7 p.2).map λx=>(p.1,x)) ps.toList=some qs) {es:WI} {fr:Bool} (hel:K6 h e i.size (List.replicate n zs) qs=some (es,fr,ks)) (hnd:U9 ks=true) :
  Bb P N base ρ h w (do pure (.value (<-Instr.buildSlice t n (ps.map λ(i,x)=>(i,a.eval x))))) (.own nx) (kill ks++[(nx,.arr el i.size fr es)]):=by
 unfold Cu at hz
 cases hzz:i.zero with
 |none=>simp[hi,hzz]at hz
 |some z =>
  simp[hi,hzz]at hz;obtain⟨zs0,hz,rfl⟩:=hz;have hzs:=Zrv hz;rw[IJ]at hzl;simp only[Y7]at hzs;have h0:=Z2X (w:=w) (TJ (cs:=(ID P 8 el).map λs=>.lst s []) (Z2J (w:=w) hz)) n;rw[show z.cells.size=i.size by omega]at h0;obtain⟨cells',fp',h1,h2,h3,h4,h5⟩:=Z2Y R hE ps.toList qs _ (madeCells z.cells (n*i.size)) [] [] true hm h0
   (by intro x hx;rw[List.eq_of_mem_replicate hx,IJ];exact hzl) (By.nil true) es fr ks hel
  simp only[EZ,Yk,List.length_replicate]at h4 h5;have hl2:=h2.length;rw[GY h3]at hl2;simp only[Y7]at hl2;have TQ:Instr.fill (λi_1=>some (i_1*i.size,i.size)) (madeCells z.cells (n*i.size)) (ps.map λ(i,x)=>(i,a.eval x)).toList=some cells':=by
   simp_all
  have hrun:(Instr.buildSlice t n (ps.map λ(i,x)=>(i,a.eval x))).run P w=.ok (.slice (some ⟨w.heap.size,0,none⟩) n n) (w.alloc (.cells cells' el)):=by
   by_cases hn0:n=0
   .subst hn0;have hcells:madeCells z.cells (0*i.size)=#[]:=by simp[madeCells,Array.range_zero']
    rw[hcells]at h1;simp[Instr.buildSlice,run_underlying hu,sizeOf,typeInfo,hi,h1,newRow,Array.range_zero']
   .have:¬n*i.size=0:=by
     grind [Nat.mul_eq_zero]
    exact run_buildSlice w t el n _ cells' i z hu hi hzz Z this TQ
  have hown:(w.alloc (.cells cells' el)).ownsRow base el i.size (.slice (some ⟨w.heap.size,0,none⟩) n n) (0+es.length) ([]++cells'.toList):=by
   rw[h4]at hl2|-;refine⟨by simp;omega,.inr ⟨w.heap.size,n,cells',Om,R.hb,heap_alloc_new w _,Z,?_,Z,?_⟩⟩
   .have:=Nat.le_mul_of_pos_right n hsz;simp only[maxLen];omega
   .simp_all [Ycr]
  have:=TM (P:=P) R hn (s:=(do pure (.value (<-Instr.buildSlice t n (ps.map λ(i,x)=>(i,a.eval x)))))) (vv:=.slice (some ⟨w.heap.size,0,none⟩) n n) (by simp[hrun]) (World.grownBy_alloc w _ none) hsz (es1:=[]) (es2:=es) (xs1:=[]) (xs2:=cells'.toList)
   (fp1:=[]) (fp2:=fp') (fr1:=true) (f:=fr) (kd:=[]) (ks:=ks) hown Om h3 .nil h2 h5 (TK.1 hnd) Om Om Om Om (by intro g hg;cases hg)
   (by intro g hg;simp[Xu]at hg;exact .inl Z) (by intro g k _ _ hx;obtain⟨b,hb,_⟩:=hx;cases hb) (lb:=el) (.inr rfl)
  simpa using this
theorem ZEw(R:Rel N base ρ h w)(hn:ρ nx=none)(hu:P.underlying t=some (.slice el))(hi:P.info? el=some i)(hz:Cu P el=some zs)(hzl:zs.length=i.size)(hsz:0<i.size)
  {kl kc:IntKind} {l c:Int} (h0:0<=l) (hlc:l<=c) (hb:c.toNat*i.bytes<=room) (hc:c<=140737488355328) :
  Bb P N base ρ h w (do pure (.value (<-Instr.makeSlice t (.int kl l) (.int kc c)))) (.own nx) [(nx,.arr el i.size true (List.replicate l.toNat zs))]:=by
 unfold Cu at hz
 cases hzz:i.zero with
 |none=>simp[hi,hzz]at hz
 |some z =>
  simp[hi,hzz]at hz;obtain⟨zs0,hz,rfl⟩:=hz;have hzs:=Zrv hz;rw[IJ]at hzl;simp only[Y7]at hzs;have hbb:(i.bytes:Int)*c<=281474976710656:=by
   have e:c=(c.toNat:Int):=by omega
   rw[e,Int.mul_comm,<-Int.natCast_mul];simp only[room]at hb;omega
  have hrun:=run_make (P:=P) w t el i z hu hi hzz kl kc l c h0 hlc hbb Z;have hT:=Z2X (w:=w) (TJ (cs:=(ID P 8 el).map λs=>.lst s []) (Z2J (w:=w) hz)) l.toNat;rw[show z.cells.size=i.size by omega]at hT;have hle:l.toNat*i.size<=c.toNat*i.size:=EJ _ Z;have htake:(madeCells z.cells (c.toNat*i.size)).toList.take (l.toNat*i.size)=(madeCells z.cells (l.toNat*i.size)).toList:=by
   apply TB
   .rw[Yy,Y7,Y7,size_madeCells,size_madeCells];omega
   .intro k h1 h2;simp[madeCells]
  have hown:(w.alloc (.cells (madeCells z.cells (c.toNat*i.size)) el)).ownsRow base el i.size (.slice (some ⟨w.heap.size,0,none⟩) l.toNat c.toNat) (0+(List.replicate l.toNat (wk ((ID P 8 el).map λs=>T.lst s []) zs0)).length) ([]++(madeCells z.cells (l.toNat*i.size)).toList):=by
   refine⟨by simp[madeCells],.inr ⟨w.heap.size,c.toNat,_,Om,R.hb,heap_alloc_new w _,by simp;omega,by simp only[maxLen];omega,by simp[madeCells],by simpa using htake⟩⟩
  have:=TM (P:=P) R hn (s:=(do pure (.value (<-Instr.makeSlice t (.int kl l) (.int kc c))))) (by simp[hrun]) (World.grownBy_alloc w _ none) hsz (es1:=[]) (es2:=List.replicate l.toNat (wk ((ID P 8 el).map λs=>T.lst s []) zs0)) (xs1:=[]) (xs2:=_)
   (fp1:=[]) (fp2:=[]) (fr1:=true) (f:=true) (kd:=[]) (ks:=[]) hown Om (by intro x hx;rw[List.eq_of_mem_replicate hx,IJ];exact hzl) .nil hT (By.nil _) Y8 Om Om Om Om (by intro g hg;cases hg)
   (by intro g hg;simp[Xu]at hg;exact .inl Z) (by intro g k hk;cases hk) (lb:=el) (.inr rfl)
  simpa[kill]using this
theorem ZEx(R:Rel N base ρ h w)(hn:ρ nx=none){ty:TypeId}{z:Value}(hu:P.underlying t=some (.slice el))(hi:P.info? el=some i)(hz:i.zero=some z)(hzs:z.cells.size=i.size)(hsz:0<i.size)
  {mv:Bool} {x y:AV} {xv yv:Value} (hx:RV ρ w (Free N ρ h) x xv) (hy:RV ρ w (Free N ρ h) y yv) {ys:WI} {f:Bool} (hs:Q0 h i.size mv y=some (ys,f,ks)) (hun:el≠rX) :
  (x=.t .nil->ys.length*i.bytes<=room->ys.length<=room->Bb P N base ρ h w (do pure (.value (<-Builtin.append_ #[t,t] ty #[xv,yv]))) (.own nx) (kill ks++[(nx,.arr el i.size f ys)]))/\
  (∀b fr es,x=.own b->gt h b=.arr el i.size fr es->U9 (b::ks)=true->(es.length+ys.length)*i.bytes<=room->es.length+ys.length<=room->
   Bb P N base ρ h w (do pure (.value (<-Builtin.append_ #[t,t] ty #[xv,yv]))) (.own nx) (kill (b::ks)++[(nx,.arr el i.size (fr && f) (es++ys))])):=by
 obtain⟨b2,c2,news,fp,rfl,hl,hsrc,ht,hlen,hT,hnd,hks⟩:=Fc R hsz hs hy;constructor
 .intro hxn hb1 hb2;subst hxn;cases hx.nil_inv;obtain⟨v',w',row,h1,h2,h3,h4,h5⟩:=Z2U (P:=P) (ty:=ty) hu hi hz hzs (World.ownsRow_nil w base el i.size) hl hsrc ht.one (c2:=c2) (by simp only[room]at hb2;omega) (by simp only[room]at hb1;simpa using hb1) R.hb;have:=TM (P:=P) R hn (s:=(do pure (.value (<-Builtin.append_ #[t,t] ty #[.slice none 0 0,.slice b2 ys.length c2])))) (vv:=v') (by simp[h1]) h3 hsz (es1:=[]) (es2:=ys) (xs1:=[]) (xs2:=news)
   (fp1:=[]) (fp2:=fp) (fr1:=true) (f:=f) (kd:=[]) (ks:=ks) (by simpa using h2) Om hlen .nil ht hT hnd Om Om Om Om
   (by intro g hg;have:=h4 g hg;simp[Xu]at this) (by intro g hg;exact(h5 g hg).imp id λh'=>by simp[Xu]at h') (by intro g k _ _ hx;obtain⟨b,hb,_⟩:=hx;cases hb) (lb:=el) (.inr rfl)
  simpa using this
 .intro b fr es hxb hgb hnb hb1 hb2;subst hxb;rw[TK,TA]at hnb;have hd:gt h b≠.dead:=by rw[hgb];intro hc;cases hc
  obtain⟨r,hr,hB⟩:=R.blk b hd;rw[hgb]at hB;obtain⟨DG,xs,hel,ho,_,hl1,ht1,hf1,Fd⟩:=hB;obtain rfl:DG=el:=hel.resolve_left hun
  cases hx with
  |@own _ r2 hr2 hone =>
   rw[hr]at hr2;cases hr2;obtain⟨v',w',row,h1,h2,h3,h4,h5⟩:=Z2U (P:=P) (ty:=ty) hu hi hz hzs ho hl hsrc ht.one (c2:=c2) (by simp only[room]at hb2;omega) (by simp only[room]at hb1;exact hb1) R.hb;have hfb:fr=true->XG (gt h b)=true:=λhft=>by rw[hgb];exact hft
   have:=TM (P:=P) R hn (s:=(do pure (.value (<-Builtin.append_ #[t,t] ty #[r.v,.slice b2 ys.length c2])))) (vv:=v') (by simp[h1]) h3 hsz (es1:=es) (es2:=ys) (xs1:=xs) (xs2:=news)
    (fp1:=r.fp) (fp2:=fp) (fr1:=fr) (f:=f) (kd:=[b]) (ks:=ks) h2 hl1 hlen ht1 ht hT hnd hf1 Fd
    (by intro hft g hg d rd hdk hrd hfd hgd;exact hdk (by rw[<-R.apart b d r rd g hr hrd (hfb hft) hfd hg hgd];simp))
    (by intro hft g hg k hk rk hrk hfk hgk;exact hnb.1 (by rw[R.apart b k r rk g hr hrk (hfb hft) hfk hg hgk];exact hk))
    (by intro g hg;exact⟨b,Om,r,hr,hd,(h4 g hg)⟩) (by intro g hg;exact(h5 g hg).imp id λh'=>⟨b,Om,r,hr,hd,h'⟩)
    (by
     intro g k hk ho' hx;obtain⟨b',hb',ho2⟩:=hx;simp at hb';subst hb';obtain⟨r1,q1,q2,q3⟩:=ho';obtain⟨r2,q4,q5,q6⟩:=ho2
     exact hnb.1 (by rw[R.inj b' k r2 r1 g q4 q1 q5 q2 q6 q3];exact hk)) (lb:=DG) (.inr rfl)
   simpa using this
end
end Go.AM
