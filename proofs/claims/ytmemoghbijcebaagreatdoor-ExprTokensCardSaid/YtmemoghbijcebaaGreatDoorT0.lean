/-
  The statement ExprTokensCardSaid, proved; part 1 of 11 of its proof.
-/
import Derived.KernelRfl
import Derived.Orders
import Derived.LoopN
import Derived.Laws.Sem
import Derived.Laws.World
import Derived.Laws.AppendOwn
import Derived.Laws.MakeOwn
import Derived.WalkKit
set_option linter.all false
namespace Go.Abs
open Go
def bu {p:Prop}(h:p:=by omega):p:=h
def bw {α:Type}{a b:α}(h:a=b:=by kernel_rfl):a=b:=h
def bE {p:Prop}(h:p:=by simp):p:=h
def b7 {p:Prop}(h:p:=by simp;omega):p:=h
def cf {p:Prop}(h:p:=by decide):p:=h
def dw {p:Prop}(h:p:=by assumption):p:=h
def bP:=@Option.some.injEq
def bI:=@cond_false
def bH:=@cond_true
def bB:=@if_neg
def bC:=@if_pos
def cl:=@decide_eq_false
def co:=@decide_eq_true
def dK:=@List.getElem?_eq_getElem
def mE:=@congrArg
def dY:=@List.drop_eq_getElem_cons
def cE:=@Bool.and_eq_true
def ct:=@Nat.le_refl
def dP:=@List.getElem?_eq_some_iff
def ex:=@Array.getD_eq_getD_getElem?
def dS:=@List.drop_eq_nil_of_le
def dz:=@List.length_cons
def dq:=@Result.andThen_ok
def dA:=@decide_eq_true_eq
def c8:=@Bool.not_false
def cS:=@Bool.not_true
def d6:=@Bool.false_eq_true
def df:=@run_underlying
def ft:=@List.getElem?_cons_zero
def eB:=@List.getElem?_eq_none
def ef:=@List.length_append
def dr:=@List.map_cons
def gi:=@List.getD_eq_getElem?_getD
def fb:=@Nat.eq_of_beq_eq_true
def dB:=@Prod.mk.injEq
def fw:=@List.mem_cons_of_mem
def dk:=@Sem.run_bind
def eH:=@List.cons_append
def d7:=@List.drop_zero
def gK:=@List.getElem?_append_left
def iK:=@List.eq_nil_of_length_eq_zero
def eR:=@List.nil_append
def gL:=@decide_eq_false_iff_not
def gr:=@Nat.le_of_ble_eq_true
def ed:=@List.mem_cons
def fy:=@List.append_nil
def fL:=@List.length_nil
def cQ:=@if_true
def jy:=@List.getElem?_append_right
def du:=@if_false
def fY:=@List.length_drop
def gM:=@List.getElem?_map
def hZ:=@List.append_assoc
def ia:=@Option.getD_some
def gt:=@List.mem_append
def fu:=@Nat.lt_or_ge
def gN:=@Option.map_some
def gO:=@Bool.or_eq_true
def fA:=@Sem.run_pure
def iL:=@Bool.not_eq_true'
def iM:=@Option.some.inj
def fZ:=@Nat.zero_add
def ib:=@List.drop_drop
def j7:=@List.mem_cons_self
def iA:=@List.map_nil
def ic:=@Bool.true_and
def kU:=@List.mem_singleton
def lx:=@List.takeWhile_cons
def sD:=@Array.getElem?_eq_some_iff
def jz:=@heap_alloc_old
def qn:=@Option.map_eq_some_iff
def j8:=@Nat.add_zero
def iN:=@Nat.le_trans
def kV:=@Obj.cells.injEq
def iB:=@decide_true
def md:=@List.getElem_mem
def ot:=@Bool.or_eq_false_iff
def j9:=@Bool.and_self
def ly:=@List.length_map
def sE:=@Array.getElem?_toList
def alr:=@World.frozen?_setCell
def lz:=@heap_alloc_new
def xN:=@List.length_eq_one_iff
def sF:=@of_decide_eq_true
def sG:=@Bool.and_eq_false_iff
def als:=@World.size_alloc
def sH:=@Nat.pow_le_pow_right
def sI:=@Nat.mul_le_mul_right
def uY:=@List.getElem?_set_self
def xO:=@Array.getElem?_eq_getElem
def uZ:=@List.map_append
def sJ:=@List.not_mem_nil
def qo:=@List.length_take
def ov:=@Bool.false_and
def sL:=@Nat.lt_trichotomy
def u0:=@List.getElem?_drop
def u1:=@Nat.lt_of_lt_of_le
def xP:=@List.takeWhile_prefix
def ow:=@Nat.add_mul
def ox:=@Nat.zero_le
def ka:=@and_true
def sM:=@UInt8.toNat.inj
def xQ:=@MapKept.run_checkKey
def oy:=@decide_false
def qp:=@List.any_cons
def qq:=@Bool.false_or
def tW:=@List.drop_succ_cons
def tX:=@MapKept.run_findKey
def tY:=@List.getElem?_range
def q7:=@List.cons.injEq
def xy:=@List.singleton_append
def jW:=@true_and
def Dg:=@Array.getElem?_append_left
def Ut:=@List.size_toArray
def tZ:=@List.flatMap_cons
def xz:=@List.getElem?_set_ne
def ph:=@List.mem_map
def Dh:=@List.getElem?_take_of_lt
def t6:=@List.map_toArray
def pi:=@setRow_other
def xA:=@List.take_succ_cons
def xB:=@List.map_congr_left
def Di:=@List.length_pos_iff
def Dj:=@MapKept.run_getObj_map
def xC:=@not_true_eq_false
def Uu:=@List.take_append_drop
def Uv:=@List.mem_append_right
def q9:=@Nat.beq_refl
def xD:=@List.any_eq_true
def alk:=@Array.replicate_zero
def xE:=@List.all_eq_true
def Dk:=@List.length_dropLast
def pj:=@Nat.blt_eq
def alm:=@Array.replicate_succ
def aln:=@List.getElem?_of_mem
def t7:=@Bool.and_true
def IS:=@Nat.add_assoc
def ra:=@setRow_heap
def alo:=@List.append_toArray
def Dl:=@run_firstCells_some
def Dm:=@List.dropWhile_cons
def Dn:=@run_firstCells_none
def xF:=@List.take_left'
def alp:=@World.cell?_setCell_same'
def IT:=@Classical.byContradiction
def nT:=@and_self
def IU:=@UInt8.toNat_ofNat_of_lt'
def Do:=@List.pairwise_cons
def pk:=@or_false
def t8:=@Nat.sub_self
def ua:=@Nat.sub_zero
def IV:=@List.head_dropWhile_not
def IW:=@List.append_cancel_left
def IX:=@Nat.le_mul_of_pos_right
def IY:=@List.prefix_iff_eq_take
def alq:=@List.push_toArray
def Uw:=@Array.getElem?_eq_none
def IZ:=@List.take_of_length_le
def ub:=@getD_set_ne
def I3:=@List.pairwise_lt_range
def xG:=@Nat.mul_assoc
def Dp:=@List.all_cons
def I4:=@Nat.ble_eq_true_of_le
def I5:=@List.contains_iff_mem
def I6:=@List.getElem?_toArray
def Ux:=@Array.getElem?_setIfInBounds_ne
def I7:=@List.pairwise_append
def xH:=@Bool.or_self
def Dq:=@Nat.zero_mul
def xI:=@Nat.pow_succ
def xJ:=@Nat.mul_comm
def xK:=@Nat.le_of_lt
def Dr:=@List.drop_left'
def af1:=@List.mem_append_left
def I8:=@List.replicate_succ
def I9:=@ByteArray.toList_eq
def Ja:=@Nat.mul_le_mul_left
def pm:=@Iff.rfl
def Uy:=@List.dropLast_concat_getLast
def Ds:=@List.foldr_nil
def xL:=@Nat.le_succ
def Jb:=@grownCap_le_maxLen
def Dt:=@getD_set_true
def Uz:=@List.map_take
def Jc:=@Option.getD_none
def Du:=@List.set_set
def Dv:=@Nat.ne_of_lt
def xM:=@Array.ext
def UA:=@Nat.min_eq_left
def Jd:=@Oper.upon_value
def Je:=@List.length_set
def Dw:=@Int.le_refl
def Dx:=@setRow_self
def Jf:=@UInt8.toNat_lt
def rb:=@not_or
def Jg:=@Bool.and_false
def uc:=@Ne.symm
inductive CV where
 |undef|v (x:Value)|agg (cs:List CV)|sl (xs:List CV)|view (cs:List CV)|ref (lev i off:Nat)|msl (lev i off len:Nat)|clo (f:FuncId) (caps:List CV)|iface (t:TypeId) (x:CV)|mview (ks:List Value) (vs:List CV)|mref (lev i:Nat)|tref (lev i:Nat) (t:TypeId) (n:Nat)
 deriving Inhabited
inductive LV where
 |cv (c:CV)|osl (xs:List CV)|loc (i off:Nat)|lsl (i off len:Nat)|lclo (f:FuncId) (caps:List LV)|ltup (xs:List LV)|mloc (i:Nat)|tloc (i:Nat) (t:TypeId) (n:Nat)|ost (xs:List Value)|stl (n:Nat)
 deriving Inhabited
inductive Ob where
 |cells (cs:List LV)|arr (sz:Nat) (cs:List CV)|dead|map (ks:List Value) (vs:List CV)
 deriving Inhabited
abbrev Lam:=List Ob
abbrev Mu:=List Lam
inductive Out where
 |ret (v:LV) (μ:Mu)|panic (v:CV) (μ:Mu)
abbrev Fr:=Nat->LV
structure S where
 fr:Fr
 lam:Lam
 pushed:Bool
inductive St where
 |norm (s:S) (μ:Mu)|exit (id:Nat) (s:S) (μ:Mu)|ret (s:S) (μ:Mu)|panic (v:CV) (s:S) (μ:Mu)
structure OpHint where
 take:List Nat:=[]
 freeze:List Nat:=[]
 fza:List (Nat×TypeId):=[]
 cell:Bool:=false
 arr:Bool:=false
 outer:Bool:=false
 push:Bool:=false
 own:Bool:=false
 hide:Option Nat:=none
structure Hints where
 ops:List ((Nat×Nat)×OpHint):=[]
 live:List (Nat×List (Nat×Nat)×List (Nat×Nat)):=[]
 cuts:List (Nat×List (Nat×Nat)×List (Nat×Nat)):=[]
 objs:List (Nat×List (Nat×List Nat)):=[]
 res:List (Nat×Nat):=[]
 pan:List (Nat×Nat):=[]
 dfr:Option Nat:=none
 deriving Inhabited
@[reducible] def CV.int (k:IntKind) (n:Int):CV:= .v (.int k n)
@[reducible] def CV.bool (b:Bool):CV:= .v (.bool b)
@[reducible] def CV.str (l:List UInt8):CV:= .v (.string ⟨⟨l⟩⟩)
@[reducible] def LV.int (k:IntKind) (n:Int):LV:= .cv (.v (.int k n))
@[reducible] def LV.bool (b:Bool):LV:= .cv (.v (.bool b))
@[reducible] def LV.str (l:List UInt8):LV:= .cv (.v (.string ⟨⟨l⟩⟩))
@[reducible] def bv (n:Int):LV:= .cv (.v (.int .i64 n))
@[reducible] def bF (n:Int):CV:= .v (.int .i64 n)
def opt {α β:Type}(x:Option α)(k:α->Option β):Option β:=match x with|some a=>k a|none=>none
def bD {β:Type}(b:Bool)(k:Option β):Option β:=cond b k none
def small (n:Nat):Bool:=decide (n<=1099511627776)
def upd (g:Fr)(t:Nat)(v:LV):Fr:=λu=>match Nat.beq u t with|true=>v|false=>g u
def it:List (Nat×LV)->Fr
 |[],_=> .cv .undef|(s,v)::r,t=>match Nat.beq s t with|true=>v|false=>it r t
def jH:List Nat->Nat->Bool
 |[],_=>false|a::r,t=>match Nat.beq a t with|true=>true|false=>jH r t
def strip1:LV->LV
 | .cv c=> .cv c| .osl xs=> .cv (.sl xs)| .loc i off=> .loc i off| .lsl i off len=> .lsl i off len| .lclo f caps=> .lclo f caps| .mloc i=> .mloc i| .tloc i t n=> .tloc i t n| .ost xs=> .stl xs.length| .stl n=> .stl n| .ltup _=> .cv .undef
def strip:LV->LV
 | .cv c=> .cv c| .osl xs=> .cv (.sl xs)| .loc i off=> .loc i off| .lsl i off len=> .lsl i off len| .lclo f caps=> .lclo f caps| .mloc i=> .mloc i| .tloc i t n=> .tloc i t n| .ost xs=> .stl xs.length| .stl n=> .stl n| .ltup xs=> .ltup (xs.map strip1)
@[simp] def vI:LV->Bool
 | .osl _=>true| .ost _=>true|_=>false
def S.set (s:S)(t:Nat)(v:LV):S:={s with fr:=upd s.fr t v}
def S.put (s:S)(dst:Option Nat)(v:LV):S:=match dst with|some t=>s.set t v|none=>s
def bz:List Nat->S->S
 |[],s=>s|t::r,s=>bz r (s.set t (strip (s.fr t)))
def lS:Value->LV
 | .agg cs=> .cv (.agg (cs.toList.map .v))| .tuple cs=> .ltup (cs.toList.map λc=> .cv (.v c))|x=> .cv (.v x)
def evA (h:OpHint)(fr:Fr):Operand->LV
 | .tmp t=>match jH h.take t with|true=>fr t|false=>strip (fr t)
 | .const c=>lS c| .global _=> .cv .undef| .func f=> .cv (.clo f [])
def CV.cells:CV->List CV
 | .agg cs=>cs|c=>[c]
def dJ:CV->Bool
 | .undef=>false| .agg _=>false| .v x=>x.oneCell'|_=>true
def gg:List CV->Bool
 |[]=>true|c::r=>match dJ c with|true=>gg r|false=>false
def jt:CV->Bool
 | .agg cs=>gg cs|c=>dJ c
def LV.cells:LV->Option (List LV)
 | .cv c=>match jt c with|true=>some (c.cells.map .cv)|false=>none
 | .ltup _=>none|x=>some [x]
def bN (k:IntKind):LV->Option Int
 | .cv (.v (.int k' n))=>match decide (k=k')with|true=>some n|false=>none
 |_=>none
def bO:LV->Option Bool
 | .cv (.v (.bool b))=>some b|_=>none
def cg:LV->Option (List UInt8)
 | .cv (.v (.string s))=>some s.data.toList|_=>none
def cj:LV->Option (List CV)
 | .cv (.sl xs)=>some xs| .cv (.v (.slice none 0 0))=>some []| .osl xs=>some xs|_=>none
def iJ:LV->Option (List CV)
 | .osl xs=>some xs| .cv (.v (.slice none 0 0))=>some []|_=>none
def Gz:LV->Option (List Value)
 | .ost xs=>some xs| .cv (.v (.slice none 0 0))=>some []|_=>none
def Cv:List CV->Option (List Value)
 |[]=>some []| .v x::r=>match x.oneCell' with|true=>opt (Cv r) λl=>some (x::l)|false=>none
 |_::_=>none
def cW:LV->Option CV
 | .cv c=>some c| .osl xs=>some (.sl xs)|_=>none
def jZ:LV->Option (List CV)
 | .cv (.agg cs)=>some cs|_=>none
def ci:LV->Option (List LV)
 | .ltup xs=>some xs|_=>none
def bG {α:Type}:List α->Option (α×List α)
 |a::r=>some (a,r)|[]=>none
def bZ {α:Type}:List α->Option Unit
 |[]=>some ()|_::_=>none
def k9 {β:Type}(d:TypeDesc)(c:LV)(k:CV->Option β):Option β:=
 match d with
 | .int ik=>opt (bN ik c) λn=>k (.v (.int ik n))| .bool=>opt (bO c) λb=>k (.v (.bool b))| .string=>opt (cg c) λl=>k (.v (.string ⟨⟨l⟩⟩))| .slice _=>opt (cj c) λxs=>k (.sl xs)|_=>opt (cW c) k
def gG {β:Type}:List TypeDesc->List CV->(List CV->Option β)->Option β
 |[],cs,k=>opt (bZ cs) λ_=>k []|d::ds,cs,k=>opt (bG cs) λq=>k9 d (.cv q.1) λc=>gG ds q.2 λr=>k (c::r)
def GK (P:Program):(depth:Nat)->TypeId->List TypeDesc
 |0,_=>[]|d+1,t=>match P.underlying t with
  |some (.struct fs)=>fs.toList.flatMap λf=>GK P d f.type|some (.array n e)=>(List.replicate n ()).flatMap λ_=>GK P d e|some x=>[x]|none=>[]
def dN (P:Program)(t:TypeId):Bool:=
 match P.underlying t with
 |some (.struct _)=>true|some (.array _ _)=>true|_=>false
def GE (P:Program)(t:TypeId):Bool:=
 match P.underlying t with
 |some (.array n _)=>Nat.ble 20 n|_=>false
def j5 {β:Type}(P:Program)(t:TypeId)(v:LV)(k:CV->Option β):Option β:=
 match dN P t with
 |true=>match GE P t with
  |true=>opt (jZ v) λcs=>k (.agg cs)|false=>opt (jZ v) λcs=>gG (GK P 8 t) cs λcs=>k (.agg cs)
 |false=>match P.underlying t with
  |some d=>k9 d v k|none=>none
def jx {β:Type}(P:Program)(t:TypeId)(c:CV)(k:CV->Option β):Option β:=j5 P t (.cv c) k
def om {β:Type}(P:Program)(own:Bool)(t:TypeId)(v:LV)(k:LV->Option β):Option β:=
 match own with
 |true=>opt (iJ v) λxs=>k (.osl xs)|false=>j5 P t v λc=>k (.cv c)
def i6 {β:Type}(P:Program):List TypeId->List LV->(List LV->Option β)->Option β
 |[],vs,k=>opt (bZ vs) λ_=>k []|t::ts,vs,k=>opt (bG vs) λq=>om P false t q.1 λx=>i6 P ts q.2 λr=>k (x::r)
def fq {β:Type}(P:Program)(own:Bool)(t:TypeId)(v:LV)(k:LV->Option β):Option β:=
 match P.underlying t with
 |some (.tuple ts)=>opt (ci v) λxs=>i6 P ts.toList xs λxs=>k (.ltup xs)|_=>om P own t v k
def uB (op:BinOp)(k:IntKind)(a:Int)(k':IntKind)(b:Int):Option CV:=
 match op with
 | .shl| .shr=>match decide (b<0)with
  |true=>none|false=>match op with
   | .shl=>some (.int k (k.wrap (a*2^(min b.toNat k.bits))))|_=>some (.int k (a.fdiv (2^(min b.toNat k.bits))))
 |_=>match decide (k=k')with
  |false=>none|true=>match op with
   | .add=>some (.int k (k.wrap (a+b)))| .sub=>some (.int k (k.wrap (a-b)))| .mul=>some (.int k (k.wrap (a*b)))| .quo=>match decide (b=0)with|true=>none|false=>some (.int k (k.wrap (a.tdiv b)))
   | .rem=>match decide (b=0)with|true=>none|false=>some (.int k (a.tmod b))
   | .and=>some (.int k (k.wrap (BitVec.ofInt k.bits a &&& BitVec.ofInt k.bits b).toNat))| .or=>some (.int k (k.wrap (BitVec.ofInt k.bits a ||| BitVec.ofInt k.bits b).toNat))| .xor=>some (.int k (k.wrap (BitVec.ofInt k.bits a ^^^ BitVec.ofInt k.bits b).toNat))| .andNot=>some (.int k (k.wrap (BitVec.ofInt k.bits a &&& ~~~BitVec.ofInt k.bits b).toNat))| .eql=>some (.bool (decide (a=b)))| .neq=>some (.bool (!decide (a=b)))| .lss=>some (.bool (decide (a<b)))| .leq=>some (.bool (decide (a<=b)))| .gtr=>some (.bool (decide (b<a)))| .geq=>some (.bool (decide (b<=a)))|_=>none
def Pa (op:BinOp)(a b:List UInt8):Option CV:=
 match op with
 | .add=>match small (a.length+b.length)with|true=>some (.str (a++b))|false=>none
 | .eql=>some (.bool (decide (a=b)))| .neq=>some (.bool (!decide (a=b)))| .lss=>some (.bool (Op.bytesLess a b))| .leq=>some (.bool (Op.bytesLess a b||decide (a=b)))| .gtr=>some (.bool (!(Op.bytesLess a b||decide (a=b))))| .geq=>some (.bool (!Op.bytesLess a b))|_=>none
def L7:CV->CV->Option Bool
 | .v (.int k a),.v (.int k' b)=>match decide (k=k')with|true=>some (decide (a=b))|false=>none
 | .v (.bool a),.v (.bool b)=>some (a == b)| .v (.string a),.v (.string b)=>some (decide (a.data.toList=b.data.toList))|_,_=>none
def wP:List CV->List CV->Option Bool
 |[],[]=>some true|a::as,b::bs=>opt (L7 a b) λx=>opt (wP as bs) λy=>some (x&&y)|_,_=>none
def Ea (P:Program)(t:TypeId):Option (List TypeDesc):=
 match P.underlying t with
 |some (.struct fs)=>
  match (fs.toList.zipIdx.all λq => q.1.offset == q.2 && q.1.name != "_" &&
   (match P.underlying q.1.type with|some (.int _)=>true|some .bool=>true|some .string=>true|_=>false))&& !P.stoodInHeld t&& !P.eqGuardType P.depth t with
  |true=>some (fs.toList.map λf=>(P.underlying f.type).getD .invalid)|false=>none
 |_=>none
def GJ:TypeDesc->CV->Bool
 | .int k,.v (.int k' _)=>decide (k=k')| .bool,.v (.bool _)=>true| .string,.v (.string _)=>true|_,_=>false
def nD:List TypeDesc->List CV->Bool
 |[],[]=>true|d::ds,c::cs=>GJ d c&&nD ds cs|_,_=>false
def lZ:LV->Option Bool
 | .cv (.v (.pointer none))=>some true| .cv (.view _)=>some false| .cv (.ref _ _ _)=>some false| .cv (.clo _ _)=>some false| .cv (.iface _ _)=>some false| .loc _ _=>some false| .lclo _ _=>some false| .tloc _ _ _=>some false| .cv (.tref _ _ _ _)=>some false|_=>none
def mt:CV->CV
 | .tref lev i _ _=> .ref lev i 0|c=>c
def xw:LV->LV
 | .tloc i _ _=> .loc i 0| .cv c=> .cv (mt c)|x=>x
def Bk (typed:Bool)(i:Nat)(t:TypeId)(n:Nat):LV:=match typed with|true=> .tloc i t n|false=> .loc i 0
def uJ:LV->Option Bool
 | .cv (.v (.pointer none))=>some true| .cv (.view _)=>some false| .cv (.ref _ _ _)=>some false| .loc _ _=>some false|_=>none
def KX:LV->Option Bool
 | .cv (.v .nilIface)=>some true| .cv (.iface _ _)=>some false|_=>none
def aec:LV->Option Bool
 | .cv (.v (.slice none 0 0))=>some true| .cv (.sl (_::_))=>some false| .osl (_::_)=>some false|_=>none
def B4 (d:TypeDesc)(c:Value)(a:LV):Option Bool:=
 match d,c with
 | .pointer _,.pointer none=>uJ a| .interface _,.nilIface=>KX a| .slice _,.slice none 0 0=>aec a|_,_=>none
def oW:Operand->Option Value
 | .const c=>some c|_=>none
def yJ (P:Program)(op:BinOp)(t:TypeId)(x y:Operand)(a b:LV):Option CV:=
 match a,b with
 | .cv (.v (.int k m)),.cv (.v (.int k' n))=>uB op k m k' n| .cv (.v (.string m)),.cv (.v (.string n))=>Pa op m.data.toList n.data.toList| .cv (.v (.bool m)),.cv (.v (.bool n))=>match op,P.underlying t with
  | .eql,some .bool=>some (.bool (m == n))| .neq,some .bool=>some (.bool (!(m == n)))|_,_=>none
 | .cv (.agg m),.cv (.agg n)=>
  opt (Ea P t) λds => bD (nD ds m) (bD (nD ds n) (opt (wP m n) λr => match op with
  | .eql=>some (.bool r)| .neq=>some (.bool (!r))
  |_=>none))
 |a,b=>opt (P.underlying t) λd=>
  let go (r:Bool):Option CV:=match op with
   | .eql=>some (.bool r)| .neq=>some (.bool (!r))|_=>none
  match oW y with
  |some c=>opt (B4 d c a) go|none=>opt (oW x) λc=>opt (B4 d c b) go
def Fc (op:BinOp)(k:IntKind)(a:Int)(k':IntKind)(b:Int):Option CV:=
 match op with
 | .shl=>some (.int k (k.wrap (a*2^(min b.toNat k.bits))))| .shr=>some (.int k (a.fdiv (2^(min b.toNat k.bits))))|_=>match decide (k=k')with
  |false=>none|true=>match op with
   | .quo=>some (.int k (k.wrap (a.tdiv b)))| .rem=>some (.int k (a.tmod b))|_=>uB op k a k' b
def IB:Operand->Option Value
 | .const .nilIface=>some .nilIface| .const (.pointer none)=>some (.pointer none)| .const (.slice none 0 0)=>some (.slice none 0 0)|_=>none
def Vn (op:BinOp)(r:Bool):Option CV:=
 match op with
 | .eql=>some (.bool r)| .neq=>some (.bool (!r))|_=>none
def rf (op:BinOp)(a b:LV):Bool:=
 match a,b with
 | .cv (.v (.int _ _)),.cv (.v (.int _ n))=>match op with
  | .quo=> !decide (n=0)| .rem=> !decide (n=0)| .shl=> !decide (n<0)| .shr=> !decide (n<0)|_=>true
 | .cv (.v (.string m)),.cv (.v (.string n))=>match op with
  | .add=>small (m.data.toList.length+n.data.toList.length)|_=>true
 |_,_=>true
def Ge (P:Program)(op:BinOp)(t:TypeId)(x y:Operand)(a b:LV):Option CV:=
 match a,b with
 | .cv (.v (.int k m)),.cv (.v (.int k' n))=>Fc op k m k' n| .cv (.v (.string m)),.cv (.v (.string n))=>match op with
  | .add=>some (.str (m.data.toList++n.data.toList))|_=>Pa op m.data.toList n.data.toList
 |a,b=>yJ P op t x y a b
def Uc (x y:Operand)(a b:LV):Option (Value×LV):=
 match IB y with
 |some c=>some (c,a)|none=>match oW y with
  |some _=>none|none=>match IB x with
   |some c=>some (c,b)|none=>none
def vZ {β:Type}(P:Program)(op:BinOp)(t:TypeId)(x y:Operand)(a b:LV)(f:CV->Option β):Option β:=
 match Uc x y a b with
 |some q=>opt (P.underlying t) λd=>opt (B4 d q.1 q.2) λr=>opt (Vn op r) f|none=>bD (rf op a b) (opt (Ge P op t x y a b) f)
def Zd {op:BinOp}{k k':IntKind}{a b:Int}{c:CV}(hg:rf op (.cv (.v (.int k a))) (.cv (.v (.int k' b)))=true)(h:Fc op k a k' b=some c):uB op k a k' b=some c:=by
 cases op
 case shl=>simp only[rf,iL]at hg;simp only[Fc]at h;simp only[uB,hg];exact h
 case shr=>simp only[rf,iL]at hg;simp only[Fc]at h;simp only[uB,hg];exact h
 case quo=>
  simp only[rf,iL]at hg;simp only[Fc]at h;simp only[uB,hg];exact h
 case rem=>
  simp only[rf,iL]at hg;simp only[Fc]at h;simp only[uB,hg];exact h
 all_goals
  simp only[Fc]at h;split at h
  ·cases h
  ·exact h
def U7 {P:Program}{op:BinOp}{t:TypeId}{x y:Operand}{a b:LV}{c:CV}(hg:rf op a b=true)(h:Ge P op t x y a b=some c):yJ P op t x y a b=some c:=by
 unfold Ge at h;split at h
 ·exact Zd hg h
 ·split at h
  ·simp only[rf]at hg;simp only[yJ,Pa,hg];exact h
  ·exact h
 ·exact h
def G9 {x:Operand}{c:Value}(h:IB x=some c):x= .const c/\(c= .nilIface\/c= .pointer none\/c= .slice none 0 0):=by unfold IB at h;split at h<;>first|(cases h;done)|(simp only[bP]at h;subst h;exact⟨rfl,bE⟩)
def Yb {β:Type}{P:Program}{op:BinOp}{t:TypeId}{x y:Operand}{a b:LV}{f:CV->Option β}{r:β}(hx: ∀v,x= .const v->a=lS v)(hy: ∀v,y= .const v->b=lS v)(h:vZ P op t x y a b f=some r):
 ∃c,yJ P op t x y a b=some c/\f c=some r:=by
 have key: ∀{n:Value} {l:LV},(opt (P.underlying t) λd=>opt (B4 d n l) λr=>opt (Vn op r) f)=some r-> ∃c,(opt (P.underlying t) λd=>opt (B4 d n l) (Vn op))=some c/\f c=some r:=by
  intro n l h;cases hu:P.underlying t with
  |none=>rw[hu]at h;cases h|some d=>
   rw[hu]at h;simp only[opt]at h |-;cases hn:B4 d n l with
   |none=>rw[hn]at h;cases h|some b=>
    rw[hn]at h;simp only at h |-;cases he:Vn op b with|none=>rw[he]at h;cases h|some c=>rw[he]at h;exact⟨c,rfl,h⟩
 unfold vZ Uc at h;cases hny:IB y with
 |some n=>
  rw[hny]at h;obtain⟨rfl,hc⟩:=G9 hny;have hb:=hy n rfl;subst hb;obtain⟨c,h1,h2⟩:=key h;refine⟨c,?_,h2⟩;unfold yJ;split
  ·rename_i e;rcases hc with rfl|rfl|rfl<;>simp[lS]at e
  ·rename_i e;rcases hc with rfl|rfl|rfl<;>simp[lS]at e
  ·rename_i e;rcases hc with rfl|rfl|rfl<;>simp[lS]at e
  ·rename_i e;rcases hc with rfl|rfl|rfl<;>simp[lS]at e
  ·simp only[oW];exact h1
 |none=>
  rw[hny]at h;have plain:bD (rf op a b) (opt (Ge P op t x y a b) f)=some r-> ∃c,yJ P op t x y a b=some c/\f c=some r:=by
   intro h;unfold bD at h;cases hg:rf op a b with
   |false=>rw[hg]at h;cases h|true=>
    rw[hg]at h;simp only[bH]at h;cases hb:Ge P op t x y a b with|none=>rw[hb]at h;cases h|some c=>rw[hb]at h;exact⟨c,U7 hg hb,h⟩
  cases hcy:oW y with
  |some cy=>rw[hcy]at h;exact plain h|none=>
   rw[hcy]at h;cases hnx:IB x with
   |none=>rw[hnx]at h;exact plain h|some n=>
    rw[hnx]at h;obtain⟨rfl,hc⟩:=G9 hnx;have ha:=hx n rfl;subst ha;obtain⟨c,h1,h2⟩:=key h;refine⟨c,?_,h2⟩;unfold yJ;split
    ·rename_i e;rcases hc with rfl|rfl|rfl<;>simp[lS]at e
    ·rename_i e;rcases hc with rfl|rfl|rfl<;>simp[lS]at e
    ·rename_i e;rcases hc with rfl|rfl|rfl<;>simp[lS]at e
    ·rename_i e;rcases hc with rfl|rfl|rfl<;>simp[lS]at e
    ·rw[hcy];simp only[oW,opt];exact h1
def unA (op:UnOp):LV->Option CV
 | .cv (.v (.bool b))=>match op with| .not=>some (.bool (!b))|_=>none
 | .cv (.v (.int k n))=>match op with
  | .neg=>some (.int k (k.wrap (0-n)))| .xor=>some (.int k (k.wrap (BitVec.ofInt k.bits (if k.signed then -1 else k.max) ^^^ BitVec.ofInt k.bits n).toNat))|_=>none
 |_=>none
def Hh (t:Bool)(a b:LV):LV:=
 match a,b with
 | .cv (.v (.bool x)),.cv (.v (.bool y))=> .cv (.v (.bool (cond t x y)))|a,b=>match t with|true=>a|false=>b
def dm (l:List UInt8)(i:Int):Option UInt8:=match decide (0<=i)with|true=>l[i.toNat]? |false=>none
def cT (xs:List CV)(i:Int):Option CV:=match decide (0<=i)with|true=>xs[i.toNat]? |false=>none
def gc {α:Type}(xs:List α)(lo hi:Int):Option (List α):=
 match decide (0<=lo)&&decide (lo<=hi)&&decide (hi<=(xs.length:Int))with
 |true=>some ((xs.drop lo.toNat).take (hi-lo).toNat)|false=>none
def dg:List CV->Option (List UInt8)
 |[]=>some []| .v (.int .u8 n)::r=>match decide (0<=n)&&decide (n<256)with
  |true=>opt (dg r) λl=>some (UInt8.ofNat n.toNat::l)|false=>none
 |_::_=>none
def noB:CV->Bool
 | .v (.int .u8 _)=>false|_=>true
def jw:List CV->Bool
 |[]=>true|y::_=>noB y
def ad6:LV->Option Int
 | .cv (.sl xs)=>some (xs.length:Int)| .cv (.v (.slice none 0 0))=>some 0| .osl xs=>some (xs.length:Int)| .lsl _ _ len=>some (len:Int)| .cv (.msl _ _ _ len)=>some (len:Int)| .stl n=>some (n:Int)|_=>none
def VC (P:Program)(t:TypeId)(x:LV):Option Int:=
 match P.underlying t with
 |some .string=>opt (cg x) λl=>some (l.length:Int)|some (.slice _)=>ad6 x|_=>none
def zeroCells (P:Program)(t:TypeId):Option (List CV):=
 match P.info? t with
 |some i=>match i.zero with
  |some z=>match z with
   | .agg cs=>some (cs.toList.map .v)|x=>some [.v x]
  |none=>none
 |none=>none
def er (P:Program)(t:TypeId):Option Nat:=match P.info? t with|some i=>some i.size|none=>none
def oU (P:Program)(t:TypeId):Bool:=match P.info? t with|some i=>Nat.ble i.bytes 128&&Nat.ble 1 i.size|none=>false
def dG {α:Type}:List α->Nat->List α->List α
 |cs,_,[]=>cs|cs,off,v::r=>dG (cs.set off v) (off+1) r
def pT (place:Nat->Option (Nat×Nat)):List CV->List (Nat×CV)->Option (List CV)
 |cs,[]=>some cs|cs,(i,c)::r=>
  match place i with
  |none=>none|some q=>match Nat.beq c.cells.length q.2&&Nat.ble (q.1+q.2) cs.length with
   |true=>pT place (dG cs q.1 c.cells) r|false=>none
def kW (P:Program):List Field->Option (List (Nat×Nat))
 |[]=>some []|f::r=>opt (er P f.type) λn=>opt (kW P r) λl=>some ((f.offset,n)::l)
def lr (ev:Operand->LV):List (Nat×Operand)->Option (List (Nat×CV))
 |[]=>some []|q::r=>opt (cW (ev q.2)) λc=>bD (jt c) (opt (lr ev r) λl=>some ((q.1,c)::l))
def Gi (P:Program)(t:TypeId)(parts:List (Nat×CV)):Option CV:=
 opt (zeroCells P t) λz=>
 match P.underlying t with
 |some (.struct fs)=>opt (kW P fs.toList) λpl=>opt (pT (λi=>pl[i]?) z parts) λcs=>some (.agg cs)|some (.array _ e)=>opt (er P e) λn=>opt (pT (λi=>some (i*n,n)) z parts) λcs=>some (.agg cs)|_=>none
def BJ (sz:Nat):Nat->List (Nat×CV)->Option (List CV)
 |_,[]=>some []|n,(i,c)::r=>match Nat.beq i n&&Nat.beq c.cells.length sz with
  |true=>opt (BJ sz (n+1) r) λl=>some (c::l)|false=>none
def Cn:LV->Bool
 | .cv c=>dJ c| .ltup _=>false|_=>true
def uv (b:Bool)(x:LV):Option (List LV):=match b with|true=>x.cells|false=>match Cn x with|true=>some [x]|false=>none
def wQ {β:Type}(b:Bool)(x:LV)(k:List LV->Option β):Option β:=match b with|true=>opt x.cells k|false=>bD (Cn x) (k [x])
def uS (b:Bool)(c:CV):Bool:=match b with|true=>jt c|false=>dJ c
def pK (b:Bool)(c:CV):List CV:=match b with|true=>c.cells|false=>[c]
def tz:List CV->List CV
 |[]=>[]| .v (.slice none 0 0)::r=> .sl []::tz r|c::r=>c::tz r
def rj (ag:Nat->Bool)(place:Nat->Option (Nat×Nat))(ev:Operand->LV):List CV->List (Nat×Operand)->Option (List CV)
 |cs,[]=>some cs|cs,q::r=>opt (place q.1) λp=>opt (cW (ev q.2)) λc=>bD (uS (ag q.1) c) (bD (Nat.beq (pK (ag q.1) c).length p.2&&Nat.ble (p.1+p.2) cs.length) (rj ag place ev (dG cs p.1 (pK (ag q.1) c)) r))
def Gu {β:Type}(ag:Nat->Bool)(place:Nat->Option (Nat×Nat))(ev:Operand->LV):List CV->List (Nat×Operand)->(List CV->Option β)->Option β
 |cs,[],k=>k cs|cs,q::r,k=>opt (place q.1) λp=>opt (cW (ev q.2)) λc=>bD (uS (ag q.1) c) (bD (Nat.beq (pK (ag q.1) c).length p.2&&Nat.ble (p.1+p.2) cs.length) (Gu ag place ev (dG cs p.1 (pK (ag q.1) c)) r k))
def KO (P:Program)(t:TypeId):Nat->Bool:=λi=>
 match P.underlying t with
 |some (.struct fs)=>match fs[i]? with|some f=>dN P f.type|none=>false
 |some (.array _ e)=>dN P e|_=>false
def pH (P:Program)(t:TypeId)(ev:Operand->LV)(parts:List (Nat×Operand)):Option CV:=
 opt (zeroCells P t) λz=>
 match P.underlying t with
 |some (.struct fs)=>opt (kW P fs.toList) λpl=>opt (rj (KO P t) (λi=>pl[i]?) ev z parts) λcs=>some (.agg cs)|some (.array _ e)=>opt (er P e) λn=>opt (rj (KO P t) (λi=>some (i*n,n)) ev z parts) λcs=>some (.agg cs)|_=>none
def Gj {β:Type}(P:Program)(t:TypeId)(ev:Operand->LV)(parts:List (Nat×Operand))(k:CV->Option β):Option β:=
 opt (zeroCells P t) λz=>
 match P.underlying t with
 |some (.struct fs)=>opt (kW P fs.toList) λpl=>Gu (KO P t) (λi=>pl[i]?) ev z parts λcs=>k (.agg cs)|some (.array _ e)=>opt (er P e) λn=>Gu (KO P t) (λi=>some (i*n,n)) ev z parts λcs=>k (.agg cs)|_=>none
def sT (b:Bool)(sz:Nat)(ev:Operand->LV):Nat->List (Nat×Operand)->Option (List CV)
 |_,[]=>some []|n,q::r=>opt (cW (ev q.2)) λc=>bD (uS b c) (bD (Nat.beq q.1 n&&Nat.beq (pK b c).length sz) (opt (sT b sz ev (n+1) r) λl=>some (c::l)))
def VK {β:Type}(b:Bool)(sz:Nat)(ev:Operand->LV):Nat->List (Nat×Operand)->(List CV->Option β)->Option β
 |_,[],k=>k []|n,q::r,k=>opt (cW (ev q.2)) λc=>bD (uS b c) (bD (Nat.beq q.1 n&&Nat.beq (pK b c).length sz) (VK b sz ev (n+1) r λl=>k (c::l)))
def qE (P:Program)(s:TypeId)(f:Nat):Option (Nat×TypeId):=
 match P.underlying s with
 |some (.struct fs)=>match fs[f]? with
  |some f=>match er P f.type with
   |some (_+1)=>some (f.offset,f.type)|_=>none
  |none=>none
 |_=>none
def kZ (P:Program)(t:TypeId)(cs:List CV)(off:Nat):Option CV:=
 match dN P t with
 |true=>opt (er P t) λn=>match Nat.ble (off+n) cs.length with
  |true=>some (.agg ((cs.drop off).take n))|false=>none
 |false=>cs[off]?
def nP (P:Program)(t:TypeId)(cs:List CV)(off:Nat):Option CV:=opt (P.underlying t) λ_=>kZ P t cs off
def fJ (sz:Nat)(c:CV):Bool:=Nat.beq c.cells.length sz&&jt c
def gj (sz:Nat):List CV->Bool
 |[]=>true|c::r=>match fJ sz c with|true=>gj sz r|false=>false
def oE:List LV->Option (List CV)
 |[]=>some []|x::r=>opt (cW x) λc=>opt (oE r) λl=>some (c::l)
def ce (μ:Mu)(lev i:Nat):Ob:=
 match μ[lev]? with
 |some l=>match l[i]? with|some o=>o|none=> .dead
 |none=> .dead
def bU (l:Lam)(i:Nat):Ob:=match l[i]? with|some o=>o|none=> .dead
def cx (μ:Mu)(lev i:Nat)(o:Ob):Mu:=
 match μ[lev]? with
 |some l=>μ.set lev (l.set i o)|none=>μ
def tQ (P:Program)(t:TypeId)(o:Ob)(off:Nat):Option LV:=
 match o with
 | .cells cs=>match dN P t with
  |true=>opt (er P t) λn=>match Nat.ble (off+n) cs.length with
   |true=>opt (oE ((cs.drop off).take n)) λl=>some (.cv (.agg l))|false=>none
  |false=>match cs[off]? with
   |some x=>some (strip x)|none=>none
 | .arr _ cs=>opt (kZ P t cs off) λc=>some (.cv c)| .dead=>none| .map _ _=>none
def cw (P:Program)(t:TypeId)(o:Ob)(off:Nat):Option LV:=opt (P.underlying t) λ_=>tQ P t o off
def jl (P:Program)(t:TypeId)(o:Ob)(off:Nat):Option (LV×Ob):=opt (P.underlying t) λ_=>
 match dN P t with
 |true=>none|false=>match o with
  | .cells cs=>match cs[off]? with
   |some x=>some (x,.cells (cs.set off (strip x)))|none=>none
  |_=>none
def dv (P:Program)(t:TypeId)(o:Ob)(off:Nat)(v:LV):Option Ob:=
 match o with
 | .cells cs=>opt (uv (dN P t) v) λvs=>opt (er P t) λn=>match Nat.beq vs.length n&&Nat.ble (off+n) cs.length with
  |true=>some (.cells (dG cs off vs))|false=>none
 | .arr sz cs=>opt (cW v) λc=>opt (er P t) λn=>match fJ n c&&Nat.ble (off+n) cs.length with
  |true=>some (.arr sz (dG cs off c.cells))|false=>none
 | .dead=>none| .map _ _=>none
mutual
def below (n:Nat):CV->Bool
 | .undef=>true| .v _=>true| .agg cs=>dp n cs| .sl cs=>dp n cs| .view cs=>dp n cs| .ref lev _ _=>decide (lev<n)| .msl lev _ _ _=>decide (lev<n)| .clo _ cs=>dp n cs| .iface _ c=>below n c| .mview _ vs=>dp n vs| .mref lev _=>decide (lev<n)| .tref lev _ _ _=>decide (lev<n)
def dp (n:Nat):List CV->Bool
 |[]=>true|c::r=>match below n c with|true=>dp n r|false=>false
end
def IG (lev:Nat):LV->Bool
 | .cv c=>below (lev+1) c| .osl xs=>dp (lev+1) xs|_=>false
def sB (L:Nat):LV->Option CV
 | .cv c=>some c| .osl xs=>some (.sl xs)| .loc i off=>some (.ref L i off)| .lsl i off len=>some (.msl L i off len)| .mloc i=>some (.mref L i)| .tloc i t n=>some (.tref L i t n)|_=>none
def ql (L:Nat):List LV->Option (List CV)
 |[]=>some []|x::r=>opt (sB L x) λc=>opt (ql L r) λl=>some (c::l)
def Dd (L:Nat):LV->Option LV
 | .osl xs=>some (.osl xs)| .lclo f caps=>opt (ql L caps) λcs=>some (.cv (.clo f cs))|x=>opt (sB L x) λc=>some (.cv c)
def k7 (L:Nat):List LV->Option (List LV)
 |[]=>some []|x::r=>opt (Dd L x) λc=>opt (k7 L r) λl=>some (c::l)
def iv (L:Nat):Lam->Option Lam
 |[]=>some []| .dead::r=>opt (iv L r) λl=>some (.dead::l)| .arr sz cs::r=>opt (iv L r) λl=>some (.arr sz cs::l)| .map ks vs::r=>opt (iv L r) λl=>some (.map ks vs::l)| .cells cs::r=>opt (k7 L cs) λcs=>opt (iv L r) λl=>some (.cells cs::l)
def m6:LV->Bool
 | .cv _=>true| .osl _=>true|_=>false
def kM:List LV->Bool
 |[]=>true|x::r=>match m6 x with|true=>kM r|false=>false
def nw:LV->Bool
 | .cv _=>true| .osl _=>true| .ltup xs=>kM xs|_=>false
def rT (n:Nat):LV->Bool
 | .cv c=>below n c| .osl xs=>dp n xs|_=>false
def fj (n:Nat):LV->Bool
 | .ltup xs=>xs.all (rT n)|x=>rT n x
structure Rho where
 call:FuncId->List LV->Mu->Option Out
 loop:Hints->List (Nat×Nat)->Code->S->Mu->Option St
 seg:Hints->List (Nat×Nat)->Code->S->Mu->Option St
 dcall:FuncId->Option CV->List LV->Mu->Option Mu
section
variable (P:Program)(ρ:Rho)
variable {α:Type}
def callK (r:Option Out)(k:LV->Mu->Option α)(p:CV->Mu->Option α):Option α:=
 opt r λ
  | .ret v μ=>k v μ| .panic v μ=>p v μ
def eE (μ:Mu):Option (Mu×Lam):=match μ.reverse with|l::r=>some (r.reverse,l)|[]=>none
def iU:LV->Option (List CV)
 | .cv (.view cs)=>some cs|_=>none
def pU:LV->Option (Nat×Nat×Nat)
 | .cv (.ref lev i off)=>some (lev,i,off)|_=>none
def MV:LV->Option (Nat×Nat×Nat×Nat)
 | .cv (.msl lev i off len)=>some (lev,i,off,len)|_=>none
def pf {β:Type}(P:Program)(b:Bool)(t:TypeId)(v:LV)(k:LV->Option β):Option β:=match b with|true=>fq P false t v k|false=>k v
def ke (h:OpHint)(t:TypeId)(a:LV)(s:S)(μ:Mu)(k:LV->S->Mu->Option α):Option α:=
 match a with
 | .loc i off=>match h.outer with
  |true=>none|false=>match h.cell with
   |false=>opt (cw P t (bU s.lam i) off) λv=>pf P h.arr t v λv=>k v s μ|true=>opt (jl P t (bU s.lam i) off) λq=>k q.1 {s with lam:=s.lam.set i q.2} μ
 | .cv _=>match h.outer with
  |false=>opt (iU a) λcs=>opt (nP P t cs 0) λc=>k (.cv c) s μ|true=>opt (pU a) λq=>match h.cell with
   |false=>opt (cw P t (ce μ q.1 q.2.1) q.2.2) λv=>fq P false t v λv=>k v s μ|true=>opt (jl P t (ce μ q.1 q.2.1) q.2.2) λr=>fq P true t r.1 λv=>k v s (cx μ q.1 q.2.1 r.2)
 |_=>none
def qP (t:TypeId)(o:Ob)(off:Nat)(v:LV)(k:Ob->Option α):Option α:=
 match o with
 | .arr sz cs=>opt (cW v) λc=>opt (er P t) λn=>bD (fJ n c&&Nat.ble (off+n) cs.length) (k (.arr sz (dG cs off c.cells)))| .cells cs=>wQ (dN P t) v λvs=>opt (er P t) λn=>bD (Nat.beq vs.length n&&Nat.ble (off+n) cs.length) (k (.cells (dG cs off vs)))|o=>opt (dv P t o off v) k
def mb (h:OpHint)(t:TypeId)(a v:LV)(s:S)(μ:Mu)(k:LV->S->Mu->Option α):Option α:=
 match a with
 | .loc i off=>match h.outer with
  |true=>none|false=>qP P t (bU s.lam i) off v λo=>k (.cv .undef) {s with lam:=s.lam.set i o} μ
 | .cv _=>match h.outer with
  |false=>none|true=>opt (pU a) λq=>bD (IG q.1 v) (opt (dv P t (ce μ q.1 q.2.1) q.2.2 v) λo=>k (.cv .undef) s (cx μ q.1 q.2.1 o))
 |_=>none
def jE (h:OpHint)(s:TypeId)(a:LV)(f:Nat)(k:LV->Option α):Option α:=
 opt (qE P s f) λq=>match a with
 | .loc i off=>k (.loc i (off+q.1))| .cv _=>match h.outer with
  |false=>opt (iU a) λcs=>gG (GK P 8 s) cs λcs=>bD (Nat.ble q.1 cs.length) (k (.cv (.view (cs.drop q.1))))|true=>opt (pU a) λr=>k (.cv (.ref r.1 r.2.1 (r.2.2+q.1)))
 |_=>none
def MP (s:TypeId)(x:LV)(f:Nat):Option LV:=
 opt (qE P s f) λq=>opt (jZ x) λcs=>opt (nP P q.2 cs q.1) λc=>some (.cv c)
def fo (i:Int)(len:Nat):Bool:=decide (0<=i)&&decide (i<(len:Int))
def pS (b:Bool)(n:Nat)(c:CV)(k:LV->Option α):Option α:=
 match b with
 |true=>bD (Nat.beq c.cells.length n) (k (.cv (.view c.cells)))|false=>bD (dJ c) (bD (Nat.beq 1 n) (k (.cv (.view [c]))))
def jG (h:OpHint)(t:TypeId)(x:LV)(i:Int)(k:LV->Option α):Option α:=
 match P.underlying t with
 |some (.slice e)=>opt (er P e) λn=>match x with
  | .lsl id off len=>bD (fo i len) (k (.loc id (off+i.toNat*n)))| .osl xs=>opt (cT xs i) λc=>jx P e c λc=>pS (dN P e) n c k| .cv _=>match h.outer with
   |false=>opt (cj x) λxs=>opt (cT xs i) λc=>jx P e c λc=>pS (dN P e) n c k|true=>opt (MV x) λq=>bD (fo i q.2.2.2) (k (.cv (.ref q.1 q.2.1 (q.2.2.1+i.toNat*n))))
  |_=>none
 |some (.array len e)=>opt (er P e) λn=>match x with
  | .loc id off=>bD (fo i len) (k (.loc id (off+i.toNat*n)))| .cv _=>match h.outer with
   |false=>opt (iU x) λcs=>bD (fo i len) (bD (Nat.ble (i.toNat*n) cs.length) (k (.cv (.view (cs.drop (i.toNat*n))))))|true=>opt (pU x) λq=>bD (fo i len) (k (.cv (.ref q.1 q.2.1 (q.2.2+i.toNat*n))))
  |_=>none
 |_=>none
def pY (t:TypeId)(x:LV)(i:Int)(k:LV->Option α):Option α:=
 match P.underlying t with
 |some .string=>opt (cg x) λl=>opt (dm l i) λb=>k (.cv (.v (.int .u8 (b.toNat:Int))))|some (.array len e)=>match x with
  | .cv _=>opt (jZ x) λcs=>opt (er P e) λn=>bD (fo i len) (opt (nP P e cs (i.toNat*n)) λc=>jx P e c λc=>k (.cv c))|_=>none
 |_=>none
def pF:LV->Option Int
 | .cv (.v (.int _ n))=>some n|_=>none
def fV (ev:Operand->LV)(x:Option Operand)(d:Int)(k:Int->Option α):Option α:=
 match x with
 |none=>k d|some x=>opt (pF (ev x)) k
def pc (n:Nat)(a:Int)(xs:List CV):Bool:=match decide (a=0)with|true=>true|false=>gj n xs
def l9 (t:TypeId)(x:LV)(lo hi:Option Operand)(ev:Operand->LV)(k:LV->Option α):Option α:=
 match P.underlying t with
 |some .string=>opt (cg x) λl=>fV ev lo 0 λa=>fV ev hi (l.length:Int) λb=>opt (gc l a b) λr=>k (.cv (.v (.string ⟨⟨r⟩⟩)))|some (.slice e)=>opt (er P e) λn=>match x with
  | .cv _=>opt (cj x) λxs=>fV ev lo 0 λa=>fV ev hi (xs.length:Int) λb=>bD (pc n a xs) (opt (gc xs a b) λr=>k (.cv (.sl r)))| .osl xs=>fV ev lo 0 λa=>fV ev hi (xs.length:Int) λb=>bD (pc n a xs) (opt (gc xs a b) λr=>k (.cv (.sl r)))| .lsl id off len=>fV ev lo 0 λa=>fV ev hi (len:Int) λb=>
   bD (decide (a=0)&&decide (0<=b)&&decide (b<=(len:Int))) (k (.lsl id off b.toNat))
  | .ost xs=>fV ev lo 0 λa=>fV ev hi (xs.length:Int) λb=>
   bD (decide (a=0)&&decide (0<=b)&&decide (b<(xs.length:Int))) (k (.ost (xs.take b.toNat)))
  |_=>none
 |_=>none
def lY (isAgg:Bool)(sz:Nat):Nat->List CV->List CV
 |0,_=>[]|n+1,cs=>(match isAgg with|false=>cs.headD .undef|true=> .agg (cs.take sz))::lY isAgg sz n (cs.drop sz)
def eq (sz:Nat)(xs ys:List CV):Bool:=small (xs.length+ys.length)&&gj sz xs&&gj sz ys
def nr (h:OpHint)(t:TypeId)(xt:Option TypeId)(x y:LV)(s:S)(μ:Mu)(k:LV->S->Mu->Option α):Option α:=
 match P.underlying t with
 | some (.slice e) => opt (er P e) λsz => bD (oU P e) (opt (zeroCells P e) λz => bD (Nat.beq z.length sz) (match xt with
  |none=>none|some xt=>match h.own with
  |true=>opt (Gz x) λxs=>match P.underlying xt with
   |some (.slice _)=>opt (cj y) λys=>opt (Cv ys) λvs=>bD (Nat.beq sz 1&&small (xs.length+vs.length)) (k (.ost (xs++vs)) s μ)|_=>none
  |false=>opt (iJ x) λxs=>match P.underlying xt with
   |some .string=>opt (cg y) λl=>bD (Nat.beq e 5&&(Nat.beq sz 1&&small (xs.length+l.length)&&gj 1 xs)) (k (.osl (xs++l.map λb=> .v (.int .u8 (b.toNat:Int)))) s μ)|some (.slice _)=>opt (cj y) λys=>bD ((Nat.beq e 5||jw ys)&&eq sz xs ys) (k (.osl (xs++ys)) s μ)
   |_=>none))
 |_=>none
def gb (h:OpHint)(src dst:TypeId)(x:LV)(s:S)(μ:Mu)(k:LV->S->Mu->Option α):Option α:=
 match P.underlying dst with
 |some (.int ik)=>match P.underlying src with
  |some (.int _)=>opt (pF x) λn=>k (.cv (.v (.int ik (ik.wrap n)))) s μ|_=>none
 |some .string=>match P.underlying src with
  |some .string=>opt (cg x) λl=>k (.cv (.v (.string ⟨⟨l⟩⟩))) s μ|some (.slice e)=>match P.underlying e with
   |some (.int .u8)=>match x with
    | .lsl id off len=>match bU s.lam id with
     | .arr _ cs=>bD (Nat.ble (off+len) cs.length) (opt (dg ((cs.drop off).take len)) λl=>k (.cv (.v (.string ⟨⟨l⟩⟩))) s μ)|_=>none
    |_=>opt (cj x) λxs=>opt (dg xs) λl=>k (.cv (.v (.string ⟨⟨l⟩⟩))) s μ
   |_=>none
  |_=>none
 |some (.slice e)=>match P.underlying src with
  |some .string=>match P.underlying e with
   | some (.int .u8) => opt (cg x) λl => bD (small l.length) (match h.arr with
    |true=>k (.lsl s.lam.length 0 l.length) {s with lam:=s.lam++[.arr 1 (l.map λb=> .v (.int .u8 (b.toNat:Int)))]} μ
    |false=>k (.cv (.sl (l.map λb=> .v (.int .u8 (b.toNat:Int))))) s μ)
   |_=>none
  |_=>none
 |_=>none
def Io (t:Nat)(s:S):Option S:=
 match s.fr t with
 | .loc i off=>match decide (off=0)with
  |true=>match bU s.lam i with
   | .cells cs=>opt (oE cs) λl=>some {s with fr:=upd s.fr t (.cv (.view (tz l))),lam:=s.lam.set i .dead}|_=>none
  |false=>none
 | .mloc i=>match bU s.lam i with
  | .map ks vs=>some {s with fr:=upd s.fr t (.cv (.mview ks vs)),lam:=s.lam.set i .dead}|_=>none
 | .ost xs=>some {s with fr:=upd s.fr t (.cv (.sl (xs.map .v)))}|_=>none
def wW:List Nat->S->Option S
 |[],s=>some s|t::r,s=>opt (Io t s) λs=>wW r s
def o3 (t:Nat)(e:TypeId)(s:S):Option S:=
 match s.fr t with
 | .lsl i off len=>match decide (off=0)with
  |true=>match bU s.lam i with
   | .arr sz cs=>opt (er P e) λn=>bD (Nat.beq sz n) (bD ((dN P e||(Nat.beq n 1&&gg cs))&&Nat.ble (len*n) cs.length) (some {s with fr:=upd s.fr t (.cv (.sl (lY (dN P e) n len cs))),lam:=s.lam.set i .dead}))|_=>none
  |false=>none
 |_=>none
def ny:List (Nat×TypeId)->S->Option S
 |[],s=>some s|q::r,s=>opt (o3 P q.1 q.2 s) λs=>ny r s
def yS {β:Type}(t:Nat)(e:TypeId)(s:S)(k:S->Option β):Option β:=
 match s.fr t with
 | .lsl i off len=>match decide (off=0)with
  |true=>match bU s.lam i with
   | .arr sz cs=>opt (er P e) λn=>bD (Nat.beq sz n) (bD ((dN P e||(Nat.beq n 1&&gg cs))&&Nat.ble (len*n) cs.length) (k {s with fr:=upd s.fr t (.cv (.sl (lY (dN P e) n len cs))),lam:=s.lam.set i .dead}))|_=>none
  |false=>none
 |_=>none
def rl {β:Type}:List (Nat×TypeId)->S->(S->Option β)->Option β
 |[],s,k=>k s|q::r,s,k=>yS P q.1 q.2 s λs=>rl r s k
def Kx {β:Type}{t:Nat}{e:TypeId}{s:S}{k:S->Option β}:yS P t e s k=opt (o3 P t e s) k:=by
 unfold yS o3;cases s.fr t<;>try rfl
 dsimp only;split
 ·split
  ·cases er P e with
   |none=>rfl|some n=>
    dsimp only[opt];cases Nat.beq _ n
    ·rfl
    ·dsimp only[bD,bH];generalize((dN P e||(Nat.beq n 1&&gg _))&&Nat.ble (_*n) _)=b;cases b<;>rfl
  ·rfl
 ·rfl
def qF {β:Type}: ∀{l:List (Nat×TypeId)} {s:S} {k:S->Option β},rl P l s k=opt (ny P l s) k
 |[],s,k=>rfl|q::r,s,k=>by
  simp only[rl,ny,Kx];cases o3 P q.1 q.2 s with|none=>rfl|some s1=>exact qF
def optE {α β:Type}(x:Option α)(f:α->Option β)(g:Option β):Option β:=match x with|some a=>f a|none=>g
def Vz (d:TypeDesc)(v:LV):Option Value:=
 match d with
 | .int k=>opt (bN k v) λn=>some (.int k n)| .string=>opt (cg v) λl=>some (.string ⟨⟨l⟩⟩)| .bool=>opt (bO v) λb=>some (.bool b)|_=>none
def M0:TypeDesc->Value->Bool
 | .bool,.bool _=>true| .int k,.int k' _=>decide (k'=k)| .string,.string _=>true|_,_=>false
def p3 (d:TypeDesc):List Value->Bool
 |[]=>true|x::r=>match M0 d x with|true=>p3 d r|false=>false
def CZ:Value->Value->Bool
 | .int _ a,.int _ b=>decide (a=b)| .string a,.string b=>decide (a.data.toList=b.data.toList)| .bool a,.bool b=>a == b|_,_=>false
def pZ:List Value->Value->Option Nat
 |[],_=>none|x::r,k=>match CZ k x with|true=>some 0|false=>opt (pZ r k) λn=>some (n+1)
def lq:List Value->List CV->Value->Option CV
 |x::ks,c::vs,k=>match CZ k x with|true=>some c|false=>lq ks vs k
 |_,_,_=>none
def qI (ks:List Value)(k:Value):List Value:=match pZ ks k with|some _=>ks|none=>ks++[k]
def qJ (ks:List Value)(vs:List CV)(k:Value)(c:CV):List CV:=match pZ ks k with|some i=>vs.set i c|none=>vs++[c]
def HF (P:Program)(t:TypeId):Option CV:=
 match P.info? t with
 |some i=>match i.zero with
  |some z=>match z with
   | .agg cs=>some (.agg (cs.toList.map .v))|x=>some (.v x)
  |none=>none
 |none=>none
def KT (P:Program)(t:TypeId):Option (TypeDesc×TypeId):=
 match P.underlying t with
 |some (.map k e)=>opt (P.underlying k) λd=>some (d,e)|_=>none
def mj (t:TypeId)(m x y:LV)(s:S)(μ:Mu)(k:LV->S->Mu->Option α):Option α:=
 opt (KT P t) λq=>opt (Vz q.1 x) λkv=>opt (cW y) λc=>match m with
  | .mloc i=>match bU s.lam i with
   | .map ks vs=>bD (p3 q.1 ks) (k (.cv .undef) {s with lam:=s.lam.set i (.map (qI ks kv) (qJ ks vs kv c))} μ)|_=>none
  | .cv (.mref lev i)=>match ce μ lev i with
   | .map ks vs=>bD (p3 q.1 ks&&below (lev+1) c) (k (.cv .undef) s (cx μ lev i (.map (qI ks kv) (qJ ks vs kv c))))|_=>none
  |_=>none
def C1 (m:LV)(s:S)(μ:Mu):Option (List Value×List CV):=
 match m with
 | .cv (.mview ks vs)=>some (ks,vs)| .cv (.v (.map none))=>some ([],[])| .mloc i=>match bU s.lam i with| .map ks vs=>some (ks,vs)|_=>none
 | .cv (.mref lev i)=>match ce μ lev i with| .map ks vs=>some (ks,vs)|_=>none
 |_=>none
def nE (t:TypeId)(m x:LV)(ok:Bool)(s:S)(μ:Mu)(k:LV->Option α):Option α:=
 opt (KT P t) λq => opt (Vz q.1 x) λkv => opt (C1 m s μ) λp => bD (p3 q.1 p.1) (
  optE (lq p.1 p.2 kv)
   (λc=>jx P q.2 c λc=>match ok with|true=>k (.ltup [.cv c,.cv (.v (.bool true))])|false=>k (.cv c))
   (opt (HF P q.2) λz=>match ok with|true=>k (.ltup [.cv z,.cv (.v (.bool false))])|false=>k (.cv z)))
def nt (x:LV)(t:TypeId)(ok:Bool)(k:LV->Option α):Option α:=
 match P.underlying t with
 |some (.interface _)=>none|some _=>match ok with
  |false=>none|true=>opt (HF P t) λz=>match x with
   | .cv (.iface u c)=>match Nat.beq u t with
    |true=>k (.ltup [.cv c,.cv (.v (.bool true))])|false=>k (.ltup [.cv z,.cv (.v (.bool false))])
   | .cv (.v .nilIface)=>k (.ltup [.cv z,.cv (.v (.bool false))])|_=>none
 |none=>none
def io (h:OpHint)(t:TypeId)(f:FuncId)(args:List LV)(s:S)(μ:Mu)(k:LV->S->Mu->Option α)(p:CV->S->Mu->Option α):Option α:=
 match h.push with
 | false => bD (!s.pushed && kM args) (
  callK (ρ.call f args μ) (λv μ=>fq P h.own t v λv=>k v s μ) (λv μ=>p v s μ))
 |true=>opt (k7 μ.length args) λargs=>opt (iv μ.length s.lam) λl=>
  callK (ρ.call f args (μ++[l])) (λv μ=>opt (eE μ) λq=>fq P h.own t v λv=>k v {s with lam:=q.2,pushed:=true} q.1)
   (λv μ=>opt (eE μ) λq=>p v {s with lam:=q.2,pushed:=true} q.1)
def Fi (t:Nat):List Operand->Bool
 |[]=>false| .tmp u::r=>match Nat.beq u t with|true=>true|false=>Fi t r
 |_::r=>Fi t r
def kF:List Operand->Bool
 |[]=>true| .tmp t::r=>match Fi t r with|true=>false|false=>kF r
 |_::r=>kF r
def IM:Operand->Operand->Bool
 | .tmp a,.tmp b=>Nat.beq a b|_,_=>false
def uO {α:Type}(n:Nat)(z:List α):List α:=(List.replicate n z).flatten
def GU (t:TypeId)(l:LV)(s:S)(μ:Mu)(k:LV->S->Mu->Option α):Option α:=
 match P.underlying t with
 | some (.slice e) => opt (er P e) λsz => bD (oU P e) (opt (zeroCells P e) λz => bD (Nat.beq z.length sz) (opt (pF l) λn => bD (decide (0 <= n) && decide (n <= 1000000000)) (
  k (.lsl s.lam.length 0 n.toNat) {s with lam:=s.lam++[.arr sz (uO n.toNat z)]} μ)))
 |_=>none
def Gp (t:TypeId)(x y:LV)(s:S)(μ:Mu)(k:LV->S->Mu->Option α):Option α:=
 match P.underlying t with
 |some (.slice e)=>opt (er P e) λsz=>match x with
  | .lsl i off len=>match bU s.lam i with
   | .arr z cs => bD (Nat.beq z sz) (opt (cj y) λys => bD (gj sz ys && (Nat.ble ys.length len && Nat.ble (off + ys.length * sz) cs.length)) (
    k (.cv (.v (.int .i64 (ys.length:Int)))) {s with lam:=s.lam.set i (.arr z (dG cs off (ys.flatMap CV.cells)))} μ))
   |_=>none
  |_=>none
 |_=>none
def ep (h:OpHint)(o:Oper)(s0:S)(μ:Mu)(k:LV->S->Mu->Option α)(p:CV->S->Mu->Option α):Option α:=
 let ev:=evA h s0.fr;let s:=bz h.take s0
 match o.op with
 | .move x=>k (ev x) s μ| .assign x=>k (ev x) s μ| .pick c a b=>opt (bO (ev c)) λt=>k (Hh t (ev a) (ev b)) s μ| .alloc e=>opt (zeroCells P e) λcs=>k (Bk h.cell s.lam.length e cs.length) {s with lam:=s.lam++[.cells (cs.map .cv)]} μ| .box e x=>match h.cell with
  |false=>wQ (dN P e) (ev x) λcs=>k (.loc s.lam.length 0) {s with lam:=s.lam++[.cells cs]} μ|true=>opt (cW (ev x)) λc=>bD (uS (dN P e) c) (k (.cv (.view (tz (pK (dN P e) c)))) s μ)
 | .build t parts=>Gj P t ev parts.toList λc=>k (.cv c) s μ| .buildSlice t len parts=>match P.underlying t with
  | some (.slice e) => opt (er P e) λsz => bD (oU P e) (opt (zeroCells P e) λ_ => VK (dN P e) sz ev 0 parts.toList λxs =>
   bD (Nat.beq xs.length len) (bD ((Nat.beq e 5 || jw xs) && Nat.ble (len * sz) 10000) (match h.arr with
   |false=>k (.osl xs) s μ
   |true=>k (.lsl s.lam.length 0 len) {s with lam:=s.lam++[.arr sz (xs.flatMap CV.cells)]} μ)))
  |_=>none
 | .load t a=>ke P h t (ev a) s μ k| .store t a v=>mb P h t (ev a) (ev v) s μ k| .nilCheck x=>opt (lZ (ev x)) λb=>bD (!b) (k (xw (ev x)) s μ)| .binOp op t x y _=>vZ P op t x y (ev x) (ev y) λc=>k (.cv c) s μ| .unOp op _ x=>opt (unA op (ev x)) λc=>k (.cv c) s μ| .convert src dst x=>gb P h src dst (ev x) s μ k| .makeInterface t x=>match P.underlying t with
  |some (.interface _)=>none|some _=>opt (cW (ev x)) λc=>k (.cv (.iface t c)) s μ|none=>none
 | .makeFunc fn first captured=>match fn with
  | .func f=>match first.toList with
   |[]=>k (.lclo f (captured.toList.map λx=>strip1 (ev x))) s μ|_::_=>none
  |_=>none
 | .slice t x lo hi mx=>match mx with
  |none=>l9 P t (ev x) lo hi ev λv=>k v s μ|some _=>none
 | .fieldAddr t x f=>jE P h t (ev x) f λv=>k v s μ| .field t x f=>opt (MP P t (ev x) f) λv=>k v s μ| .indexAddr t x i=>opt (pF (ev i)) λi=>jG P h t (ev x) i λv=>k v s μ| .index t x i=>opt (pF (ev i)) λi=>pY P t (ev x) i λv=>k v s μ| .extract t i=>opt (ci (ev t)) λxs=>opt (xs[i]?) λv=>k v s μ| .panic x=>match ev x with
  | .cv (.iface t c)=>p (.iface t c) s μ|_=>none
 | .typeAssert x _ t ok=>nt P (ev x) t ok λv=>k v s μ| .makeMap _ r=>match r with
  |some _=>none|none=>k (.mloc s.lam.length) {s with lam:=s.lam++[.map [] []]} μ
 | .makeSlice t l c=>match IM l c with
  |true=>GU P t (ev l) s μ k|false=>none
 | .insert t m x y=>mj P t (ev m) (ev x) (ev y) s μ k| .mapUpdate t m x y=>mj P t (ev m) (ev x) (ev y) s μ k| .lookup t m x ok=>nE P t (ev m) (ev x) ok s μ λv=>k v s μ| .call c=>match c.callee with
  | .builtin b=>match b with
   | .len=>match c.args.toList,c.argTypes.toList with
    |[x],[t]=>opt (VC P t (ev x)) λn=>k (.cv (.v (.int .i64 n))) s μ|_,_=>none
   | .append=>match c.args.toList,c.argTypes.toList with
    |[x,y],[t,xt]=>nr P h t (some xt) (ev x) (ev y) s μ k|_,_=>none
   | .copy=>match c.args.toList,c.argTypes.toList with
    |[x,y],[t,_]=>Gp P t (ev x) (ev y) s μ k|_,_=>none
   | .max=>match c.args.toList with
    |[x,y]=>opt (bN .i64 (ev x)) λa=>opt (bN .i64 (ev y)) λb=>k (.cv (.v (.int .i64 (max a b)))) s μ|_=>none
   | .min=>match c.args.toList with
    |[x,y]=>opt (bN .i64 (ev x)) λa=>opt (bN .i64 (ev y)) λb=>k (.cv (.v (.int .i64 (min a b)))) s μ|_=>none
   |_=>none
  | .value f => bD (kF c.args.toList) (match ev f with
   | .cv (.clo f caps)=>io P ρ h o.type f (c.args.toList.map ev++caps.map .cv) s μ k p| .lclo f caps=>io P ρ h o.type f (c.args.toList.map ev++caps) s μ k p
   |_=>none)
  | .invoke _ _=>none
 |_=>none
inductive Pl where
 |own (i:Nat)|out (lev i:Nat)
def lp:Ob->Bool
 | .dead=>false|_=>true
def BA (μ:Mu)(lev i:Nat):Bool:=match μ[lev]? with|some l=>Nat.blt i l.length|none=>false
def iq {β:Type}(t:Nat)(s:S)(μ:Mu)(k:Pl->Ob->S->Mu->Option β):Option β:=
 match s.fr t with
 | .loc i _=>match s.pushed with
  |true=>bD (lp (bU s.lam i)) (k (.own i) (bU s.lam i) {s with lam:=s.lam.set i .dead} μ)|false=>none
 | .cv c=>opt (pU (.cv c)) λq=>bD (lp (ce μ q.1 q.2.1)) (k (.out q.1 q.2.1) (ce μ q.1 q.2.1) s (cx μ q.1 q.2.1 .dead))|_=>none
def jL {β:Type}(p:Pl)(ob:Ob)(s:S)(μ:Mu)(k:S->Mu->Option β):Option β:=
 match p with
 | .own i=>bD (Nat.blt i s.lam.length&& !lp (bU s.lam i)) (k {s with lam:=s.lam.set i ob} μ)| .out lev i=>bD (BA μ lev i&& !lp (ce μ lev i)) (k s (cx μ lev i ob))
def qd (h:OpHint)(o:Oper)(s:S)(μ:Mu)(k:LV->S->Mu->Option α)(p:CV->S->Mu->Option α):Option α:=
 match h.hide with
 |none=>ep P ρ h o s μ k p|some t=>iq t s μ λpl ob s μ=>ep P ρ h o s μ (λv s μ=>jL pl ob s μ λs μ=>k v s μ) p
def opK (h:OpHint)(o:Oper)(s:S)(μ:Mu)(k:LV->S->Mu->Option α)(p:CV->S->Mu->Option α):Option α:=
 opt (wW h.freeze s) λs=>rl P h.fza s λs=>qd P ρ h o s μ k p
def Zb (r i:Nat):List ((Nat×Nat)×OpHint)->OpHint
 |[]=>{}|q::l=>match Nat.beq q.1.1 r&&Nat.beq q.1.2 i with|true=>q.2|false=>Zb r i l
def Hints.op (H:Hints)(r i:Nat):OpHint:=Zb r i H.ops
def tr (ops:Array Oper)(j:Nat):Option Nat:=match ops[j]? with|some o=>o.dst|none=>none
def ip:LV->Option (Option Bool)
 | .cv (.v (.bool b))=>some (some b)| .cv (.v (.tuple _))=>some none|_=>none
def gY (H:Hints)(r:Nat)(ops:Array Oper):List Nat->S->Mu->(S->Mu->Option α)->(CV->S->Mu->Option α)->Option α
 |[],s,μ,k,_=>k s μ|i::rest,s,μ,k,p=>match ops[i]? with
  |none=>none|some o=>match o.guard with
   |none=>opK P ρ (H.op r i) o s μ (λv s μ=>gY H r ops rest (s.put o.dst v) μ k p) p|some g=>opt (tr ops g.1) λd=>opt (ip (s.fr d)) λq=>match q with
    |none=>gY H r ops rest (s.put o.dst (.cv (.v Go.undef))) μ k p|some b=>cond b
     (match g.2 with
     |true=>opK P ρ (H.op r i) o (s.set d (.cv (.v (.bool true)))) μ (λv s μ=>gY H r ops rest (s.put o.dst v) μ k p) p
     |false=>gY H r ops rest ((s.set d (.cv (.v (.bool true)))).put o.dst (.cv (.v Go.undef))) μ k p)
     (match g.2 with
     |false=>opK P ρ (H.op r i) o (s.set d (.cv (.v (.bool false)))) μ (λv s μ=>gY H r ops rest (s.put o.dst v) μ k p) p
     |true=>gY H r ops rest ((s.set d (.cv (.v (.bool false)))).put o.dst (.cv (.v Go.undef))) μ k p)
inductive Kind where
 |plain|rd|tk|wr|ap|look|tku|ou|all
def cL (h:OpHint)(o:Oper):Kind:=
 match o.op with
 | .load _ _=>match h.outer with
  |true=>match h.cell with|true=> .tku|false=> .look
  |false=>match h.cell with|true=> .tk|false=> .rd
 | .store _ _ _=>match h.outer with|true=> .ou|false=> .wr
 | .alloc _=> .ap| .box _ _=>match h.cell with|true=> .plain|false=> .ap
 | .buildSlice _ _ _=>match h.arr with|true=> .ap|false=> .plain
 | .convert _ _ _=>match h.arr with|true=> .all|false=> .rd
 | .call c=>match c.callee with
  | .builtin b=>match b with| .copy=> .all|_=> .plain
  |_=>match h.push with|true=> .all|false=> .ou
 | .panic _=> .all| .typeAssert _ _ _ _=> .all| .makeMap _ _=> .all| .makeSlice _ _ _=> .all| .insert _ _ _ _=> .all| .mapUpdate _ _ _ _=> .all| .lookup _ _ _ _=> .all|_=> .plain
def gX:Kind->Kind->Bool
 | .all,_=>false|_,.all=>false| .plain,_=>true|_,.plain=>true| .rd,.rd=>true| .rd,.tk=>true| .tk,.rd=>true| .tk,.ou=>true| .ou,.tk=>true| .tk,.look=>true| .look,.tk=>true| .rd,.ap=>true| .rd,.ou=>true| .ou,.rd=>true| .wr,.ou=>true| .ou,.wr=>true| .ap,.ou=>true| .ou,.ap=>true| .look,.look=>true| .look,.tku=>true| .tku,.look=>true| .tku,.rd=>true| .rd,.tku=>true| .tku,.tk=>true| .tk,.tku=>true| .tku,.wr=>true| .wr,.tku=>true| .tku,.ap=>true| .ap,.tku=>true| .look,.rd=>true| .rd,.look=>true| .look,.wr=>true| .wr,.look=>true| .look,.ap=>true| .ap,.look=>true|_,_=>false
def iW (h:OpHint):Bool:=match h.freeze,h.fza with|[],[]=>true|_,_=>false
def eF (h:OpHint)(o:Oper):List Nat:=match o.dst with|some d=>d::h.take|none=>h.take
def nX:List Nat->List Nat->Bool
 |[],_=>true|a::r,l=>match jH l a with|true=>false|false=>nX r l
def sS (o:Oper):List Nat:=match o.dst with|some d=>[d]|none=>[]
def fW (h:OpHint)(o:Oper):Kind:=match h.hide with|none=>cL h o|some _=> .all
def Dc (h:OpHint)(o:Oper)(t:Nat):Bool:=
 match o.guard,o.op with
 |none,.load _ (.tmp u)=>Nat.beq u t&&h.cell&&match h.hide with|none=>true|some _=>false
 |_,_=>false
def pV (hx:OpHint)(x:Oper)(hy:OpHint)(y:Oper):Bool:=
 match hy.hide,y.guard,y.op with
 |some t,none,.call c=>match c.callee with
  | .value _=>Dc hx x t&& !jH (eF hx x) t&& !jH (eF hy y) t|_=>false
 |_,_,_=>false
def vH (H:Hints)(r:Nat)(ops:Array Oper)(j i:Nat):Bool:=
 match ops[j]?,ops[i]? with
 |some x,some y=>nX (sS x) (y.looksAt ops)&&nX (eF (H.op r j) x) (eF (H.op r i) y)&&nX (sS y) (x.looksAt ops)&&
  (gX (fW (H.op r j) x) (fW (H.op r i) y)||pV (H.op r j) x (H.op r i) y)
 |_,_=>false
def mm (ops:Array Oper)(i:Nat):List Nat:=
 match ops[i]? with
 |some o=>(o.after.toList.filter (Region.binds .any)).map λe=>e.on|none=>[]
def Ho (rows:List (List Nat)):List Nat->List Nat
 |[]=>[]|p::r=>p::(rows.getD p []++Ho rows r)
def f7 (ops:Array Oper):Nat->List (List Nat)
 |0=>[]|n+1=>f7 ops n++[Ho (f7 ops n) (mm ops n)]
def H1 (f:Nat->Bool):Nat->Bool
 |0=>true|n+1=>match f n with|true=>H1 f n|false=>false
def ltB (i:Nat):List Nat->Bool
 |[]=>true|p::r=>match Nat.blt p i with|true=>ltB i r|false=>false
def lR (o:Oper):Bool:=match o.op with
 | .call c=>match c.callee with| .value _=>true|_=>false
 | .panic _=>true|_=>false
def xf:Kind->Bool
 | .plain=>true| .rd=>true|_=>false
def qG (o:Oper):Bool:=match o.op with
 | .call c=>match c.callee with| .value _=>true|_=>false
 |_=>false
def Hu (H:Hints)(r:Nat)(ops:Array Oper)(c:Nat):Bool:=
 match ops[c]? with
 |some y=>match y.guard with
  | none => qG y && H1 (λj => Nat.beq j c || match ops[j]? with
   |some x=> !lR x&&match Nat.blt j c with
    |true=>jH ((f7 ops ops.size).getD c []) j||(xf (fW (H.op r j) x)||pV (H.op r j) x (H.op r c) y)|false=>jH ((f7 ops ops.size).getD j []) c
   |none=>true) ops.size
  |some _=>false
 |none=>false
def Db (H:Hints)(r:Nat)(ops:Array Oper):Nat->Bool
 |0=>false|n+1=>match Hu H r ops n with|true=>true|false=>Db H r ops n
def wV (H:Hints)(r:Nat)(ops:Array Oper):Bool:=
 H1 (λi=>ltB i (mm ops i)&&iW (H.op r i)&&H1 (λj=>jH ((f7 ops ops.size).getD i []) j||vH H r ops j i) i) ops.size
end
mutual
def ag1:LV->List Nat
 | .loc i _=>[i]| .lsl i _ _=>[i]| .mloc i=>[i]| .tloc i _ _=>[i]| .lclo _ caps=>w8 caps| .ltup xs=>w8 xs| .cv _=>[]| .osl _=>[]| .ost _=>[]| .stl _=>[]
def w8:List LV->List Nat
 |[]=>[]|x::r=>ag1 x++w8 r
end
def vS (l:Lam):Nat->List Nat->List Nat->List Nat
 |0,_,acc=>acc|_+1,[],acc=>acc|n+1,i::todo,acc=>match jH acc i with
  |true=>vS l n todo acc|false=>match bU l i with
   | .cells cs=>vS l n (w8 cs++todo) (acc++[i])|_=>vS l n todo (acc++[i])
def vG:List Nat->Nat->Nat->Option Nat
 |[],_,_=>none|a::r,n,i=>match Nat.beq a i with|true=>some n|false=>vG r (n+1) i
mutual
def jm (m:List Nat):LV->Option LV
 | .cv c=>some (.cv c)| .osl xs=>some (.osl xs)| .ost xs=>some (.ost xs)| .stl n=>some (.stl n)| .loc i off=>opt (vG m 0 i) λj=>some (.loc j off)| .lsl i off len=>opt (vG m 0 i) λj=>some (.lsl j off len)| .mloc i=>opt (vG m 0 i) λj=>some (.mloc j)| .tloc i t n=>opt (vG m 0 i) λj=>some (.tloc j t n)| .lclo f caps=>opt (iZ m caps) λl=>some (.lclo f l)| .ltup xs=>opt (iZ m xs) λl=>some (.ltup l)
def iZ (m:List Nat):List LV->Option (List LV)
 |[]=>some []|x::r=>opt (jm m x) λy=>opt (iZ m r) λl=>some (y::l)
end
def iF (m:List Nat):List Ob->Option (List Ob)
 |[]=>some []| .dead::r=>opt (iF m r) λl=>some (.dead::l)| .arr sz cs::r=>opt (iF m r) λl=>some (.arr sz cs::l)| .map ks vs::r=>opt (iF m r) λl=>some (.map ks vs::l)| .cells cs::r=>opt (iZ m cs) λcs=>opt (iF m r) λl=>some (.cells cs::l)
def nS:List Nat->List LV->List (Nat×LV)
 |t::ts,v::vs=>(t,v)::nS ts vs|_,_=>[]
def KU (m:Nat)(v:LV):Option LV:=
 match m with
 |0=>some (strip v)|1=>opt (iJ v) λxs=>some (.osl xs)|4=>opt (Gz v) λxs=>some (.ost xs)|_=>opt (cj v) λxs=>some (.cv (.sl xs))
def w7 (fr:Fr):List (Nat×Nat)->Option (List LV)
 |[]=>some []|q::r=>opt (KU q.2 (fr q.1)) λv=>opt (w7 fr r) λl=>some (v::l)
def gx {α:Type}(live:List (Nat×Nat))(s:S)(k:S->Option α):Option α:=
 opt (w7 s.fr live) λvs=>
 match s.pushed with
 |true=>k {s with fr:=it (nS (live.map Prod.fst) vs)}|false=>
  let m:=vS s.lam 1000 (w8 vs) []
  opt (iZ m vs) λvs=>opt (iF m (m.map (bU s.lam))) λl=>k {fr:=it (nS (live.map Prod.fst) vs),lam:=l,pushed:=false}
def HB (L m:Nat):CV->Bool
 | .ref lev i _=>match Nat.blt lev L with|true=>true|false=>Nat.blt i m
 | .tref lev i _ _=>match Nat.blt lev L with|true=>true|false=>Nat.blt i m
 |c=>below L c
mutual
def nb (L m:Nat):LV->Bool
 | .cv c=>HB L m c| .osl xs=>dp L xs| .ost _=>true| .stl _=>true| .loc i _=>Nat.blt i m| .lsl i _ _=>Nat.blt i m| .mloc i=>Nat.blt i m| .tloc i _ _=>Nat.blt i m| .lclo _ caps=>oo L m caps| .ltup _=>false
def oo (L m:Nat):List LV->Bool
 |[]=>true|x::r=>match nb L m x with|true=>oo L m r|false=>false
end
def IR (L m:Nat):Ob->Bool
 | .cells cs=>oo L m cs| .arr _ cs=>dp L cs| .map _ vs=>dp L vs| .dead=>true
def uW (L m:Nat):List Ob->Bool
 |[]=>true|x::r=>match IR L m x with|true=>uW L m r|false=>false
def Zf:List (Nat×Nat)->Option Nat
 |[]=>none|q::r=>match Nat.ble 1000000 q.1 with|true=>some (q.1-1000000)|false=>Zf r
def kw (fr:Fr):List (Nat×Nat)->List (Nat×LV)
 |[]=>[]|q::r=>(q.1,fr q.1)::kw fr r
def HD:List (Nat×LV)->List LV
 |[]=>[]|q::r=>q.2::HD r
def ol {α:Type}(L:Nat)(live:List (Nat×Nat))(s:S)(k:S->Option α):Option α:=
 match Zf live with
 |none=>k s|some m=>bD (s.pushed&&Nat.ble m s.lam.length&&oo L m (HD (kw s.fr live))&&uW L m (s.lam.take m)) (k {fr:=it (kw s.fr live),lam:=s.lam.take m,pushed:=true})
def KR {α:Type}(m:Nat)(v:LV)(k:LV->Option α):Option α:=
 match m with
 |0=>k v|1=>opt (iJ v) λxs=>k (.osl xs)|3=>opt (cW v) λc=>k (.cv c)|_=>opt (cj v) λxs=>k (.cv (.sl xs))
def la {α:Type}:List Nat->List LV->(List LV->Option α)->Option α
 |[],cs,k=>k cs|m::ms,c::cs,k=>KR m c λc=>la ms cs λr=>k (c::r)|_::_,[],_=>none
def qQ {α:Type}:List (Nat×List Nat)->S->(S->Option α)->Option α
 |[],s,k=>k s|q::r,s,k=>match Nat.beq q.1 1000000 with
  |true=>qQ r {s with pushed:=true} k|false=>match bU s.lam q.1 with
   | .cells cs=>la q.2 cs λcs=>qQ r {s with lam:=s.lam.set q.1 (.cells cs)} k|_=>none
def C5 (r:Nat):List (Nat×List (Nat×List Nat))->List (Nat×List Nat)
 |[]=>[]|q::l=>match Nat.beq q.1 r with|true=>q.2|false=>C5 r l
def dW:Code->Nat
 | .region id _ _=>id| .seq a b=>match dW a with|0=>dW b|n+1=>n+1
 | .cond _ a b=>match dW a with|0=>dW b|n+1=>n+1
 | .block _ c=>dW c| .loop c=>dW c|_=>0
def ZI (r:Nat):List (Nat×List (Nat×Nat)×List (Nat×Nat))->List (Nat×Nat)×List (Nat×Nat)
 |[]=>([],[])|q::l=>match Nat.beq q.1 r with|true=>q.2|false=>ZI r l
def Vi (r:Nat):List (Nat×List (Nat×Nat)×List (Nat×Nat))->Option (List (Nat×Nat)×List (Nat×Nat))
 |[]=>none|q::l=>match Nat.beq q.1 r with|true=>some q.2|false=>Vi r l
def Hints.lives (H:Hints)(r:Nat):List (Nat×Nat)×List (Nat×Nat):=ZI r H.live
def Vj (n:Nat)(kp:Option Nat)(d:Nat):Bool:=
 match Nat.blt d n with
 |true=>match kp with|some t=> !Nat.beq d t|none=>true
 |false=>false
def sm (n:Nat)(kp:Option Nat):List Oper->Bool
 |[]=>true|o::r=>match o.dst with
  |none=>sm n kp r|some d=>match Vj n kp d with|true=>sm n kp r|false=>false
def g8 (n:Nat)(kp:Option Nat):Code->Bool
 | .region _ ops _=>sm n kp ops.toList| .seq a b=>match g8 n kp a with|true=>g8 n kp b|false=>false
 | .cond _ x y=>match g8 n kp x with|true=>g8 n kp y|false=>false
 | .block _ c=>g8 n kp c| .loop c=>g8 n kp c|_=>true
def ee (P:Program)(ρ:Rho)(H:Hints){α:Type}:Code->S->Mu->(St->Option α)->Option α
 | .skip,s,μ,k=>k (.norm s μ)| .region id ops draw,s,μ,k=>match draw with
  |false=>gY P ρ H id ops (List.range ops.size) s μ (λs μ=>k (.norm s μ)) λv s μ=>k (.panic v s μ)|true=>bD (wV H id ops) (gY P ρ H id ops (List.range ops.size) s μ (λs μ=>k (.norm s μ)) λv s μ=>bD (Db H id ops ops.size) (gx [] s λs=>k (.panic v s μ)))
 | .seq a b,s,μ,k=>ee P ρ H a s μ λst=>match st with
  | .norm s μ=>match Vi (dW b) H.cuts with
   |none=>ee P ρ H b s μ k|some lv=>qQ (C5 (dW b) H.objs) s λs=>gx lv.1 s λs=>ol μ.length lv.1 s λs=>opt (ρ.seg H lv.2 b s μ) k
  | .exit i s μ=>k (.exit i s μ)| .ret s μ=>k (.ret s μ)| .panic v s μ=>k (.panic v s μ)
 | .cond c x y,s,μ,k=>opt (bO (evA {} s.fr c)) λb=>cond b (ee P ρ H x s μ k) (ee P ρ H y s μ k)| .block id c,s,μ,k=>ee P ρ H c s μ λst=>match st with
  | .exit i s μ=>match Nat.beq i id with|true=>k (.norm s μ)|false=>k (.exit i s μ)
  | .norm s μ=>k (.norm s μ)| .ret s μ=>k (.ret s μ)| .panic v s μ=>k (.panic v s μ)
 | .loop c,s,μ,k=>qQ (C5 (dW c) H.objs) s λs=>gx (H.lives (dW c)).1 s λs=>ol μ.length (H.lives (dW c)).1 s λs=>opt (ρ.loop H (H.lives (dW c)).2 c s μ) k| .exit id,s,μ,k=>k (.exit id s μ)| .ret,s,μ,k=>k (.ret s μ)|_,_,_,_=>none
def sw (P:Program)(ρ:Rho)(H:Hints)(lv:List (Nat×Nat))(c:Code)(s:S)(μ:Mu):Option St:=
 ee P ρ H c s μ λst=>match st with
  | .norm s μ=>qQ (C5 (dW c) H.objs) s λs=>gx (H.lives (dW c)).1 s λs=>ol μ.length (H.lives (dW c)).1 s λs=>ρ.loop H lv c s μ| .exit i s μ=>gx lv s λs=>some (.exit i s μ)| .ret s μ=>gx H.res s λs=>some (.ret s μ)| .panic v s μ=>gx H.pan s λs=>some (.panic v s μ)
def Ck (P:Program)(ρ:Rho)(H:Hints)(lv:List (Nat×Nat))(c:Code)(s:S)(μ:Mu):Option St:=
 ee P ρ H c s μ λst=>match st with
  | .norm s μ=>gx lv s λs=>some (.norm s μ)| .exit i s μ=>gx lv s λs=>some (.exit i s μ)| .ret s μ=>gx H.res s λs=>some (.ret s μ)| .panic v s μ=>gx H.pan s λs=>some (.panic v s μ)
def o2:Nat->List LV->List (Nat×LV)
 |_,[]=>[]|n,v::r=>(n,v)::o2 (n+1) r
def WO (P:Program)(s:S):ResultVar->Option LV
 | .tmp t=>some (s.fr t)| .cell a t=>match s.fr a with
  | .loc i off=>cw P t (bU s.lam i) off|_=>none
def C9 (P:Program)(s:S):List ResultVar->Option (List LV)
 |[]=>some []|x::r=>opt (WO P s x) λv=>opt (C9 P s r) λl=>some (v::l)
def eW (vs:List LV):LV:=
 match vs with
 |[v]=>v|vs=> .ltup (vs.map strip1)
def ll (P:Program)(rs:List ResultVar)(s:S)(μ:Mu):Option Out:=
 opt (C9 P s rs) λvs=>
 let v:=eW vs
 bD (nw v) (match s.pushed with
  |false=>some (.ret v μ)
  |true=>bD (fj μ.length v) (some (.ret v μ)))
def KQ (P:Program)(ρ:Rho)(H:Hints)(fn:Func)(c:Code)(args:List LV)(μ:Mu):Option Out:=
 bD (Nat.ble args.length fn.ntmps && g8 fn.ntmps none c && !(fn.name == "runtime.NumGoroutine")) (
 ee P ρ H c {fr:=it (o2 0 args),lam:=[],pushed:=false} μ λst=>match st with
  | .norm s μ=>ll P fn.results.toList s μ| .ret s μ=>ll P fn.results.toList s μ| .panic v _ μ=>bD (below μ.length v) (some (.panic v μ))
  | .exit _ _ _=>none)
def pR {α:Type}(ρ:Rho)(t:Nat)(pv:Option CV)(s:S)(μ:Mu)(k:S->Mu->Option α):Option α:=
 match s.fr t with
 | .lclo f caps=>opt (k7 μ.length caps) λargs=>opt (iv μ.length s.lam) λl=>
  opt (ρ.dcall f pv args (μ++[l])) λμ2=>opt (eE μ2) λq=>k {s with lam:=q.2,pushed:=true} q.1
 |_=>none
def Il (P:Program)(ρ:Rho)(t:Nat)(rs:List ResultVar)(st:St):Option Out:=
 match st with
 | .norm s μ=>pR ρ t none s μ λs μ=>ll P rs s μ| .ret s μ=>pR ρ t none s μ λs μ=>ll P rs s μ| .panic v s μ=>pR ρ t (some v) s μ λs μ=>ll P rs s μ| .exit _ _ _=>none
def adV:LV->Bool
 | .lclo _ _=>true|_=>false
def Iq (t:Nat)(o:Oper):Bool:=
 match o.guard,o.dst,o.op with
 |none,none,.defer c=>match c.callee with
  | .value (.tmp u)=>match c.args.toList with|[]=>Nat.beq u t|_=>false
  |_=>false
 |_,_,_=>false
def wO (P:Program)(ρ:Rho)(H:Hints)(fn:Func)(c:Code)(t:Nat)(args:List LV)(μ:Mu):Option Out:=
 match c with
 | .seq a (.seq (.region id ops draw) b)=>match draw with
  |true=>none|false=>match ops[ops.size-1]? with
   |none=>none
   | some o => bD (Nat.ble args.length fn.ntmps && g8 fn.ntmps none a && sm fn.ntmps none ops.toList && g8 fn.ntmps (some t) b && !(fn.name == "runtime.NumGoroutine") && Iq t o) (
    ee P ρ H a {fr:=it (o2 0 args),lam:=[],pushed:=false} μ λst=>match st with
     | .norm s μ=>gY P ρ H id ops (List.range (ops.size-1)) s μ (λs μ=>bD (adV (s.fr t)) (ee P ρ H b s μ (Il P ρ t fn.results.toList))) (λ_ _ _=>none)
     |_=>none)
 |_=>none
def BF (o:Oper):Bool:=
 match o.guard,o.op with
 |none,.call c=>match c.callee with| .builtin .recover=>true|_=>false
 |_,_=>false
def OW (pv:Option CV):LV:=match pv with|some v=> .cv v|none=> .cv (.v .nilIface)
def wR (P:Program)(ρ:Rho)(H:Hints)(fn:Func)(c:Code)(pv:Option CV)(args:List LV)(μ:Mu):Option Mu:=
 match c with
 | .seq (.region id ops draw) b=>match draw with
  |true=>none|false=>match ops[0]? with
   |none=>none
   | some o => bD (Nat.ble args.length fn.ntmps && sm fn.ntmps none ops.toList && g8 fn.ntmps none b && !(fn.name == "runtime.NumGoroutine") && BF o && fn.results.isEmpty) (
    gY P ρ H id ops (List.range' 1 (ops.size-1)) (S.put {fr:=it (o2 0 args),lam:=[],pushed:=false} o.dst (OW pv)) μ
     (λs μ => ee P ρ H b s μ λst => match st with
      | .norm s μ=>some μ| .ret s μ=>some μ
      |_=>none) (λ_ _ _=>none))
 |_=>none
structure Env where
 P:Program
 hints:FuncId->Hints
 prim:FuncId->Option (List LV->Mu->Option Out)
def bJ (E:Env)(ρ:Rho)(f:FuncId)(args:List LV)(μ:Mu):Option Out:=
 match E.prim f with
 |some g=>g args μ|none=>match E.P.funcs[f]? with
  |some fn=>match fn.body with
   |some c=>match(E.hints f).dfr with
    |none=>KQ E.P ρ (E.hints f) fn c args μ|some t=>wO E.P ρ (E.hints f) fn c t args μ
   |none=>none
  |none=>none
def jN (E:Env)(ρ:Rho)(f:FuncId)(pv:Option CV)(args:List LV)(μ:Mu):Option Mu:=
 match E.P.funcs[f]? with
 |some fn=>match fn.body with
  |some c=>wR E.P ρ (E.hints f) fn c pv args μ|none=>none
 |none=>none
def evn (E:Env):Nat->Rho
 |0=>{call:=λ_ _ _=>none,loop:=λ_ _ _ _ _=>none,seg:=λ_ _ _ _ _=>none,dcall:=λ_ _ _ _=>none}|n+1=>{call:=bJ E (evn E n),loop:=λH lv c s μ=>sw E.P (evn E n) H lv c s μ,seg:=λH lv c s μ=>Ck E.P (evn E n) H lv c s μ,dcall:=jN E (evn E n)}
structure Gh where
 O:Nat->Nat
 β:Nat->Nat->Nat
 n:Nat->Nat
 sz:Nat->Nat->Nat
section
variable (G:Gh)(w:World)
mutual
def VR:CV->Value->Prop
 | .undef,_=>True| .v x,c=>c=x| .agg cs,c=> ∃vs:Array Value,c= .agg vs/\VRL cs vs.toList| .sl xs,c=> ∃A len cap,c= .slice A len cap/\len=xs.length/\len<=cap/\(len=0\/ ∃b off s,A=some ⟨b,off,none⟩/\(∀x∈xs,x.cells.length=s)/\EL b s off xs)| .view cs,c=> ∃b off,c= .pointer (some ⟨b,off,none⟩)/\CL b off cs| .ref lev i off,c=>i<G.n lev/\c= .pointer (some ⟨G.β lev i,off,none⟩)| .msl lev i off len,c=>i<G.n lev/\ ∃cap cur e fz,c= .slice (some ⟨G.β lev i,off,none⟩) len cap/\len<=cap/\w.heap[G.β lev i]? =some (.cells cur e fz)/\off+cap*G.sz lev i<=cur.size| .clo f caps,c=> ∃vs:Array Value,c= .func (.func f) #[] vs/\VRL caps vs.toList| .iface t x,c=> ∃v,c= .iface t v/\VR x v| .mview ks vs,c=> ∃r es clk,c= .map (some r)/\w.heap[r]? =some (.map es clk)/\0<G.O r/\es.toList.map MapEntry.key=ks/\VRL vs (es.toList.map MapEntry.val)| .mref lev i,c=>i<G.n lev/\c= .map (some (G.β lev i))| .tref lev i t n,c=>i<G.n lev/\c= .pointer (some ⟨G.β lev i,0,none⟩)/\ ∃cur fz,w.heap[G.β lev i]? =some (.cells cur t fz)/\cur.size=n
def VRL:List CV->List Value->Prop
 |[],vs=>vs=[]|c::cs,vs=> ∃v r,vs=v::r/\VR c v/\VRL cs r
def CL (b:Nat):Nat->List CV->Prop
 |_,[]=>True|off,c::r=>(∃v,w.cell? ⟨b,off,none⟩=some v/\off<G.O b/\VR c v)/\CL b (off+1) r
def EL (b s:Nat):Nat->List CV->Prop
 |_,[]=>True
 | off, x :: r => (match x with
  | .agg cs=>CL b off cs
  |c=> ∃v,w.cell? ⟨b,off,none⟩=some v/\off<G.O b/\VR c v)/\EL b s (off+s) r
end
end
def pp (G:Gh)(w:World)(xs:List CV)(v:Value):Prop:=
 (xs=[]/\v= .slice none 0 0)\/
 ∃b cap cur e s,v= .slice (some ⟨b,0,none⟩) xs.length cap/\w.heap[b]? =some (.cells cur e (0,0))/\xs.length<=cap/\cap<=maxLen/\
  cap*s<=cur.size/\(∀x∈xs,x.cells.length=s)/\(xs=[]->cap=0)/\EL G w b s 0 xs/\G.O b=xs.length*s/\((dg xs).isSome=true->xs≠[]->e=5)
def Jz {e:TypeId}{xs:List CV}(h:(Nat.beq e 5||jw xs)=true):(dg xs).isSome=true->xs≠[]->e=5:=by
 intro hb hne;rw[gO]at h;rcases h with h|h
 ·simp_all
 ·exfalso;cases xs with
  |nil=>exact hne rfl|cons y r=>
   simp only[jw]at h;unfold noB at h;split at h
   ·cases h
   ·rename_i hy;unfold dg at hb;simp_all
def zK: ∀(xs ys:List CV),(dg (xs++ys)).isSome=true->(dg xs).isSome=true
 |[],ys,_=>rfl|y::r,ys,h=>by
  rw[eH]at h;unfold dg at h |-;split at h
  ·simp_all
  ·rename_i n r' heq;injection heq with h1 h2;subst h1 h2;simp only;split at h
   ·have:(dg (r++ys)).isSome=true:=by
     cases hx:dg (r++ys)with|none=>rw[hx]at h;simp[opt]at h|some l=>rfl
    have:=zK r ys this;cases hx:dg r with|none=>rw[hx]at this;cases this|some l=>rfl
   ·cases h
  ·simp at h
def zL: ∀(xs ys:List CV),(dg (xs++ys)).isSome=true->(dg ys).isSome=true
 |[],ys,h=>h|y::r,ys,h=>by
  rw[eH]at h;unfold dg at h;split at h
  ·simp_all
  ·rename_i n r' heq;injection heq with h1 h2;subst h2;split at h
   ·refine zL r ys ?_;cases hx:dg (r++ys)with|none=>rw[hx]at h;simp[opt]at h|some l=>rfl
   ·cases h
  ·simp at h
def PC {e:TypeId}{xs ys:List CV}(h:(Nat.beq e 5||jw ys)=true)(hne:ys≠[]):(dg (xs++ys)).isSome=true->xs++ys≠[]->e=5:=
 λh1 _=>Jz h (zL xs ys h1) hne
def wI (G:Gh)(w:World)(xs:List Value)(v:Value):Prop:=
 (xs=[]/\v= .slice none 0 0)\/
 ∃b cap cur e,v= .slice (some ⟨b,0,none⟩) xs.length cap/\w.heap[b]? =some (.cells cur e (0,0))/\xs.length<=cap/\cap<=maxLen/\cap<=cur.size/\G.O b=0/\ ∀(j:Nat) x,xs[j]? =some x->cur.getD j undef=x
mutual
def LVR (G:Gh)(w:World)(L nl:Nat):LV->Value->Prop
 | .cv c,v=>VR G w c v| .osl xs,v=>pp G w xs v| .ost xs,v=>wI G w xs v| .stl n,v=> ∃A cap,v= .slice A n cap| .loc i off,v=>i<nl/\v= .pointer (some ⟨G.β L i,off,none⟩)| .lsl i off len,v=>i<nl/\ ∃cap cur e fz,v= .slice (some ⟨G.β L i,off,none⟩) len cap/\len<=cap/\cap<=maxLen/\w.heap[G.β L i]? =some (.cells cur e fz)/\off+cap*G.sz L i<=cur.size| .lclo f caps,v=> ∃vs:Array Value,v= .func (.func f) #[] vs/\en G w L nl caps vs.toList| .ltup xs,v=> ∃vs:Array Value,v= .tuple vs/\en G w L nl xs vs.toList| .mloc i,v=>i<nl/\v= .map (some (G.β L i))| .tloc i t n,v=>i<nl/\v= .pointer (some ⟨G.β L i,0,none⟩)/\ ∃cur fz,w.heap[G.β L i]? =some (.cells cur t fz)/\cur.size=n
def en (G:Gh)(w:World)(L nl:Nat):List LV->List Value->Prop
 |[],vs=>vs=[]|c::cs,vs=> ∃v r,vs=v::r/\vI c=false/\LVR G w L nl c v/\en G w L nl cs r
end
def iQ (cur:Array Value)(fz:Nat×Nat):Prop:= ∀j,j<cur.size-> ¬(fz.1<=j/\j<fz.2)
def Ad (G:Gh)(w:World)(ks:List Value)(vs:List CV)(es:Array MapEntry):Prop:=es.toList.map MapEntry.key=ks/\VRL G w vs (es.toList.map MapEntry.val)
def ObR (G:Gh)(w:World)(L nl:Nat)(b sz:Nat):Ob->Prop
 | .dead=>True| .cells cs=> ∃cur e fz,w.heap[b]? =some (.cells cur e fz)/\iQ cur fz/\G.O b=0/\cs.length<=cur.size/\ ∀j x,cs[j]? =some x->LVR G w L nl x (cur.getD j undef)| .arr k cs=>k=sz/\ ∃cur e fz,w.heap[b]? =some (.cells cur e fz)/\iQ cur fz/\G.O b=0/\cs.length<=cur.size/\ ∀j x,cs[j]? =some x->VR G w x (cur.getD j undef)| .map ks vs=> ∃es clk,w.heap[b]? =some (.map es clk)/\G.O b=0/\Ad G w ks vs es
def b6:LV->Value->Nat->Prop
 | .osl _,.slice (some a) _ _,b=>a.block=b| .ost _,.slice (some a) _ _,b=>a.block=b|_,_,_=>False
inductive Loc where
 |fr (t:Nat)|ob (lev i k:Nat)
def Gh.below (G:Gh)(lev:Nat):Gh:={G with n:=λl=>if l<=lev then G.n l else 0}
def bT (H:Mu)(lev i:Nat):Ob:=ce H lev i
def bK (G:Gh)(w:World)(fr:Fr)(tm:Array Value)(H:Mu):Loc->Nat->Prop
 | .fr t,b=>b6 (fr t) (tm.getD t undef) b| .ob lev i k,b=>match bT H lev i with
  | .cells cs=>match cs[k]? with
   |some x=> ∃cur e fz,w.heap[G.β lev i]? =some (.cells cur e fz)/\b6 x (cur.getD k undef) b|none=>False
  |_=>False
def b8:Ob->Prop
 | .dead=>False|_=>True
def kb (G:Gh)(w:World)(fr:Fr)(tm:Array Value)(H:Mu)(b:Nat):Prop:=
 (∃l,bK G w fr tm H l b)\/ ∃lev i,b8 (bT H lev i)/\G.β lev i=b
structure Rel (G:Gh) (L:Nat) (s:S) (μ:Mu) (tm:Array Value) (w:World):Prop where
 lev:μ.length=L
 fr: ∀t,LVR G w L s.lam.length (s.fr t) (tm.getD t undef)
 lam: ∀i,ObR G w L s.lam.length (G.β L i) (G.sz L i) (bU s.lam i)
 mu: ∀lev i,lev<L->ObR (G.below lev) w lev 0 (G.β lev i) (G.sz lev i) (ce μ lev i)
 inj: ∀lev i lev' i',b8 (bT (μ++[s.lam]) lev i)->b8 (bT (μ++[s.lam]) lev' i')->G.β lev i=G.β lev' i'->lev=lev'/\i=i'
 own: ∀l l' b,bK G w s.fr tm (μ++[s.lam]) l b->bK G w s.fr tm (μ++[s.lam]) l' b->l=l'
 apart: ∀l b lev i,bK G w s.fr tm (μ++[s.lam]) l b->b8 (bT (μ++[s.lam]) lev i)->G.β lev i≠b
 nlt: ∀lev,lev<L->G.n lev=(μ.getD lev []).length
 nL:G.n L=if s.pushed then s.lam.length else 0
 ngt: ∀lev,L<lev->G.n lev=0
structure Le (G:Gh) (w:World) (G':Gh) (w':World):Prop where
 map: ∀(b:Nat) (es:Array MapEntry) (clk:Nat),0<G.O b->w.heap[b]? =some (.map es clk)->0<G'.O b/\w'.heap[b]? =some (.map es clk)
 ref: ∀lev i,i<G.n lev->i<G'.n lev/\G'.β lev i=G.β lev i/\G'.sz lev i=G.sz lev i
 imm: ∀(b off:Nat) (v:Value),off<G.O b->w.cell? ⟨b,off,none⟩=some v->off<G'.O b/\w'.cell? ⟨b,off,none⟩=some v
 blk: ∀(b:Nat) (cur:Array Value) (e:TypeId) (fz:Nat×Nat),w.heap[b]? =some (.cells cur e fz)-> ∃(cur':Array Value) (fz':Nat×Nat),w'.heap[b]? =some (.cells cur' e fz')/\cur'.size=cur.size
def Le.refl (G:Gh)(w:World):Le G w G w:=⟨λ_ _ _ h hb=>⟨h,hb⟩,λ_ _ h=>⟨h,rfl,rfl⟩,λ_ _ _ h hc=>⟨h,hc⟩,λb cur e fz h=>⟨cur,fz,h,rfl⟩⟩
def Le.trans {G G1 G2:Gh}{w w1 w2:World}(a:Le G w G1 w1)(b:Le G1 w1 G2 w2):Le G w G2 w2:=by
 refine⟨λbl es clk h hb=> ?_,λlev i h=> ?_,λbl off v h hc=> ?_,λbl cur e fz h=> ?_⟩
 ·obtain⟨h1,h2⟩:=a.map bl es clk h hb;exact b.map bl es clk h1 h2
 ·obtain⟨h1,h2,h3⟩:=a.ref lev i h;obtain⟨k1,k2,k3⟩:=b.ref lev i h1;omega
 ·obtain⟨h1,h2⟩:=a.imm bl off v h hc;exact b.imm bl off v h1 h2
 ·obtain⟨c1,f1,h1,e1⟩:=a.blk bl cur e fz h;obtain⟨c2,f2,h2,e2⟩:=b.blk bl c1 e f1 h1;simp_all
section
variable {G G':Gh}{w w':World}(h:Le G w G' w')
include h
mutual
def de: ∀(c:CV) (v:Value),VR G w c v->VR G' w' c v
 | .undef,v,_=>by simp[VR]| .v x,v,hv=>by simpa[VR]using hv| .agg cs,v,hv=>by simp only[VR]at hv |-;obtain⟨vs,e,hl⟩:=hv;exact⟨vs,e,lM cs _ hl⟩
 | .sl xs,v,hv=>by simp only[VR]at hv |-;obtain⟨A,len,cap,e,h1,h2,h3⟩:=hv;refine⟨A,len,cap,e,h1,h2,h3.imp id ?_⟩;rintro⟨b,off,s,e1,hs,hl⟩;exact⟨b,off,s,e1,hs,iO b s off xs hl⟩
 | .view cs,v,hv=>by simp only[VR]at hv |-;obtain⟨b,off,e,hl⟩:=hv;exact⟨b,off,e,HH b off cs hl⟩
 | .ref lev i off,v,hv=>by simp only[VR]at hv |-;obtain⟨h1,e⟩:=hv;obtain⟨a,b,_⟩:=h.ref lev i h1;simp_all
 | .msl lev i off len,v,hv=>by simp only[VR]at hv |-;obtain⟨h1,cap,cur,e,fz,hv,hc,hb,hs⟩:=hv;obtain⟨a,b,c⟩:=h.ref lev i h1;obtain⟨cur',fz',hb',hs'⟩:=h.blk _ _ _ _ hb;simp_all
 | .clo f caps,v,hv=>by simp only[VR]at hv |-;obtain⟨vs,e,hl⟩:=hv;exact⟨vs,e,lM caps _ hl⟩
 | .iface t x,v,hv=>by simp only[VR]at hv |-;obtain⟨u,e,hl⟩:=hv;exact⟨u,e,de x u hl⟩
 | .mview ks vs,v,hv=>by simp only[VR]at hv |-;obtain⟨r,es,clk,e,h1,h2,h3,h4⟩:=hv;obtain⟨k1,k2⟩:=h.map r es clk h2 h1;exact⟨r,es,clk,e,k2,k1,h3,lM vs _ h4⟩
 | .mref lev i,v,hv=>by simp only[VR]at hv |-;obtain⟨h1,e⟩:=hv;obtain⟨a,b,_⟩:=h.ref lev i h1;simp_all
 | .tref lev i t n,v,hv=>by simp only[VR]at hv |-;obtain⟨h1,e,cur,fz,h2,h3⟩:=hv;obtain⟨a,b,_⟩:=h.ref lev i h1;obtain⟨cur',fz',hb',hs'⟩:=h.blk _ _ _ _ h2;simp_all
def lM: ∀(cs:List CV) (vs:List Value),VRL G w cs vs->VRL G' w' cs vs
 |[],vs,hv=>by simpa[VRL]using hv|c::cs,vs,hv=>by simp only[VRL]at hv |-;obtain⟨v,r,e,h1,h2⟩:=hv;exact⟨v,r,e,de c v h1,lM cs r h2⟩
def HH (b:Nat): ∀(off:Nat) (cs:List CV),CL G w b off cs->CL G' w' b off cs
 |_,[],_=>by simp[CL]|off,c::cs,hv=>by simp only[CL]at hv |-;obtain⟨⟨v,hc,ho,h1⟩,h2⟩:=hv;obtain⟨a,b⟩:=h.imm _ _ _ ho hc;exact⟨⟨v,b,a,de c v h1⟩,HH _ (off+1) cs h2⟩
def iO (b s:Nat): ∀(off:Nat) (cs:List CV),EL G w b s off cs->EL G' w' b s off cs
 |_,[],_=>by simp[EL]|off,.agg cs::r,hv=>by simp only[EL]at hv |-;exact⟨HH b off cs hv.1,iO b s (off+s) r hv.2⟩|off,.undef::r,hv=>by simp only[EL]at hv |-;obtain⟨⟨v,hc,ho,h1⟩,h2⟩:=hv;obtain⟨a,b⟩:=h.imm _ _ _ ho hc;exact⟨⟨v,b,a,by simp[VR]⟩,iO _ s (off+s) r h2⟩
 |off,.v x::r,hv=>by simp only[EL]at hv |-;obtain⟨⟨v,hc,ho,h1⟩,h2⟩:=hv;obtain⟨a,b⟩:=h.imm _ _ _ ho hc;exact⟨⟨v,b,a,de (.v x) v h1⟩,iO _ s (off+s) r h2⟩
 |off,.sl x::r,hv=>by simp only[EL]at hv |-;obtain⟨⟨v,hc,ho,h1⟩,h2⟩:=hv;obtain⟨a,b⟩:=h.imm _ _ _ ho hc;exact⟨⟨v,b,a,de (.sl x) v h1⟩,iO _ s (off+s) r h2⟩
 |off,.view x::r,hv=>by simp only[EL]at hv |-;obtain⟨⟨v,hc,ho,h1⟩,h2⟩:=hv;obtain⟨a,b⟩:=h.imm _ _ _ ho hc;exact⟨⟨v,b,a,de (.view x) v h1⟩,iO _ s (off+s) r h2⟩
 |off,.ref x y z::r,hv=>by simp only[EL]at hv |-;obtain⟨⟨v,hc,ho,h1⟩,h2⟩:=hv;obtain⟨a,b⟩:=h.imm _ _ _ ho hc;exact⟨⟨v,b,a,de (.ref x y z) v h1⟩,iO _ s (off+s) r h2⟩
 |off,.msl x y z l::r,hv=>by simp only[EL]at hv |-;obtain⟨⟨v,hc,ho,h1⟩,h2⟩:=hv;obtain⟨a,b⟩:=h.imm _ _ _ ho hc;exact⟨⟨v,b,a,de (.msl x y z l) v h1⟩,iO _ s (off+s) r h2⟩
 |off,.clo f x::r,hv=>by simp only[EL]at hv |-;obtain⟨⟨v,hc,ho,h1⟩,h2⟩:=hv;obtain⟨a,b⟩:=h.imm _ _ _ ho hc;exact⟨⟨v,b,a,de (.clo f x) v h1⟩,iO _ s (off+s) r h2⟩
 |off,.iface t x::r,hv=>by simp only[EL]at hv |-;obtain⟨⟨v,hc,ho,h1⟩,h2⟩:=hv;obtain⟨a,b⟩:=h.imm _ _ _ ho hc;exact⟨⟨v,b,a,de (.iface t x) v h1⟩,iO _ s (off+s) r h2⟩
 |off,.mview x y::r,hv=>by simp only[EL]at hv |-;obtain⟨⟨v,hc,ho,h1⟩,h2⟩:=hv;obtain⟨a,b⟩:=h.imm _ _ _ ho hc;exact⟨⟨v,b,a,de (.mview x y) v h1⟩,iO _ s (off+s) r h2⟩
 |off,.mref x y::r,hv=>by simp only[EL]at hv |-;obtain⟨⟨v,hc,ho,h1⟩,h2⟩:=hv;obtain⟨a,b⟩:=h.imm _ _ _ ho hc;exact⟨⟨v,b,a,de (.mref x y) v h1⟩,iO _ s (off+s) r h2⟩
 |off,.tref x y t n::r,hv=>by simp only[EL]at hv |-;obtain⟨⟨v,hc,ho,h1⟩,h2⟩:=hv;obtain⟨a,b⟩:=h.imm _ _ _ ho hc;exact⟨⟨v,b,a,de (.tref x y t n) v h1⟩,iO _ s (off+s) r h2⟩
end
def rF {ks:List Value}{vs:List CV}{es:Array MapEntry}(hm:Ad G w ks vs es):Ad G' w' ks vs es:=⟨hm.1,lM h vs _ hm.2⟩
end
def vN: ∀{l:List CV} {j:Nat} {y:CV},(tz l)[j]? =some y-> ∃x,l[j]? =some x/\ ∀(G:Gh) (w:World) (c:Value),VR G w x c->VR G w y c
 |[],j,y,h=>by simp[tz]at h|a::r,j,y,h=>by
  unfold tz at h;split at h
  ·simp_all
  ·rename_i r' e;injection e with e1 e2;subst e1 e2;cases j with|zero=>simp only[ft,bP]at h;subst h;refine⟨_,rfl,λG w c hc=> ?_⟩;simp only[VR]at hc |-;grind|succ j=>simpa using vN (by simpa using h)
  ·rename_i c r' _ e;injection e with e1 e2;subst e1 e2;cases j with|zero=>exact⟨y,by simpa using h,λ_ _ _ hc=>hc⟩|succ j=>simpa using vN (by simpa using h)
structure Ext (L:Nat) (T:Nat->Prop) (G:Gh) (w:World) (G':Gh) (w':World) (T':Nat->Prop):Prop where
 le:Le G w G' w'
 os:w'.os=w.os
 tape:w'.tape=w.tape
 output:w'.output=w.output
 size:w.heap.size<=w'.heap.size
 keep: ∀b,b<w.heap.size-> ¬T b->w'.heap[b]? =w.heap[b]? /\G'.O b=G.O b
 grow: ∀b,T' b->T b\/w.heap.size<=b
 lev: ∀l,l<L->(∀i,G'.β l i=G.β l i/\G'.sz l i=G.sz l i)/\G'.n l=G.n l
def Ext.refl {L:Nat}{T T':Nat->Prop}(G:Gh)(w:World)(h: ∀b,T' b->T b):Ext L T G w G w T':=
 ⟨Le.refl G w,rfl,rfl,rfl,ct _,λ_ _ _=>⟨rfl,rfl⟩,λb hb=> .inl (h b hb),λ_ _=>⟨λ_=>⟨rfl,rfl⟩,rfl⟩⟩
def Ext.trans {L:Nat}{T T1 T2:Nat->Prop}{G G1 G2:Gh}{w w1 w2:World}(a:Ext L T G w G1 w1 T1)(b:Ext L T1 G1 w1 G2 w2 T2):Ext L T G w G2 w2 T2:=by
 refine⟨a.le.trans b.le,b.os.trans a.os,b.tape.trans a.tape,b.output.trans a.output,iN a.size b.size,λx hx hT=> ?_,λx hx=> ?_,λl hl=> ?_⟩
 ·obtain⟨h1,h2⟩:=a.keep x hx hT;have h3: ¬T1 x:=λh=>by
   rcases a.grow x h with h|h
   ·exact hT h
   ·omega
  obtain⟨h4,h5⟩:=b.keep x (u1 hx a.size) h3;simp_all
 ·rcases b.grow x hx with h|h
  ·exact a.grow x h
  ·exact .inr (iN a.size h)
 ·obtain⟨h1,h2⟩:=a.lev l hl;obtain⟨h3,h4⟩:=b.lev l hl;simp_all
def Ext.drew {L:Nat}{T T':Nat->Prop}{G G':Gh}{w w':World}(h:Ext L T G w G' w' T'):Ext L T G w G' w'.drew T':=
 ⟨⟨h.le.map,h.le.ref,h.le.imm,h.le.blk⟩,h.os,h.tape,h.output,h.size,h.keep,h.grow,h.lev⟩
def Ext.weaken {L:Nat}{T T1 T' T1':Nat->Prop}{G G':Gh}{w w':World}(h:Ext L T G w G' w' T')(h1: ∀b,T b->T1 b)(h2: ∀b,T1' b->T' b):Ext L T1 G w G' w' T1':=
 ⟨h.le,h.os,h.tape,h.output,h.size,λb hb hn=>h.keep b hb λht=>hn (h1 b ht),λb hb=>(h.grow b (h2 b hb)).imp (h1 b) id,h.lev⟩
section
variable {G G':Gh}{w w':World}{L nl nl':Nat}
def pr (h:Le G w G' w'){xs:List CV}{v:Value}(ho: ∀a n c,v= .slice (some a) n c->w'.heap[a.block]? =w.heap[a.block]? /\G'.O a.block=G.O a.block)(hv:pp G w xs v):pp G' w' xs v:=by
 rcases hv with hv|⟨b,cap,cur,e,s,rfl,hb,h1,h2,h3,h4,h5,h6,h7,h8⟩
 ·exact .inl hv
 ·obtain⟨k1,k2⟩:=ho _ _ _ rfl;exact .inr ⟨b,cap,cur,e,s,rfl,k1.trans hb,h1,h2,h3,h4,h5,iO h b s 0 xs h6,k2.trans h7,h8⟩
def Ae {xs:List Value}{v:Value}(ho: ∀a n c,v= .slice (some a) n c->w'.heap[a.block]? =w.heap[a.block]? /\G'.O a.block=G.O a.block)(hv:wI G w xs v):wI G' w' xs v:=by
 rcases hv with hv|⟨b,cap,cur,e,rfl,hb,h1,h2,h3,h4,h5⟩
 ·exact .inl hv
 ·obtain⟨k1,k2⟩:=ho _ _ _ rfl;exact .inr ⟨b,cap,cur,e,rfl,k1.trans hb,h1,h2,h3,k2.trans h4,h5⟩
def uh {x:LV}{v:Value}{b:Nat}(h:vI x=false): ¬b6 x v b:=by cases x<;>simp[b6]at h |-
mutual
def ga (h:Le G w G' w')(hn:nl<=nl')(hβ: ∀i,i<nl->G'.β L i=G.β L i/\G'.sz L i=G.sz L i): ∀(x:LV) (v:Value),
 (∀b,b6 x v b->w'.heap[b]? =w.heap[b]? /\G'.O b=G.O b)->LVR G w L nl x v->LVR G' w' L nl' x v
 | .cv c,v,ho,hv=>by simp only[LVR]at hv |-; exact de h c v hv| .osl xs,v,ho,hv=>by simp only[LVR]at hv |-;exact pr h (λa n c e=>ho a.block (by subst e;simp[b6])) hv| .ost xs,v,ho,hv=>by simp only[LVR]at hv |-;exact Ae (λa n c e=>ho a.block (by subst e;simp[b6])) hv| .stl n,v,ho,hv=>by simpa[LVR]using hv| .loc i off,v,ho,hv=>by simp only[LVR]at hv |-;grind| .lsl i off len,v,ho,hv=>by simp only[LVR]at hv |-;obtain⟨h0,cap,cur,e,fz,h1,h2,h2',h3,h4⟩:=hv;obtain⟨cur',fz',hb',hs'⟩:=h.blk _ _ _ _ h3;refine⟨bu,cap,cur',e,fz',by rw[(hβ i h0).1];exact h1,h2,h2',by rw[(hβ i h0).1];exact hb',by rw[hs',(hβ i h0).2];exact h4⟩
 | .lclo f caps,v,ho,hv=>by simp only[LVR]at hv |-;obtain⟨vs,e,hl⟩:=hv;exact⟨vs,e,Aa h hn hβ caps _ hl⟩
 | .ltup xs,v,ho,hv=>by simp only[LVR]at hv |-;obtain⟨vs,e,hl⟩:=hv;exact⟨vs,e,Aa h hn hβ xs _ hl⟩
 | .mloc i,v,ho,hv=>by simp only[LVR]at hv |-;grind| .tloc i t n,v,ho,hv=>by simp only[LVR]at hv |-;obtain⟨h0,e,cur,fz,h2,h3⟩:=hv;obtain⟨cur',fz',hb',hs'⟩:=h.blk _ _ _ _ h2;grind
def Aa (h:Le G w G' w')(hn:nl<=nl')(hβ: ∀i,i<nl->G'.β L i=G.β L i/\G'.sz L i=G.sz L i): ∀(xs:List LV) (vs:List Value),
 en G w L nl xs vs->en G' w' L nl' xs vs
 |[],vs,hv=>by simpa[en]using hv|x::xs,vs,hv=>by simp only[en]at hv |-;obtain⟨v,r,e,h0,h1,h2⟩:=hv;exact⟨v,r,e,h0,ga h hn hβ x v (λb hb=>absurd hb (uh h0)) h1,Aa h hn hβ xs r h2⟩
end
def eS (h:Le G w G' w')(hn:nl<=nl')(hβ: ∀i,i<nl->G'.β L i=G.β L i/\G'.sz L i=G.sz L i){b sz:Nat}{o:Ob}
 (hb:b8 o->w'.heap[b]? =w.heap[b]? /\G'.O b=G.O b)
 (ho: ∀cs j x cur e fz,o= .cells cs->cs[j]? =some x->w.heap[b]? =some (.cells cur e fz)-> ∀b',b6 x (cur.getD j undef) b'->w'.heap[b']? =w.heap[b']? /\G'.O b'=G.O b')
 (hv:ObR G w L nl b sz o):ObR G' w' L nl' b sz o:=by
 cases o with
 |dead=>simp[ObR]|cells cs=>simp only[ObR]at hv |-;obtain⟨cur,e,fz,h1,h2,h3,h4,h5⟩:=hv;obtain⟨k1,k2⟩:=hb trivial;exact⟨cur,e,fz,k1.trans h1,h2,k2.trans h3,h4,λj x hx=>ga h hn hβ x _ (λb' hb'=>ho cs j x cur e fz rfl hx h1 b' hb') (h5 j x hx)⟩
 |arr k cs=>simp only[ObR]at hv |-;obtain⟨hk,cur,e,fz,h1,h2,h3,h4,h5⟩:=hv;obtain⟨k1,k2⟩:=hb trivial;exact⟨hk,cur,e,fz,k1.trans h1,h2,k2.trans h3,h4,λj x hx=>de h x _ (h5 j x hx)⟩
 |map ks vs=>simp only[ObR]at hv |-;obtain⟨es,clk,h1,h2,h3⟩:=hv;obtain⟨k1,k2⟩:=hb trivial;exact⟨es,clk,k1.trans h1,k2.trans h2,rF h h3⟩
end
def Le.below {G G':Gh}{w w':World}(h:Le G w G' w')(lev:Nat):Le (G.below lev) w (G'.below lev) w':=by
 refine⟨h.map,λl i hi=> ?_,h.imm,h.blk⟩;simp only[Gh.below]at hi |-;split at hi
 ·rename_i hl;rw[bC hl];exact h.ref l i hi
 ·omega
def cV {μ:Mu}{l:Lam}{lev i:Nat}(h:lev<μ.length):ce (μ++[l]) lev i=ce μ lev i:=by simp[ce,gK h]
def db {μ:Mu}{l:Lam}{i:Nat}:ce (μ++[l]) μ.length i=bU l i:=by simp[ce,bU]
def nG {μ:Mu}{l:Lam}{lev i:Nat}(h:μ.length<lev):ce (μ++[l]) lev i= .dead:=by simp only[ce];grind
def Rel.frame {G G':Gh}{w w':World}{L:Nat}{s:S}{μ:Mu}{tm:Array Value}(R:Rel G L s μ tm w)(hle:Le G w G' w')
 (hT: ∀b,kb G w s.fr tm (μ++[s.lam]) b->w'.heap[b]? =w.heap[b]? /\G'.O b=G.O b)
 (hβ: ∀lev i,lev<L\/(lev=L/\i<s.lam.length)->G'.β lev i=G.β lev i/\G'.sz lev i=G.sz lev i) (hn:G'.n=G.n):
 Rel G' L s μ tm w'/\(∀l b,bK G' w' s.fr tm (μ++[s.lam]) l b->bK G w s.fr tm (μ++[s.lam]) l b):=by
 have hlive: ∀lev i,b8 (bT (μ++[s.lam]) lev i)->lev<L\/(lev=L/\i<s.lam.length):=by
  intro lev i h;rcases sL lev L with h1|h1|h1
  ·exact .inl h1
  ·subst h1;refine .inr ⟨rfl,?_⟩;rw[<-R.lev]at h;simp only[bT,db,bU]at h;by_cases hi:i<s.lam.length
   ·exact hi
   ·rw[eB bu]at h;exact h.elim
  ·rw[<-R.lev]at h1;simp only[bT,nG h1]at h;exact h.elim
 have hown: ∀l b,bK G' w' s.fr tm (μ++[s.lam]) l b->bK G w s.fr tm (μ++[s.lam]) l b:=by
  intro l b h;cases l with
  |fr t=>exact h|ob lev i k=>
   simp only[bK]at h |-;split at h
   ·rename_i cs hcs;have hl:b8 (bT (μ++[s.lam]) lev i):=by rw[hcs];trivial
    split at h
    ·rename_i x hx;obtain⟨cur,e,fz,hb,ho⟩:=h;rw[(hβ lev i (hlive lev i hl)).1,(hT _ (.inr ⟨lev,i,hl,rfl⟩)).1]at hb;simp_all
    ·exact h
   ·exact h
 refine⟨⟨R.lev,λt=> ?_,λi=> ?_,λlev i hl=> ?_,λlev i lev' i' h h' e=> ?_,λl l' b h h'=>R.own l l' b (hown l b h) (hown l' b h'),λl b lev i h h' e=> ?_,?_,?_,?_⟩,hown⟩
 ·exact ga hle (ct _) (λi hi=>hβ L i (.inr ⟨rfl,hi⟩)) _ _ (λb hb=>hT b (.inl ⟨.fr t,hb⟩)) (R.fr t)
 ·have hob:=R.lam i;have e1:bT (μ++[s.lam]) L i=bU s.lam i:=by rw[<-R.lev];exact db
  by_cases hi:i<s.lam.length
  ·rw[(hβ L i (.inr ⟨rfl,hi⟩)).1,(hβ L i (.inr ⟨rfl,hi⟩)).2];refine eS hle (ct _) (λi hi=>hβ L i (.inr ⟨rfl,hi⟩)) (λhl=>hT _ (.inr ⟨L,i,by rw[e1];exact hl,rfl⟩)) (λcs j x cur e fz ho hx hb b' hb'=>hT b' (.inl ⟨.ob L i j,?_⟩)) hob;simp only[bK,e1,ho,hx];simp_all
  ·have:bU s.lam i= .dead:=by simp only[bU];rw[eB bu]
   rw[this];trivial
 ·have e1:bT (μ++[s.lam]) lev i=ce μ lev i:=cV (by rw[R.lev];exact hl);have hob:=R.mu lev i hl;rw[(hβ lev i (.inl hl)).1,(hβ lev i (.inl hl)).2];refine eS (hle.below lev) (ct _) (λi hi=>by omega) (λh=>hT _ (.inr ⟨lev,i,by rw[e1];exact h,rfl⟩)) (λcs j x cur e fz ho hx hb b' hb'=>hT b' (.inl ⟨.ob lev i j,?_⟩)) hob;simp only[bK,e1,ho,hx];simp_all
 ·rw[(hβ lev i (hlive lev i h)).1,(hβ lev' i' (hlive lev' i' h')).1]at e;exact R.inj lev i lev' i' h h' e
 ·rw[(hβ lev i (hlive lev i h')).1]at e;exact R.apart l b lev i (hown l b h) h' e
 ·rw[hn];exact R.nlt
 ·rw[hn];exact R.nL
 ·rw[hn];exact R.ngt
def j6 (g:Fr)(t:Nat)(v:LV):upd g t v t=v:=by simp[upd,q9]
def jo (g:Fr){t u:Nat}(v:LV)(h:u≠t):upd g t v u=g u:=by
 have:Nat.beq u t=false:=by cases e:Nat.beq u t with
  |false=>rfl|true=>exact absurd (fb e) h
 simp[upd,this]
def zP (tm:Array Value){d:Nat}(v:Value)(h:d<tm.size):(tm.setIfInBounds d v).getD d undef=v:=by simp_all
def wX (tm:Array Value){d t:Nat}(v:Value)(h:t≠d):(tm.setIfInBounds d v).getD t undef=tm.getD t undef:=by simp only[ex];grind
def KF {G:Gh}{w:World}{b s:Nat}: ∀{off:Nat} {xs:List CV},EL G w b s off xs-> ∀j x,xs[j]? =some x->CL G w b (off+j*s) x.cells
 |off,[],_,j,x,hx=>by simp at hx|off,y::r,h,0,x,hx=>by simp only[ft,bP]at hx;subst hx;cases y<;>simp only[EL]at h<;>simp only[CV.cells,Dq,j8,CL,ka]<;>first|exact h.1|exact h.1
 |off,y::r,h,j+1,x,hx=>by
  have h2:EL G w b s (off+s) r:=by cases y<;>simp only[EL]at h<;>exact h.2
  have:=KF h2 j x (by simpa using hx);grind
def lL {G:Gh}{w:World}{xs:List CV}{v:Value}(h:pp G w xs v):VR G w (.sl xs) v:=by
 simp only[VR];rcases h with⟨rfl,rfl⟩|⟨b,cap,cur,e,s,rfl,hb,h1,h2,h3,h4,h5,h6,h7⟩
 ·grind
 grind
def Dz {G:Gh}{w:World}{xs:List Value}{v:Value}(h:wI G w xs v): ∃A cap,v= .slice A xs.length cap:=by
 rcases h with⟨rfl,rfl⟩|⟨b,cap,cur,e,rfl,_⟩
 all_goals simp
def nf {G:Gh}{w:World}{L nl:Nat}{x:LV}{v:Value}(h:LVR G w L nl x v):LVR G w L nl (strip1 x) v/\vI (strip1 x)=false:=by
 cases x<;>simp only[strip1,LVR]at h |- <;>first
  |exact⟨h,bE⟩|exact⟨lL h,bE⟩|exact⟨Dz h,bE⟩|exact⟨by simp[VR],bE⟩
def Dy {G:Gh}{w:World}{L nl:Nat}: ∀{xs:List LV} {vs:List Value},en G w L nl xs vs->en G w L nl (xs.map strip1) vs
 |[],vs,h=>by simpa[en]using h|x::xs,vs,h=>by simp only[en,dr]at h |-;obtain⟨v,r,e,h0,h1,h2⟩:=h;exact⟨v,r,e,(nf h1).2,(nf h1).1,Dy h2⟩
def oM {G:Gh}{w:World}{L nl:Nat}{x:LV}{v:Value}(h:LVR G w L nl x v):LVR G w L nl (strip x) v:=by
 cases x<;>simp only[strip,LVR]at h |- <;>first
  |exact h|exact lL h|exact Dz h|(obtain⟨vs,e,hl⟩:=h;exact⟨vs,e,Dy hl⟩)
def ng {x:LV}{v:Value}{b:Nat}: ¬b6 (strip x) v b:=by cases x<;>simp[strip,b6]
def Rel.put {G:Gh}{w:World}{L:Nat}{s:S}{μ:Mu}{tm:Array Value}(R:Rel G L s μ tm w){d:Nat}{v:LV}{cv:Value}(hd:d<tm.size)
 (hv:LVR G w L s.lam.length v cv)
 (ho: ∀b,b6 v cv b->(∀l,bK G w s.fr tm (μ++[s.lam]) l b->l= .fr d)/\ ∀lev i,b8 (bT (μ++[s.lam]) lev i)->G.β lev i≠b):
 Rel G L (s.set d v) μ (tm.setIfInBounds d cv) w/\
 (∀b,kb G w (s.set d v).fr (tm.setIfInBounds d cv) (μ++[(s.set d v).lam]) b->kb G w s.fr tm (μ++[s.lam]) b\/b6 v cv b):=by
 have hcase: ∀l b,bK G w (s.set d v).fr (tm.setIfInBounds d cv) (μ++[(s.set d v).lam]) l b->(l= .fr d/\b6 v cv b)\/(l≠ .fr d/\bK G w s.fr tm (μ++[s.lam]) l b):=by
  intro l b h;cases l with
  |fr t=>
   by_cases ht:t=d
   ·subst ht;simp only[bK,S.set,j6,zP tm cv hd]at h;simp_all
   ·simp only[bK,S.set,jo _ _ ht,wX tm cv ht]at h;exact .inr ⟨by simpa using ht,h⟩
  |ob lev i k=>exact .inr ⟨bE,h⟩
 refine⟨⟨R.lev,λt=> ?_,R.lam,R.mu,R.inj,λl l' b h h'=> ?_,λl b lev i h h'=> ?_,R.nlt,R.nL,R.ngt⟩,λb hb=> ?_⟩
 ·by_cases ht:t=d
  ·subst ht;simp only[S.set,j6,zP tm cv hd];exact hv
  ·simp only[S.set,jo _ _ ht,wX tm cv ht];exact R.fr t
 ·rcases hcase l b h with⟨e,h1⟩|⟨e,h1⟩<;>rcases hcase l' b h' with⟨e',h1'⟩|⟨e',h1'⟩
  ·rw[e,e']
  ·grind
  ·grind
  ·exact R.own l l' b h1 h1'
 ·rcases hcase l b h with⟨e,h1⟩|⟨e,h1⟩
  ·exact(ho b h1).2 lev i h'
  ·exact R.apart l b lev i h1 h'
 ·rcases hb with⟨l,hl⟩|h
  ·rcases hcase l b hl with⟨e,h1⟩|⟨e,h1⟩
   ·exact .inr h1
   ·exact .inl (.inl ⟨l,h1⟩)
  ·exact .inl (.inr h)
def Rel.strip1 {G:Gh}{w:World}{L:Nat}{s:S}{μ:Mu}{tm:Array Value}(R:Rel G L s μ tm w)(t:Nat):
 Rel G L (s.set t (strip (s.fr t))) μ tm w/\
 (∀l b,bK G w (s.set t (strip (s.fr t))).fr tm (μ++[s.lam]) l b->l≠ .fr t/\bK G w s.fr tm (μ++[s.lam]) l b):=by
 have hcase: ∀l b,bK G w (s.set t (strip (s.fr t))).fr tm (μ++[s.lam]) l b->l≠ .fr t/\bK G w s.fr tm (μ++[s.lam]) l b:=by
  intro l b h;cases l with
  |fr u=>
   by_cases ht:u=t
   ·subst ht;simp only[bK,S.set,j6]at h;exact absurd h ng
   ·simp only[bK,S.set,jo _ _ ht]at h;exact⟨by simpa using ht,h⟩
  |ob lev i k=>exact⟨bE,h⟩
 refine⟨⟨R.lev,λu=> ?_,R.lam,R.mu,R.inj,λl l' b h h'=>R.own l l' b (hcase l b h).2 (hcase l' b h').2,λl b lev i h h'=>R.apart l b lev i (hcase l b h).2 h',R.nlt,R.nL,R.ngt⟩,hcase⟩;by_cases ht:u=t
 ·subst ht;simp only[S.set,j6];exact oM (R.fr u)
 ·simp only[S.set,jo _ _ ht];exact R.fr u
def cq: ∀(ts:List Nat) (s:S),(bz ts s).lam=s.lam/\(bz ts s).pushed=s.pushed
 |[],s=>⟨rfl,rfl⟩|t::r,s=>by simpa[bz,S.set]using cq r (s.set t (strip (s.fr t)))
def Rel.strips {G:Gh}{w:World}{L:Nat}{μ:Mu}{tm:Array Value}: ∀(ts:List Nat) {s:S},Rel G L s μ tm w->
 Rel G L (bz ts s) μ tm w/\
 (∀l b,bK G w (bz ts s).fr tm (μ++[s.lam]) l b->(∀t,t∈ts->l≠ .fr t)/\bK G w s.fr tm (μ++[s.lam]) l b)
 |[],s,R=>⟨R,λl b h=>⟨bE,h⟩⟩|t::r,s,R=>by obtain⟨R1,h1⟩:=R.strip1 t;obtain⟨R2,h2⟩:=Rel.strips r R1;refine⟨R2,λl b h=> ?_⟩;obtain⟨a1,a2⟩:=h2 l b h;obtain⟨b1,b2⟩:=h1 l b a2;simp_all
def bA {α β:Type}{x:Option α}{k:α->Option β}{r:β}:opt x k=some r↔ ∃a,x=some a/\k a=some r:=by cases x<;>simp[opt]
def bR {β:Type}{b:Bool}{k:Option β}{r:β}:bD b k=some r↔b=true/\k=some r:=by cases b<;>simp[bD]
def gw {l:List Nat}{t:Nat}:jH l t=true↔t∈l:=by
 induction l with
 |nil=>simp[jH]|cons a r ih=>
  simp only[jH,ed];cases h:Nat.beq a t with
  |true=>simp[fb h]|false=>
   have:t≠a:=λe=>by subst e;simp[q9]at h
   simp_all
section
variable {G:Gh}{w:World}{L:Nat}
abbrev bM (G:Gh)(w:World)(s:S)(μ:Mu)(tm:Array Value):Nat->Prop:=kb G w s.fr tm (μ++[s.lam])
def adQ (vs:List Value):VRL G w (vs.map .v) vs:=by
 induction vs with|nil=>simp[VRL]|cons v r ih=>simp only[dr,VRL];exact⟨v,r,rfl,by simp[VR],ih⟩
def af6 (nl:Nat)(vs:List Value):en G w L nl (vs.map λc=> .cv (.v c)) vs:=by
 induction vs with|nil=>simp[en]|cons v r ih=>simp only[dr,en];exact⟨v,r,rfl,bE,by simp[LVR,VR],ih⟩
def XD (nl:Nat)(v:Value):LVR G w L nl (lS v) v:=by
 cases v<;>simp only[lS,LVR,VR]
 ·exact⟨_,rfl,adQ _⟩
 ·exact⟨_,rfl,af6 _ _⟩
def FW {v u:Value}{b:Nat}: ¬b6 (lS v) u b:=by cases v<;>simp[lS,b6]
def cG {s:S}{μ:Mu}{a:Act}(R:Rel G L s μ a.tmps w)(h:OpHint)(x:Operand):
 LVR G w L s.lam.length (evA h s.fr x) (a.eval x)/\ ∀b,b6 (evA h s.fr x) (a.eval x) b-> ∃t,t∈h.take/\b6 (s.fr t) (a.tmps.getD t undef) b:=by
 cases x with
 |tmp t=>
  simp only[evA,Act.eval];cases ht:jH h.take t with|true=>exact⟨R.fr t,λb hb=>⟨t,gw.1 ht,hb⟩⟩|false=>exact⟨oM (R.fr t),λb hb=>absurd hb ng⟩
 |const c=>exact⟨XD _ c,λb hb=>absurd hb FW⟩|global g=>exact⟨by simp[evA,LVR,VR],λb hb=>by simp[evA,b6]at hb⟩|func f=>exact⟨by simp only[evA,LVR,VR,Act.eval];exact⟨#[],rfl,by simp[VRL]⟩,λb hb=>by simp[evA,b6]at hb⟩
def eQ {G0:Gh}{w0:World}{T0:Nat->Prop}{s:S}{μ:Mu}{a:Act}{v:LV}{cv:Value}{dst:Option Tmp}(R:Rel G L s μ a.tmps w)
 (E:Ext L T0 G0 w0 G w (bM G w s μ a.tmps)) (hv:LVR G w L s.lam.length v cv)
 (ho: ∀b,b6 v cv b->(∀l,¬bK G w s.fr a.tmps (μ++[s.lam]) l b)/\(∀lev i,b8 (bT (μ++[s.lam]) lev i)->G.β lev i≠b)/\(T0 b\/w0.heap.size<=b))
 (hd: ∀d,dst=some d->d<a.tmps.size):
 Rel G L (s.put dst v) μ (a.put dst cv).tmps w/\Ext L T0 G0 w0 G w (bM G w (s.put dst v) μ (a.put dst cv).tmps):=by
 cases dst with
 |none=>exact⟨R,E⟩|some d=>
  obtain⟨R',h⟩:=R.put (hd d rfl) hv λb hb=>⟨λl hl=>absurd hl ((ho b hb).1 l),(ho b hb).2.1⟩;refine⟨R',⟨E.le,E.os,E.tape,E.output,E.size,E.keep,λb hb=> ?_,E.lev⟩⟩;rcases h b hb with h|h
  ·exact E.grow b h
  simp_all
def abi {s:S}{μ:Mu}{a:Act}{v:LV}{cv:Value}{dst:Option Tmp}{ts:List Nat}(R:Rel G L s μ a.tmps w)
 (hv:LVR G w L s.lam.length v cv) (ho: ∀b,b6 v cv b-> ∃t,t∈ts/\b6 (s.fr t) (a.tmps.getD t undef) b)
 (hd: ∀d,dst=some d->d<a.tmps.size):
 Rel G L ((bz ts s).put dst v) μ (a.put dst cv).tmps w/\
 Ext L (bM G w s μ a.tmps) G w G w (bM G w ((bz ts s).put dst v) μ (a.put dst cv).tmps):=by
 obtain⟨R',h⟩:=Rel.strips ts R;have hl:=cq ts s;refine eQ R' (Ext.refl G w λb hb=> ?_) (by rw[hl.1];exact hv) (λb hb=> ?_) hd
 ·rcases hb with⟨l,hb⟩|hb
  ·exact .inl ⟨l,(h l b (by rw[<-hl.1];exact hb)).2⟩
  ·exact .inr (by rw[<-hl.1];exact hb)
 ·obtain⟨t,ht,ho⟩:=ho b hb;refine⟨λl hl'=> ?_,λlev i hlv=> ?_,.inl (.inl ⟨.fr t,ho⟩)⟩
  ·obtain⟨h1,h2⟩:=h l b (by rw[<-hl.1];exact hl');exact h1 t ht (R.own l (.fr t) b h2 ho)
  ·exact R.apart (.fr t) b lev i ho (by rw[<-hl.1];exact hlv)
end
section
variable {G:Gh}{w:World}{L nl:Nat}
def mU {k:IntKind}{x:LV}{n:Int}(h:bN k x=some n):x= .cv (.v (.int k n)):=by unfold bN at h;grind
def jF {x:LV}{b:Bool}(h:bO x=some b):x= .cv (.v (.bool b)):=by unfold bO at h;split at h<;>simp_all
def kH {x:LV}{l:List UInt8}(h:cg x=some l):x=LV.str l:=by unfold cg at h;split at h<;>simp_all;subst h;rfl
def rR {x:LV}{n:Int}(h:pF x=some n): ∃k,x= .cv (.v (.int k n)):=by unfold pF at h;split at h<;>simp_all
def o4 {x:LV}{cs:List CV}(h:jZ x=some cs):x= .cv (.agg cs):=by unfold jZ at h;split at h<;>simp_all
def JK {x:LV}{xs:List LV}(h:ci x=some xs):x= .ltup xs:=by unfold ci at h;split at h<;>simp_all
def yV {x:LV}{cs:List CV}(h:iU x=some cs):x= .cv (.view cs):=by unfold iU at h;split at h<;>simp_all
def vF {x:LV}{q:Nat×Nat×Nat}(h:pU x=some q):x= .cv (.ref q.1 q.2.1 q.2.2):=by unfold pU at h;split at h<;>simp_all;grind
def Y9 {x:LV}{q:Nat×Nat×Nat×Nat}(h:MV x=some q):x= .cv (.msl q.1 q.2.1 q.2.2.1 q.2.2.2):=by unfold MV at h;split at h<;>simp_all;grind
def XI:VR G w (.sl []) (.slice none 0 0):=by simp only[VR];exact⟨none,0,0,rfl,rfl,ct _,.inl rfl⟩
def jO {x:LV}{xs:List CV}(h:cj x=some xs){v:Value}(hv:LVR G w L nl x v):VR G w (.sl xs) v:=by
 unfold cj at h;split at h<;>simp only[bP,reduceCtorEq]at h<;>subst h
 ·simpa[LVR]using hv
 ·simp only[LVR,VR]at hv;subst hv;exact XI
 ·exact lL hv
def nz {x:LV}{xs:List CV}(h:iJ x=some xs){v:Value}(hv:LVR G w L nl x v):pp G w xs v/\ ∀b,b6 (.osl xs) v b->b6 x v b:=by
 unfold iJ at h;split at h<;>simp only[bP,reduceCtorEq]at h<;>subst h
 ·exact⟨hv,λb hb=>hb⟩
 ·simp only[LVR,VR]at hv;subst hv;exact⟨.inl ⟨rfl,rfl⟩,λb hb=>by simp[b6]at hb⟩
def GA {x:LV}{xs:List Value}(h:Gz x=some xs){v:Value}(hv:LVR G w L nl x v):LVR G w L nl (.ost xs) v/\ ∀b,b6 (.ost xs) v b->b6 x v b:=by
 unfold Gz at h;split at h<;>simp only[bP,reduceCtorEq]at h<;>subst h
 ·simp_all
 ·simp only[LVR,VR]at hv;subst hv;exact⟨by simp only[LVR];exact .inl ⟨rfl,rfl⟩,λb hb=>by simp[b6]at hb⟩
def Ko: ∀{cs:List CV} {vs:List Value},Cv cs=some vs->cs=vs.map .v/\ ∀v∈vs,v.oneCell'=true
 |[],vs,h=>by simp only[Cv,bP]at h;subst h;exact⟨rfl,λv hv=>by simp at hv⟩|c::r,vs,h=>by
  unfold Cv at h;split at h<;>try(simp at h;done)
  ·simp_all
  ·rename_i x r' e;injection e with e1 e2;subst e1 e2;split at h<;>try(simp at h;done)
   rename_i hx;obtain⟨l,h1,h2⟩:=bA.1 h;simp only[bP]at h2;subst h2;obtain⟨h3,h4⟩:=Ko h1;simp_all
def ji {x:LV}{c:CV}(h:cW x=some c){v:Value}(hv:LVR G w L nl x v):VR G w c v:=by
 unfold cW at h;split at h<;>simp only[bP,reduceCtorEq]at h<;>subst h
 ·simpa[LVR]using hv
 ·exact lL hv
def Kt {α:Type}{l:List α}{q:α×List α}(h:bG l=some q):l=q.1::q.2:=by cases l<;>simp[bG]at h;subst h;rfl
def JM {α:Type}{l:List α}{u:Unit}(h:bZ l=some u):l=[]:=by cases l<;>simp[bZ]at h |-
def wa {β:Type}{d:TypeDesc}{x:LV}{k:CV->Option β}{r:β}(h:k9 d x k=some r):
 ∃c,k c=some r/\ ∀(G:Gh) (w:World) (L nl:Nat) v,LVR G w L nl x v->VR G w c v:=by
 unfold k9 at h;split at h<;>obtain⟨a,h1,h2⟩:=bA.1 h<;>refine⟨_,h2,λG w L nl v hv=> ?_⟩
 ·rw[mU h1]at hv;simpa[LVR]using hv
 ·rw[jF h1]at hv;simpa[LVR]using hv
 ·rw[kH h1]at hv;simpa[LVR]using hv
 ·exact jO h1 hv
 ·exact ji h1 hv
def nU (cs cs':List CV):Prop:=cs'.length=cs.length/\ ∀(j:Nat) (c c':CV),cs[j]? =some c->cs'[j]? =some c'-> ∀(G:Gh) (w:World) (v:Value),VR G w c v->VR G w c' v
def nU.cons {c c':CV}{r r':List CV}(h:nU r r')(hc: ∀(G:Gh) (w:World) v,VR G w c v->VR G w c' v):nU (c::r) (c'::r'):=by
 refine⟨by simp[h.1],λj x x' hx hx'=> ?_⟩;cases j with|zero=>simp only[ft,bP]at hx hx';subst hx;subst hx';exact hc|succ j=>exact h.2 j x x' (by simpa using hx) (by simpa using hx')
def nU.tail {c c':CV}{r r':List CV}(h:nU (c::r) (c'::r')):nU r r'/\ ∀(G:Gh) (w:World) v,VR G w c v->VR G w c' v:=
 ⟨⟨by simpa using h.1,λj x x' hx hx'=>h.2 (j+1) x x' (by simpa using hx) (by simpa using hx')⟩,h.2 0 c c' rfl rfl⟩
def nU.VRL: ∀{cs cs':List CV},nU cs cs'-> ∀{vs},VRL G w cs vs->VRL G w cs' vs
 |[],[],_,vs,h=>h|[],_::_,hf,_,_=>by simp[nU]at hf|_::_,[],hf,_,_=>by simp[nU]at hf|c::r,c'::r',hf,vs,h=>by simp only[Go.Abs.VRL]at h |-;obtain⟨v,s,e,h1,h2⟩:=h;exact⟨v,s,e,hf.tail.2 G w v h1,hf.tail.1.VRL h2⟩
def nU.CL {b:Nat}: ∀{off:Nat} {cs cs':List CV},nU cs cs'->CL G w b off cs->CL G w b off cs'
 |_,[],[],_,h=>h|_,[],_::_,hf,_=>by simp[nU]at hf|_,_::_,[],hf,_=>by simp[nU]at hf|off,c::r,c'::r',hf,h=>by simp only[Go.Abs.CL]at h |-;obtain⟨⟨v,h1,h2,h3⟩,h4⟩:=h;exact⟨⟨v,h1,h2,hf.tail.2 G w v h3⟩,hf.tail.1.CL h4⟩
def pL {β:Type}: ∀{ds:List TypeDesc} {cs:List CV} {k:List CV->Option β} {r:β},gG ds cs k=some r-> ∃cs',k cs'=some r/\nU cs cs'
 |[],cs,k,r,h=>by simp only[gG]at h;obtain⟨u,h1,h2⟩:=bA.1 h;rw[JM h1];exact⟨[],h2,rfl,λj c c' hc=>by simp at hc⟩
 |d::ds,cs,k,r,h=>by simp only[gG]at h;obtain⟨q,h1,h2⟩:=bA.1 h;rw[Kt h1];obtain⟨c,h3,h4⟩:=wa h2;obtain⟨cs',h5,h6⟩:=pL h3;exact⟨c::cs',h5,h6.cons λG w v hv=>h4 G w 0 0 v (by simpa[LVR]using hv)⟩
def uV {β:Type}{P:Program}{t:TypeId}{x:LV}{k:CV->Option β}{r:β}(h:j5 P t x k=some r):
 ∃c,k c=some r/\ ∀(G:Gh) (w:World) (L nl:Nat) v,LVR G w L nl x v->VR G w c v:=by
 unfold j5 at h;split at h
 ·split at h
  ·obtain⟨cs,h1,h2⟩:=bA.1 h;refine⟨_,h2,λG w L nl v hv=> ?_⟩;rw[o4 h1]at hv;simpa only[LVR]using hv
  ·obtain⟨cs,h1,h2⟩:=bA.1 h;obtain⟨cs',h3,h4⟩:=pL h2;refine⟨_,h3,λG w L nl v hv=> ?_⟩;rw[o4 h1]at hv;simp only[LVR,VR]at hv |-;obtain⟨vs,e,hl⟩:=hv;exact⟨vs,e,h4.VRL hl⟩
 ·split at h
  ·exact wa h
  ·simp at h
def Cz {β:Type}{P:Program}{own:Bool}{t:TypeId}{x:LV}{k:LV->Option β}{r:β}(h:om P own t x k=some r):
 ∃y,k y=some r/\ ∀(G:Gh) (w:World) (L nl:Nat) v,LVR G w L nl x v->LVR G w L nl y v/\(∀b,b6 y v b->b6 x v b)/\(own=false->vI y=false):=by
 unfold om at h;split at h
 ·obtain⟨xs,h1,h2⟩:=bA.1 h;exact⟨_,h2,λG w L nl v hv=>⟨(nz h1 hv).1,(nz h1 hv).2,bE⟩⟩
 ·obtain⟨c,h1,h2⟩:=uV h;exact⟨_,h1,λG w L nl v hv=>⟨by simp only[LVR];exact h2 G w L nl v hv,λb hb=>by simp[b6]at hb,bE⟩⟩
def xv {β:Type}{P:Program}: ∀{ts:List TypeId} {xs:List LV} {k:List LV->Option β} {r:β},i6 P ts xs k=some r->
 ∃ys,k ys=some r/\ ∀(G:Gh) (w:World) (L nl:Nat) vs,en G w L nl xs vs->en G w L nl ys vs
 |[],xs,k,r,h=>by simp only[i6]at h;obtain⟨u,h1,h2⟩:=bA.1 h;rw[JM h1];grind
 |t::ts,xs,k,r,h=>by simp only[i6]at h;obtain⟨q,h1,h2⟩:=bA.1 h;rw[Kt h1];obtain⟨y,h3,h4⟩:=Cz h2;obtain⟨ys,h5,h6⟩:=xv h3;refine⟨y::ys,h5,λG w L nl vs hv=> ?_⟩;simp only[en]at hv |-;grind
def j4 {β:Type}{P:Program}{own:Bool}{t:TypeId}{x:LV}{k:LV->Option β}{r:β}(h:fq P own t x k=some r):
 ∃y,k y=some r/\ ∀(G:Gh) (w:World) (L nl:Nat) v,LVR G w L nl x v->LVR G w L nl y v/\(∀b,b6 y v b->b6 x v b):=by
 unfold fq at h;split at h
 ·obtain⟨xs,h1,h2⟩:=bA.1 h;obtain⟨ys,h3,h4⟩:=xv h2;refine⟨_,h3,λG w L nl v hv=>⟨?_,λb hb=>by simp[b6]at hb⟩⟩;rw[JK h1]at hv;simp only[LVR]at hv |-;grind
 ·obtain⟨y,h1,h2⟩:=Cz h;grind
def zX {β:Type}{P:Program}{b:Bool}{t:TypeId}{x:LV}{k:LV->Option β}{r:β}(h:pf P b t x k=some r):
 ∃y,k y=some r/\ ∀(G:Gh) (w:World) (L nl:Nat) v,LVR G w L nl x v->LVR G w L nl y v/\(∀b,b6 y v b->b6 x v b):=by
 cases b with|true=>exact j4 h|false=>exact⟨x,h,λG w L nl v hv=>⟨hv,λ_ hb=>hb⟩⟩
def Bq {β:Type}{d:TypeDesc}{x:LV}{f:CV->Option β}:k9 d x f=opt (k9 d x some) f:=by unfold k9;cases d<;>(simp only[];first|(cases bN _ x<;>rfl)|(cases bO x<;>rfl)|(cases cg x<;>rfl)|(cases cj x<;>rfl)|(cases cW x<;>rfl))
def tq {β:Type}: ∀{ds:List TypeDesc} {cs:List CV} {f:List CV->Option β},gG ds cs f=opt (gG ds cs some) f
 |[],cs,f=>by unfold gG;cases bZ cs<;>rfl|d::ds,cs,f=>by
  unfold gG;cases bG cs with
  |none=>rfl|some q=>
   simp only[opt];rw[Bq,Bq (f:=λc=>gG ds q.2 λr=>some (c::r))];cases k9 d (.cv q.1) some with|none=>rfl|some c=>simp only[opt];rw[tq,tq (f:=λr=>some (c::r))];cases gG ds q.2 some<;>rfl
def Xa {β:Type}{P:Program}{t:TypeId}{x:LV}{f:CV->Option β}:j5 P t x f=opt (j5 P t x some) f:=by
 unfold j5;cases dN P t with
 |false=>
  simp only[];cases P.underlying t with|none=>rfl|some d=>exact Bq
 |true=>
  simp only[];cases GE P t with
  |true=>cases jZ x<;>rfl|false=>
   cases jZ x with|none=>rfl|some cs=>simp only[opt];rw[tq,tq (f:=λcs=>some (CV.agg cs))];cases gG (GK P 8 t) cs some<;>rfl
def RS {β:Type}{P:Program}{t:TypeId}{x:CV}{f g:CV->Option β}{r:β}(h:jx P t x f=some r)(hfg: ∀c,f c=some r->g c=some r):jx P t x g=some r:=by
 unfold jx at h |-;rw[Xa]at h |-;cases hq:j5 P t (.cv x) some with|none=>rw[hq]at h;cases h|some c=>rw[hq]at h;exact hfg c h
def GB {α β:Type}{b:Bool}{x:Option α}{k:α->Option β}:opt (bD b x) k=bD b (opt x k):=by cases b<;>rfl
def f8 {α β γ:Type}{x:Option α}{f:α->Option β}{k:β->Option γ}:opt (opt x f) k=opt x λa=>opt (f a) k:=by cases x<;>rfl
def pM {β:Type}{b:Bool}{x:LV}{k:List LV->Option β}:wQ b x k=opt (uv b x) k:=by
 cases b
 ·simp only[wQ,uv];cases Cn x<;>rfl
 ·rfl
def uw {c:CV}(h:dJ c=true):c.cells=[c]:=by cases c<;>first|rfl|(simp[dJ]at h;done)
def Co {c:CV}(h:dJ c=true):jt c=true:=by cases c<;>first|exact h|(simp[dJ]at h;done)
def YY {α:Type}{b:Bool}{n:Nat}{c:CV}{k:LV->Option α}{r:α}(h:pS b n c k=some r):bD (Nat.beq c.cells.length n) (k (.cv (.view c.cells)))=some r:=by
 cases b with
 |true=>exact h|false=>simp only[pS]at h;obtain⟨h1,h⟩:=bR.1 h;rw[uw h1];exact h
def pO {b:Bool}{x:LV}{cs:List LV}(h:uv b x=some cs):x.cells=some cs:=by
 cases b with
 |true=>exact h|false=>
  simp only[uv]at h;split at h<;>simp only[bP,reduceCtorEq]at h;rename_i hs;subst h;cases x with|cv c=>simp only[Cn]at hs;simp only[LV.cells,Co hs,uw hs,dr,iA]|ltup xs=>simp[Cn]at hs|_=>rfl
def zy {b:Bool}{c:CV}(h:uS b c=true):jt c=true/\pK b c=c.cells:=by
 cases b with|true=>exact⟨h,rfl⟩|false=>exact⟨Co h,(uw h).symm⟩
def Fa {β:Type}{ag:Nat->Bool}{place:Nat->Option (Nat×Nat)}{ev:Operand->LV}: ∀(l:List (Nat×Operand)) (cs:List CV) (k:List CV->Option β),Gu ag place ev cs l k=opt (rj ag place ev cs l) k
 |[],cs,k=>rfl|q::r,cs,k=>by simp only[Gu,rj,f8,GB,Fa r]
def tP {β:Type}{b:Bool}{sz:Nat}{ev:Operand->LV}: ∀(l:List (Nat×Operand)) (n:Nat) (k:List CV->Option β),VK b sz ev n l k=opt (sT b sz ev n l) k
 |[],n,k=>rfl|q::r,n,k=>by simp only[VK,sT,f8,GB,tP r];rfl
def vC {β:Type}{P:Program}{t:TypeId}{ev:Operand->LV}{l:List (Nat×Operand)}{k:CV->Option β}:Gj P t ev l k=opt (pH P t ev l) k:=by
 unfold Gj pH;simp only[f8];congr;funext z;split
 ·simp only[f8,Fa];rfl
 ·simp only[f8,Fa];rfl
 ·rfl
def DG {ag:Nat->Bool}{place:Nat->Option (Nat×Nat)}{ev ev':Operand->LV}: ∀{l:List (Nat×Operand)} {cs:List CV},(∀q∈l,ev' q.2=ev q.2)->rj ag place ev' cs l=rj ag place ev cs l
 |[],cs,_=>rfl|q::r,cs,h=>by simp only[rj];rw[h q bE];simp only[DG (l:=r) λx hx=>h x (fw _ hx)]
def y9 {b:Bool}{sz:Nat}{ev ev':Operand->LV}: ∀{l:List (Nat×Operand)} {n:Nat},(∀q∈l,ev' q.2=ev q.2)->sT b sz ev' n l=sT b sz ev n l
 |[],n,_=>rfl|q::r,n,h=>by simp only[sT];rw[h q bE];simp only[y9 (l:=r) λx hx=>h x (fw _ hx)]
def L0 {P:Program}{t:TypeId}{ev ev':Operand->LV}{l:List (Nat×Operand)}(h: ∀q∈l,ev' q.2=ev q.2):pH P t ev' l=pH P t ev l:=by unfold pH;simp only[DG h]
def Bv {ag:Nat->Bool}{place:Nat->Option (Nat×Nat)}{ev:Operand->LV}: ∀{l:List (Nat×Operand)} {cs out:List CV},rj ag place ev cs l=some out-> ∃ps,lr ev l=some ps/\pT place cs ps=some out
 |[],cs,out,h=>⟨[],rfl,h⟩|q::r,cs,out,h=>by
  simp only[rj]at h;obtain⟨p,h1,h⟩:=bA.1 h;obtain⟨c,h2,h⟩:=bA.1 h;obtain⟨h3,h⟩:=bR.1 h;obtain⟨h4,h⟩:=bR.1 h;obtain⟨e1,e2⟩:=zy h3;rw[e2]at h4 h;obtain⟨ps,h5,h6⟩:=Bv h;refine⟨(q.1,c)::ps,?_,?_⟩
  ·simp only[lr];exact bA.2 ⟨c,h2,bR.2 ⟨e1,bA.2 ⟨ps,h5,rfl⟩⟩⟩
  ·simp only[pT,h1];grind
def Ng {b:Bool}{sz:Nat}{ev:Operand->LV}: ∀{l:List (Nat×Operand)} {n:Nat} {xs:List CV},sT b sz ev n l=some xs-> ∃ps,lr ev l=some ps/\BJ sz n ps=some xs
 |[],n,xs,h=>⟨[],rfl,h⟩|q::r,n,xs,h=>by
  simp only[sT]at h;obtain⟨c,h2,h⟩:=bA.1 h;obtain⟨h3,h⟩:=bR.1 h;obtain⟨h4,h⟩:=bR.1 h;obtain⟨l,h5,h⟩:=bA.1 h;obtain⟨e1,e2⟩:=zy h3;rw[e2]at h4;obtain⟨ps,h6,h7⟩:=Ng h5;refine⟨(q.1,c)::ps,?_,?_⟩
  ·simp only[lr];exact bA.2 ⟨c,h2,bR.2 ⟨e1,bA.2 ⟨ps,h6,rfl⟩⟩⟩
  ·simp only[BJ];simp_all
def U8 {P:Program}{t:TypeId}{ev:Operand->LV}{l:List (Nat×Operand)}{c:CV}(h:pH P t ev l=some c): ∃ps,lr ev l=some ps/\Gi P t ps=some c:=by
 unfold pH at h;obtain⟨z,h1,h⟩:=bA.1 h;split at h
 ·rename_i fs hu;obtain⟨pl,h2,h⟩:=bA.1 h;obtain⟨cs,h3,h⟩:=bA.1 h;obtain⟨ps,h4,h5⟩:=Bv h3;refine⟨ps,h4,?_⟩;unfold Gi;refine bA.2 ⟨z,h1,?_⟩;rw[hu];exact bA.2 ⟨pl,h2,bA.2 ⟨cs,h5,h⟩⟩
 ·rename_i e n hu;obtain⟨sz,h2,h⟩:=bA.1 h;obtain⟨cs,h3,h⟩:=bA.1 h;obtain⟨ps,h4,h5⟩:=Bv h3;refine⟨ps,h4,?_⟩;unfold Gi;refine bA.2 ⟨z,h1,?_⟩;rw[hu];exact bA.2 ⟨sz,h2,bA.2 ⟨cs,h5,h⟩⟩
 ·cases h
def rt {α:Type}{P:Program}{t:TypeId}{o:Ob}{off:Nat}{v:LV}{k:Ob->Option α}:qP P t o off v k=opt (dv P t o off v) k:=by
 cases o with
 |arr sz cs=>
  simp only[qP,dv];cases cW v with
  |none=>rfl|some c=>
   simp only[opt];cases er P t with|none=>rfl|some n=>simp only[];cases (fJ n c&&Nat.ble (off+n) cs.length)<;>rfl
 |cells cs=>
  simp only[qP,dv,pM];cases uv (dN P t) v with
  |none=>rfl|some vs=>
   simp only[opt];cases er P t with|none=>rfl|some n=>simp only[];cases (Nat.beq vs.length n&&Nat.ble (off+n) cs.length)<;>rfl
 |dead=>rfl|map ks vs=>rfl
end
section
variable {G:Gh}{w:World}{L nl:Nat}{P:Program}
def ab9 {op:BinOp}{t:TypeId}{k k':IntKind}{a b:Int}{c:CV}(h:uB op k a k' b=some c):
 ∃v,(binOp op t (.int k a) (.int k' b)).run P w= .ok v w/\c= .v v:=by
 by_cases hs:op= .shl\/op= .shr
 ·rcases hs with rfl|rfl<;>unfold uB at h<;>simp only[]at h<;>
   (cases hb : decide (b < 0) <;> simp only [hb, bP, reduceCtorEq] at h
    have hb': ¬b<0:=by simpa using hb
    exact⟨_,by simp only[binOp,Op.shift,bB hb'];rfl,h.symm⟩)
 ·have hk:decide (k=k')=true:=by
   cases hk:decide (k=k')with|true=>rfl|false=>exfalso;unfold uB at h;cases op<;>simp_all
  simp only[dA]at hk;subst hk;unfold uB at h;cases op<;>simp only[iB]at h
  case quo=>
   cases hb:decide (b=0)<;>simp only[hb,bP,reduceCtorEq]at h;have hb': ¬b=0:=by simpa using hb
   exact⟨_,by simp only[binOp,ne_eq,xC,du,Op.intDiv,bB hb'];rfl,h.symm⟩
  case rem=>
   cases hb:decide (b=0)<;>simp only[hb,bP,reduceCtorEq]at h;have hb': ¬b=0:=by simpa using hb
   exact⟨_,by simp only[binOp,ne_eq,xC,du,Op.intDiv,bB hb'];rfl,h.symm⟩
  case shl=>exact absurd (.inl rfl) hs
  case shr=>exact absurd (.inr rfl) hs
  all_goals
   simp only[bP]at h;exact⟨_,by simp only[binOp,ne_eq,xC,du];rfl,h.symm⟩
def zV (a b:ByteArray):(a.toList == b.toList)=decide (a.data.toList=b.data.toList):=by rw[I9,I9];grind
theorem Kj (a:ByteArray):a.size=a.data.toList.length:=rfl
theorem ZS (a b:ByteArray):a++b=⟨⟨a.data.toList++b.data.toList⟩⟩:=by rfl
def adr {op:BinOp}{t:TypeId}{a b:ByteArray}{c:CV}(h:Pa op a.data.toList b.data.toList=some c):
 ∃v,(binOp op t (.string a) (.string b)).run P w= .ok v w/\c= .v v:=by
 unfold Pa at h;have hb:binOp op t (.string a) (.string b)=Op.stringOp op a b:=by cases op<;>rfl
 rw[hb];cases op<;>simp only[bP,reduceCtorEq]at h
 ·cases hs:small (a.data.toList.length+b.data.toList.length)<;>simp only[hs,bP,reduceCtorEq]at h;simp only[small,dA]at hs;refine⟨_,?_,h.symm⟩;have: ¬((a.size+b.size:Nat):Int)>IntKind.i64.max:=by rw[Kj,Kj];simp only[IntKind.max,IntKind.bits,IntKind.signed];omega
  simp only[Op.stringOp,bB this,fA,ZS]
 all_goals
  refine⟨_,rfl,?_⟩;rw[<-h];simp only[CV.bool]
  (try rw[zV])
  (try simp only[I9])
def Vd {d:TypeDesc}{c c':CV}{b:Bool}(h:L7 c c'=some b): ∃v v',c= .v v/\c'= .v v'/\
 ((∃k m n,v= .int k m/\v'= .int k n/\b=decide (m=n))\/(∃m n,v= .bool m/\v'= .bool n/\b=(m == n))\/(∃m n,v= .string m/\v'= .string n/\b=decide (m.data.toList=n.data.toList))):=by
 unfold L7 at h;grind
def gE: ∀{cs:List CV} {vs:List Value},VRL G w cs vs->cs.length=vs.length/\ ∀(j:Nat) c,cs[j]? =some c-> ∃v,vs[j]? =some v/\VR G w c v
 |[],vs,h=>by simp only[VRL]at h;subst h;exact⟨rfl,λj c hc=>by simp at hc⟩|c::cs,vs,h=>by simp only[VRL]at h;obtain⟨v,r,rfl,h1,h2⟩:=h;obtain⟨e,hg⟩:=gE h2;grind
def xS: ∀{cs:List LV} {vs:List Value},en G w L nl cs vs->cs.length=vs.length/\ ∀(j:Nat) c,cs[j]? =some c-> ∃v,vs[j]? =some v/\LVR G w L nl c v/\vI c=false
 |[],vs,h=>by simp only[en]at h;subst h;exact⟨rfl,λj c hc=>by simp at hc⟩|c::cs,vs,h=>by simp only[en]at h;obtain⟨v,r,rfl,h0,h1,h2⟩:=h;obtain⟨e,hg⟩:=xS h2;grind
def afV {op:UnOp}{x:LV}{v:Value}{c:CV}(h:unA op x=some c)(hv:LVR G w L nl x v):
 ∃u,(Op.unary op v).run P w= .ok u w/\c= .v u:=by
 unfold unA at h;split at h
 ·simp only[LVR,VR]at hv;subst hv;cases op<;>simp only[bP,reduceCtorEq]at h;exact⟨_,rfl,h.symm⟩
 ·simp only[LVR,VR]at hv;subst hv;cases op<;>simp only[bP,reduceCtorEq]at h
  ·exact⟨_,by simp[Op.unary,Op.intArith],h.symm⟩
  ·exact⟨_,by simp[Op.unary,Op.intBits],h.symm⟩
 ·simp at h
def aaM {t:Bool}{x y:LV}{u v:Value}(hx:LVR G w L nl x u)(hy:LVR G w L nl y v):
 LVR G w L nl (Hh t x y) (if t=true then u else v)/\ ∀b,b6 (Hh t x y) (if t=true then u else v) b->b6 x u b\/b6 y v b:=by
 unfold Hh;grind
end
section
variable {G:Gh}{w:World}{L nl:Nat}{P:Program}
def RF {t:TypeId}{d:TypeDesc}(h:P.underlying t=some d)(hs: ∀fs,d≠ .struct fs)(ha: ∀n e,d≠ .array n e){cs:Array Value}{off:Nat}{v:Value}(hv:cs[off]? =some v):
 (part t cs off).run P w= .ok v w:=by
 simp only[part,isAgg,dk,df h,dq];simp_all
def Bt {xs ys:Array Value}{d:Nat}: ∀(fs:List Field) (k:Nat) (ms ns:List CV) (r:Bool),
 (fs.zipIdx k).all (λq=>q.1.offset == q.2&&q.1.name != "_" &&(match P.underlying q.1.type with|some (.int _)=>true|some .bool=>true|some .string=>true|_=>false))=true->
 nD (fs.map λf=>(P.underlying f.type).getD .invalid) ms=true->nD (fs.map λf=>(P.underlying f.type).getD .invalid) ns=true->
 (∀j u,ms[j]? =some (.v u)->xs[k+j]? =some u)->(∀j u,ns[j]? =some (.v u)->ys[k+j]? =some u)->wP ms ns=some r->
 (Op.eqFields (d+1) xs ys fs).run P w= .ok r w
 |[],k,ms,ns,r,h1,h2,h3,h4,h5,h6=>by cases ms<;>cases ns<;>simp[nD,wP]at h2 h3 h6;subst h6;rfl|f::fs,k,ms,ns,r,h1,h2,h3,h4,h5,h6=>by
  cases ms with
  |nil=>simp[nD]at h2|cons m ms=>
   cases ns with
   |nil=>simp[nD]at h3|cons n ns=>
    simp only[dr,nD,cE]at h2 h3;simp only[List.zipIdx_cons,Dp,cE,beq_iff_eq,bne_iff_ne]at h1;obtain⟨⟨⟨ho,hn⟩,hk⟩,hr⟩:=h1;simp only[wP]at h6;obtain⟨b,hb,h6⟩:=bA.1 h6;obtain⟨b2,hb2,h6⟩:=bA.1 h6;simp only[bP]at h6;have ih:=Bt (d:=d) (xs:=xs) (ys:=ys) fs (k+1) ms ns b2 (by simpa[cE]using hr) h2.2 h3.2 (λj u hu=>by have:=h4 (j+1) u (by simpa using hu);rw[<-this];congr 1;omega)
     (λj u hu=>by have:=h5 (j+1) u (by simpa using hu);rw[<-this];congr 1;omega) hb2
    obtain⟨u,v,rfl,rfl,hc⟩:=Vd (d:= .bool) hb;have hx:=h4 0 u rfl;have hy:=h5 0 v rfl;simp only[j8]at hx hy;have hrun:(Op.equalIn (d+1) f.type u v).run P w= .ok b w:=by
     rcases hc with⟨kk,m,n,rfl,rfl,rfl⟩|⟨m,n,rfl,rfl,rfl⟩|⟨m,n,rfl,rfl,rfl⟩
     ·have: ∃k',P.underlying f.type=some (.int k'):=by have h2':=h2.1;split at hk<;>rename_i hu<;>simp only[hu,ia,GJ]at h2'<;>first|exact⟨_,hu⟩|simp at h2'|simp at hk
      obtain⟨k',hu⟩:=this;rw[run_equalIn_int w d f.type kk k' m n hu];rfl
     ·have:P.underlying f.type=some .bool:=by have h2':=h2.1;split at hk<;>rename_i hu<;>simp only[hu,ia,GJ]at h2'<;>first|exact hu|simp at h2'|simp at hk
      rw[run_equalIn_bool' w d f.type m n this]
     ·have:P.underlying f.type=some .string:=by have h2':=h2.1;split at hk<;>rename_i hu<;>simp only[hu,ia,GJ]at h2'<;>first|exact hu|simp at h2'|simp at hk
      rw[run_equalIn_string w d f.type m n this,zV]
    have hp: ∀{cs:Array Value} {v:Value},cs[k]? =some v->(part f.type cs f.offset).run P w= .ok v w:=by intro cs v hv;rw[ho];split at hk<;>rename_i hu<;>first|exact RF hu bE bE hv|simp at hk
    simp only[Op.eqFields,hn,ne_eq,not_false_eq_true,cQ,dk,hp hx,hp hy,dq,hrun];cases b
    all_goals simp_all
def zI {x:CV}{xs:List CV}{u:Value}(h:VR G w (.sl (x::xs)) u): ∃A n c,u= .slice (some A) (n+1) c:=by simp only[VR]at h;grind
def CM (P:Program)(w:World)(t:TypeId)(u cn:Value)(r:Bool):Prop:=
 (∀op o,(eqGuard op t o (.const cn) u cn).run P w= .ok () w/\(eqGuard op t (.const cn) o cn u).run P w= .ok () w)/\
 (binOp .eql t u cn).run P w= .ok (.bool r) w/\(binOp .neq t u cn).run P w= .ok (.bool (!r)) w/\(binOp .eql t cn u).run P w= .ok (.bool r) w/\(binOp .neq t cn u).run P w= .ok (.bool (!r)) w
def MM {t e:TypeId}(hd:P.underlying t=some (.pointer e))(d:Nat)(A:Option Addr):
 (Op.equalIn (d+1) t (.pointer A) (.pointer none)).run P w= .ok A.isNone w/\(Op.equalIn (d+1) t (.pointer none) (.pointer A)).run P w= .ok A.isNone w:=by
 cases A<;>simp[Op.equalIn,df hd]
def TB {t:TypeId}{ms:Array (String×TypeId)}(hd:P.underlying t=some (.interface ms))(d:Nat):(Op.equalIn (d+1) t .nilIface .nilIface).run P w= .ok true w:=by simp[Op.equalIn,df hd]
def ML {t k:TypeId}{v:Value}{ms:Array (String×TypeId)}(hd:P.underlying t=some (.interface ms))(d:Nat):
 (Op.equalIn (d+1) t (.iface k v) .nilIface).run P w= .ok false w/\(Op.equalIn (d+1) t .nilIface (.iface k v)).run P w= .ok false w:=by
 simp[Op.equalIn,df hd]
def TC {t e:TypeId}(hd:P.underlying t=some (.slice e))(d:Nat)(A:Option Addr)(n c:Nat)(h:A=none->n=0/\c=0):
 (Op.equalIn (d+1) t (.slice A n c) (.slice none 0 0)).run P w= .ok A.isNone w/\(Op.equalIn (d+1) t (.slice none 0 0) (.slice A n c)).run P w= .ok A.isNone w:=by
 cases A with
 |none=>obtain⟨rfl,rfl⟩:=h rfl;simp[Op.equalIn,df hd]
 |some a=>simp[Op.equalIn,df hd]
def Ha {t:TypeId}{u cn:Value}{r:Bool}(h1: ∀d,(Op.equalIn (d+1) t u cn).run P w= .ok r w)(h2: ∀d,(Op.equalIn (d+1) t cn u).run P w= .ok r w)
 (hg: ∀op o,(eqGuard op t o (.const cn) u cn).run P w= .ok () w/\(eqGuard op t (.const cn) o cn u).run P w= .ok () w)
 (hb:binOp .eql t u cn=(do pure (.bool (<-Op.equal t u cn)))/\binOp .neq t u cn=(do pure (.bool (!(<-Op.equal t u cn))))/\binOp .eql t cn u=(do pure (.bool (<-Op.equal t cn u)))/\binOp .neq t cn u=(do pure (.bool (!(<-Op.equal t cn u))))):
 CM P w t u cn r:=by
 have e1:(Op.equal t u cn).run P w= .ok r w:=h1 9999;have e2:(Op.equal t cn u).run P w= .ok r w:=h2 9999;refine⟨hg,?_,?_,?_,?_⟩
 all_goals simp_all
def C3 {t e:TypeId}(hd:P.underlying t=some (.pointer e))(A:Option Addr):CM P w t (.pointer A) (.pointer none) A.isNone:=
 Ha (λd=>(MM hd d A).1) (λd=>(MM hd d A).2) (λop o=>by cases op<;>exact⟨rfl,rfl⟩) ⟨rfl,rfl,rfl,rfl⟩
def ahs {t:TypeId}{ms:Array (String×TypeId)}(hd:P.underlying t=some (.interface ms)):CM P w t .nilIface .nilIface true:=
 Ha (λd=>TB hd d) (λd=>TB hd d) (λop o=>by cases op<;>cases o<;>exact⟨rfl,rfl⟩) ⟨rfl,rfl,rfl,rfl⟩
def afx {t k:TypeId}{v:Value}{ms:Array (String×TypeId)}(hd:P.underlying t=some (.interface ms)):CM P w t (.iface k v) .nilIface false:=
 Ha (λd=>(ML hd d).1) (λd=>(ML hd d).2) (λop o=>by cases op<;>exact⟨rfl,rfl⟩) ⟨rfl,rfl,rfl,rfl⟩
def OA {t e:TypeId}(hd:P.underlying t=some (.slice e))(A:Option Addr)(n c:Nat)(h:A=none->n=0/\c=0):CM P w t (.slice A n c) (.slice none 0 0) A.isNone:=
 Ha (λd=>(TC hd d A n c h).1) (λd=>(TC hd d A n c h).2) (λop o=>by cases op<;>exact⟨rfl,rfl⟩) ⟨rfl,rfl,rfl,rfl⟩
def JD {t:TypeId}{d:TypeDesc}{u cn:Value}{r:Bool}{x:LV}(hd:P.underlying t=some d)(hx:B4 d cn x=some r)(hv:LVR G w L nl x u):CM P w t u cn r:=by
 unfold B4 at hx;split at hx
 ·unfold uJ at hx;split at hx<;>simp only[bP,reduceCtorEq]at hx<;>subst hx
  ·simp only[LVR,VR]at hv;subst hv;exact C3 hd _
  ·simp only[LVR,VR]at hv;obtain⟨b,off,rfl,_⟩:=hv;exact C3 hd _
  ·simp only[LVR,VR]at hv;obtain⟨_,rfl⟩:=hv;exact C3 hd _
  ·simp only[LVR]at hv;obtain⟨_,rfl⟩:=hv;exact C3 hd _
 ·unfold KX at hx;split at hx<;>simp only[bP,reduceCtorEq]at hx<;>subst hx
  ·simp only[LVR,VR]at hv;subst hv;exact ahs hd
  ·simp only[LVR,VR]at hv;obtain⟨v,rfl,_⟩:=hv;exact afx hd
 ·unfold aec at hx;split at hx<;>simp only[bP,reduceCtorEq]at hx<;>subst hx
  ·simp only[LVR,VR]at hv;subst hv;exact OA hd none 0 0 bE
  ·simp only[LVR]at hv;obtain⟨A,n,c,rfl⟩:=zI hv;exact OA hd (some A) _ _ bE
  ·simp only[LVR]at hv;obtain⟨A,n,c,rfl⟩:=zI (lL hv);exact OA hd (some A) _ _ bE
 ·simp at hx
def PJ {op:BinOp}{t:TypeId}{x y:Operand}{k k':IntKind}{m n:Int}:(eqGuard op t x y (.int k m) (.int k' n)).run P w= .ok () w:=by cases op<;>rfl
def PK {op:BinOp}{t:TypeId}{x y:Operand}{m n:ByteArray}:(eqGuard op t x y (.string m) (.string n)).run P w= .ok () w:=by cases op<;>rfl
def Bu {op:BinOp}{t:TypeId}{x y:Operand}{m n:Bool}:(eqGuard op t x y (.bool m) (.bool n)).run P w= .ok () w:=by cases op<;>rfl
def Si {t:TypeId}(hd:P.underlying t=some .bool)(m n:Bool):(Op.equal t (.bool m) (.bool n)).run P w= .ok (m == n) w:=run_equalIn_bool' w 9999 t m n hd
def Gn {x:Operand}{c:Value}(h:oW x=some c):x= .const c:=by cases x<;>simp[oW]at h |-; exact h
def abN {op:BinOp}{t:TypeId}{x y:Operand}{a b:LV}{c:CV}{u v:Value}(h:yJ P op t x y a b=some c)(ha:LVR G w L nl a u)(hb:LVR G w L nl b v)
 (hx: ∀cc,x= .const cc->u=cc) (hy: ∀cc,y= .const cc->v=cc):
 ∃cv,(do eqGuard op t x y u v;binOp op t u v:Sem Value).run P w= .ok cv w/\c= .v cv:=by
 unfold yJ at h;split at h
 ·simp only[LVR,VR]at ha hb;subst ha;subst hb;obtain⟨cv,h1,h2⟩:=ab9 (P:=P) (w:=w) (t:=t) h;exact⟨cv,by simp only[dk,PJ,dq];exact h1,h2⟩
 ·simp only[LVR,VR]at ha hb;subst ha;subst hb;obtain⟨cv,h1,h2⟩:=adr (P:=P) (w:=w) (t:=t) h;exact⟨cv,by simp only[dk,PK,dq];exact h1,h2⟩
 ·simp only[LVR,VR]at ha hb;subst ha;subst hb;rename_i m n;split at h<;>simp only[bP,reduceCtorEq]at h
  ·rename_i ht;refine⟨.bool (m == n),?_,h.symm⟩;simp only[dk,Bu,dq];show ((do pure (Value.bool (<-Op.equal t (.bool m) (.bool n))):Sem Value).run P w)=_;rw[dk,Si ht];rfl
  ·rename_i ht;refine⟨.bool (!(m == n)),?_,h.symm⟩;simp only[dk,Bu,dq];show ((do pure (Value.bool (!(<-Op.equal t (.bool m) (.bool n)))):Sem Value).run P w)=_;rw[dk,Si ht];rfl
 ·rename_i m n;obtain⟨ds,h1,ha1⟩:=bA.1 h;obtain⟨h2,ha2⟩:=bR.1 ha1;obtain⟨h3,ha3⟩:=bR.1 ha2;obtain⟨r,h4,hfin⟩:=bA.1 ha3;clear h ha1 ha2 ha3;unfold Ea at h1;split at h1<;>try(simp at h1;done)
  rename_i fs ht;split at h1<;>simp only[bP,reduceCtorEq]at h1;rename_i hc;simp only[cE,iL]at hc;subst h1;have hf:P.fieldsOf t=fs:=by simp[Program.fieldsOf,ht]
  simp only[LVR,VR]at ha hb;obtain⟨xs,rfl,hxs⟩:=ha;obtain⟨ys,rfl,hys⟩:=hb;have hg:(Op.equalIn 10000 t (.agg xs) (.agg ys)).run P w= .ok r w:=by
   rw[run_equalIn_struct w 9999 t xs ys (by rw[hf];exact ht) hc.1.2,hf];refine Bt fs.toList 0 m n r hc.1.1 h2 h3 (λj u hu=> ?_) (λj u hu=> ?_) h4
   ·obtain⟨v,hv,hr⟩:=(gE hxs).2 j _ hu;simp only[VR]at hr;subst hr;simpa using hv
   ·obtain⟨v,hv,hr⟩:=(gE hys).2 j _ hu;simp only[VR]at hr;subst hr;simpa using hv
  cases op<;>simp only[bP,reduceCtorEq]at hfin
  ·exact⟨_,by simp only[dk,run_eqGuard_agg w _ t x y xs ys hc.2,dq,run_eql_struct,hg],hfin.symm⟩
  ·exact⟨_,by simp only[dk,run_eqGuard_agg w _ t x y xs ys hc.2,dq,run_neq_struct,hg],hfin.symm⟩
 ·obtain⟨d,hd,hb1⟩:=bA.1 h;clear h;simp only[]at hb1;split at hb1
  ·rename_i cc hcc;have hyc:=Gn hcc;obtain⟨r,hr,hfin⟩:=bA.1 hb1;clear hb1;have hv:=hy cc hyc;subst hv;obtain⟨hG,e1,e2,_,_⟩:=JD (P:=P) hd hr ha;subst hyc;cases op<;>simp only[bP,reduceCtorEq]at hfin
   ·exact⟨_,by simp only[dk,(hG .eql x).1,dq,e1],hfin.symm⟩
   ·exact⟨_,by simp only[dk,(hG .neq x).1,dq,e2],hfin.symm⟩
  ·obtain⟨cc,hcc,hb2⟩:=bA.1 hb1;have hxc:=Gn hcc;obtain⟨r,hr,hfin⟩:=bA.1 hb2;clear hb1 hb2;have hu:=hx cc hxc;subst hu;obtain⟨hG,_,_,e1,e2⟩:=JD (P:=P) hd hr hb;subst hxc;cases op<;>simp only[bP,reduceCtorEq]at hfin
   ·exact⟨_,by simp only[dk,(hG .eql y).2,dq,e1],hfin.symm⟩
   ·exact⟨_,by simp only[dk,(hG .neq y).2,dq,e2],hfin.symm⟩
end
def ij (b off j:Nat):(⟨b,off,none⟩:Addr).add j=⟨b,off+j,none⟩:=by unfold Addr.add;split<;>simp_all
section
variable {G:Gh}{w:World}{L nl:Nat}{P:Program}
def K7 {b:Nat}: ∀{off:Nat} {cs:List CV},CL G w b off cs-> ∀(j:Nat) c,cs[j]? =some c-> ∃v,w.cell? ⟨b,off+j,none⟩=some v/\off+j<G.O b/\VR G w c v
 |off,[],h,j,c,hc=>by simp at hc|off,x::r,h,j,c,hc=>by
  simp only[CL]at h;cases j with|zero=>simp_all|succ j=>have:=K7 h.2 j c (by simpa using hc);grind
def wq {b:Nat}: ∀{off:Nat} {cs:List CV} (n:Nat),CL G w b off cs->CL G w b (off+n) (cs.drop n)
 |off,cs,0,h=>by simpa using h|off,[],n+1,h=>by simp[CL]|off,x::r,n+1,h=>by simp only[CL]at h;rw[show off+(n+1)=off+1+n by omega];exact wq n h.2
def HI {b:Nat}: ∀{off:Nat} {cs:List CV} (n:Nat),CL G w b off cs->CL G w b off (cs.take n)
 |off,cs,0,h=>by simp[CL]|off,[],n+1,h=>by simp[CL]|off,x::r,n+1,h=>by simp only[CL,xA]at h |-;exact⟨h.1,HI n h.2⟩
def HJ {b:Nat}: ∀{off:Nat} {cs:List CV},CL G w b off cs-> ∃vs,VRL G w cs vs/\ ∀(j:Nat) v,vs[j]? =some v->w.cell? ⟨b,off+j,none⟩=some v
 |off,[],h=>⟨[],by simp[VRL],λj v hv=>by simp at hv⟩|off,x::r,h=>by simp only[CL]at h;obtain⟨⟨v,h1,h2,h3⟩,h4⟩:=h;obtain⟨vs,h5,h6⟩:=HJ h4;refine⟨v::vs,by simp only[VRL];exact⟨v,vs,rfl,h3,h5⟩,λj u hu=> ?_⟩;grind
def DI {t:TypeId}(h:dN P t=true):(isAgg t).run P w= .ok true w:=by unfold dN at h;split at h<;>first|(rename_i hu;simp[isAgg,df hu];done)|simp at h
def BD {t:TypeId}{d:TypeDesc}(hd:P.underlying t=some d)(h:dN P t=false):(isAgg t).run P w= .ok false w:=by unfold dN at h;simp only[isAgg,dk,df hd,dq];rw[hd]at h;cases d<;>simp at h |-
def ge {t:TypeId}{n:Nat}(h:er P t=some n):(sizeOf t).run P w= .ok n w:=by unfold er at h;split at h<;>simp only[bP,reduceCtorEq]at h;rename_i i hi;simp[sizeOf,typeInfo,hi,h]
def Hs {t:TypeId}{n:Nat}(h:er P t=some n): ∃i,P.info? t=some i/\i.size=n:=by unfold er at h;grind
def mZ {t:TypeId}{b off:Nat}{vs:List Value}(hv: ∀(j:Nat) v,vs[j]? =some v->w.cell? ⟨b,off+j,none⟩=some v)
 (hd: ∃d,P.underlying t=some d):
 (dN P t=true-> ∀n,er P t=some n->vs.length=n->(Instr.loadAt t (.pointer (some ⟨b,off,none⟩))).run P w= .ok (.agg vs.toArray) w)/\
 (dN P t=false-> ∀v,vs[0]? =some v->(Instr.loadAt t (.pointer (some ⟨b,off,none⟩))).run P w= .ok v w):=by
 refine⟨λh n hn hl=> ?_,λh v h0=> ?_⟩
 ·simp only[Instr.loadAt,Instr.sureAddr,loadVar,dk,fA,dq,DI h,cQ,ge hn];rw[<-hl,run_loadCells_list (P:=P) w ⟨b,off,none⟩ vs (λj v hjv=>by rw[ij];exact hv j v hjv)];simp
 ·obtain⟨d,hd⟩:=hd;have hc:=hv 0 v h0;simp only[j8]at hc;simp[Instr.loadAt,Instr.sureAddr,loadVar,BD hd h,hc]
def Pc {t:TypeId}{b off k:Nat}{cs:List CV}{c:CV}(h:kZ P t cs k=some c)(hd: ∃d,P.underlying t=some d)(hc:CL G w b off cs):
 ∃v,(Instr.loadAt t (.pointer (some ⟨b,off+k,none⟩))).run P w= .ok v w/\VR G w c v:=by
 unfold kZ at h;split at h
 ·rename_i ha;obtain⟨n,hn,h⟩:=bA.1 h;split at h<;>simp only[bP,reduceCtorEq]at h;rename_i hle;have hle:=gr hle;subst h;obtain⟨vs,h1,h2⟩:=HJ (HI n (wq k hc));refine⟨_,(mZ h2 hd).1 ha n hn ?_,?_⟩
  ·rw[<-(gE h1).1];grind
  ·simp only[VR];simp_all
 ·rename_i ha;obtain⟨v,h1,h2,h3⟩:=K7 hc k c h;refine⟨v,(mZ (vs:=[v]) (λj u hu=> ?_) hd).2 (by simpa using ha) v rfl,h3⟩;grind
def Eu: ∀(n:Nat) {cs:List CV} {vs:List Value},VRL G w cs vs->VRL G w (cs.take n) (vs.take n)
 |0,cs,vs,h=>by simp[VRL]|n+1,[],vs,h=>by simp only[VRL]at h;subst h;simp[VRL]|n+1,c::cs,vs,h=>by simp only[VRL]at h;obtain⟨v,r,rfl,h1,h2⟩:=h;simp only[xA,VRL];exact⟨v,_,rfl,h1,Eu n h2⟩
def Et: ∀(n:Nat) {cs:List CV} {vs:List Value},VRL G w cs vs->VRL G w (cs.drop n) (vs.drop n)
 |0,cs,vs,h=>by simpa using h|n+1,[],vs,h=>by simp only[VRL]at h;subst h;simp[VRL]|n+1,c::cs,vs,h=>by simp only[VRL]at h;obtain⟨v,r,rfl,h1,h2⟩:=h;simpa using Et n h2
def Cs {t:TypeId}{k:Nat}{cs:List CV}{c:CV}{vs:Array Value}(h:kZ P t cs k=some c)(hd: ∃d,P.underlying t=some d)(hc:VRL G w cs vs.toList):
 ∃v,(part t vs k).run P w= .ok v w/\VR G w c v:=by
 unfold kZ at h;obtain⟨hl,hg⟩:=gE hc;split at h
 ·rename_i ha;obtain⟨n,hn,h⟩:=bA.1 h;split at h<;>simp only[bP,reduceCtorEq]at h;subst h;refine⟨_,by simp only[part,dk,DI ha,dq,cQ,ge hn];rfl,?_⟩;simp only[VR];refine⟨_,rfl,?_⟩;have:(vs.extract k (k+n)).toList=(vs.toList.drop k).take n:=by simp[List.take_drop]
  rw[this];exact Eu n (Et k hc)
 ·rename_i ha;obtain⟨d,hd⟩:=hd;obtain⟨v,h1,h2⟩:=hg k c h;have h1':vs[k]? =some v:=by simpa using h1
  exact⟨v,by simp[part,BD hd (by simpa using ha),h1'],h2⟩
def zN {s:TypeId}{f:Nat}{q:Nat×TypeId}(h:qE P s f=some q):
 ∃fs fd n,P.underlying s=some (.struct fs)/\fs[f]? =some fd/\er P fd.type=some (n+1)/\q=(fd.offset,fd.type):=by
 unfold qE at h;grind
def PL {s:TypeId}{f:Nat}{q:Nat×TypeId}(h:qE P s f=some q)(b off:Nat):
 (Instr.fieldAt s (.pointer (some ⟨b,off,none⟩)) f).run P w= .ok (.pointer (some ⟨b,off+q.1,none⟩)) w:=by
 obtain⟨fs,fd,n,hu,hf,hs,rfl⟩:=zN h;simp[Instr.fieldAt,df hu,hf,Instr.sureAddr,fieldPlace,ge hs,ij]
def Y2 {s:TypeId}{f:Nat}{q:Nat×TypeId}{cs:List CV}{c:CV}{vs:Array Value}(h:qE P s f=some q)(ht:kZ P q.2 cs q.1=some c)(hd: ∃d,P.underlying q.2=some d)(hc:VRL G w cs vs.toList):
 ∃v,(Instr.field s (.agg vs) f).run P w= .ok v w/\VR G w c v:=by
 obtain⟨fs,fd,n,hu,hf,hs,rfl⟩:=zN h;obtain⟨v,h1,h2⟩:=Cs ht hd hc;exact⟨v,by simp[Instr.field,df hu,hf,asAgg,h1],h2⟩
def abk {t:TypeId}{s:ByteArray}{k:IntKind}{i:Int}{b:UInt8}(ht:P.underlying t=some .string)(h:dm s.data.toList i=some b):
 (Instr.index t (.string s) (.int k i)).run P w= .ok (.int .u8 (b.toNat:Int)) w:=by
 unfold dm at h;split at h<;>try(simp at h;done)
 rename_i h0;simp only[dA]at h0;obtain⟨hl,hg⟩:=dP.1 h;have hs:i.toNat<s.size:=hl;have:s[i.toNat]? =some b:=by rw[ByteArray.getElem?_lt' s _ hs];exact mE some hg
 simp[Instr.index,asIntOf,df ht,h0,this]
def JA {α:Type}{xs r:List α}{lo hi:Int}(h:gc xs lo hi=some r):0<=lo/\lo<=hi/\hi<=(xs.length:Int)/\r=(xs.drop lo.toNat).take (hi-lo).toNat:=by unfold gc at h;grind
def Pv {α:Type}{ev:Operand->LV}{x:Option Operand}{d:Int}{k:Int->Option α}{r:α}(h:fV ev x d k=some r):
 (x=none/\k d=some r)\/ ∃o kd n,x=some o/\ev o= .cv (.v (.int kd n))/\k n=some r:=by
 unfold fV at h;cases x with
 |none=>exact .inl ⟨rfl,h⟩|some o=>obtain⟨n,h1,h2⟩:=bA.1 h;obtain⟨kd,e⟩:=rR h1;grind
def qr (x:Option Value)(d n:Int):Prop:=(x=none/\n=d)\/ ∃k,x=some (.int k n)
def mC {isS:Bool}{len cap:Nat}{lo hi:Option Value}{a b:Int}(hlc:len<=cap)(h0:0<=a)(h1:a<=b)(h2:b<=(len:Int))(hlo:qr lo 0 a)(hhi:qr hi (len:Int) b):
 (Instr.sliceBounds isS len cap lo hi none).run P w= .ok (a.toNat,b.toNat,cap) w:=by
 have hb:b<=(cap:Int):=bu;have hb0:0<=b:=bu;have hab:a<=(b.toNat:Int):=bu;rcases hhi with⟨rfl,rfl⟩|⟨k,rfl⟩<;>rcases hlo with⟨rfl,rfl⟩|⟨k',rfl⟩<;>
  simp[Instr.sliceBounds,Instr.sliceBound,asIntOf,h0,hb0,hb]<;>omega
def O9 {t:TypeId}{s:ByteArray}{lo hi:Option Value}{a b:Int}{r:List UInt8}(ht:P.underlying t=some .string)(h:gc s.data.toList a b=some r)
 (hlo:qr lo 0 a) (hhi:qr hi (s.data.toList.length:Int) b):(Instr.sliceAt t (.string s) lo hi none).run P w= .ok (.string ⟨⟨r⟩⟩) w:=by
 obtain⟨h0,h1,h2,rfl⟩:=JA h;have hb:=mC (P:=P) (w:=w) (isS:=false) (len:=s.size) (cap:=s.size) (ct _) h0 h1 h2 hlo hhi;have he:s.extract a.toNat b.toNat=⟨⟨(s.data.toList.drop a.toNat).take (b-a).toNat⟩⟩:=by apply ByteArray.ext;apply Array.ext';simp only[ByteArray.data_extract,Array.toList_extract,List.extract_eq_take_drop];congr 1;omega
 simp[Instr.sliceAt,df ht,Instr.slice,hb,he]
def HK {b s:Nat}: ∀{off:Nat} {xs:List CV} (n:Nat),EL G w b s off xs->EL G w b s (off+n*s) (xs.drop n)
 |off,xs,0,h=>by simpa using h|off,[],n+1,h=>by simp[EL]|off,x::r,n+1,h=>by
  have h2:EL G w b s (off+s) r:=by cases x<;>simp only[EL]at h<;>exact h.2
  rw[show off+(n+1)*s=off+s+n*s by rw[ow];omega];exact HK n h2
def RY {b s:Nat}: ∀{off:Nat} {xs:List CV} (n:Nat),EL G w b s off xs->EL G w b s off (xs.take n)
 |off,xs,0,h=>by simp[EL]|off,[],n+1,h=>by simp[EL]|off,x::r,n+1,h=>by cases x<;>simp only[EL,xA]at h |- <;>exact⟨h.1,RY n h.2⟩
def RN {t e:TypeId}{xs r:List CV}{v:Value}{lo hi:Option Value}{a b:Int}{n:Nat}(ht:P.underlying t=some (.slice e))(hsz:er P e=some n)(hv:VR G w (.sl xs) v)
 (h:gc xs a b=some r) (hu:pc n a xs=true) (hlo:qr lo 0 a) (hhi:qr hi (xs.length:Int) b):
 ∃u,(Instr.sliceAt t v lo hi none).run P w= .ok u w/\VR G w (.sl r) u:=by
 obtain⟨h0,h1,h2,rfl⟩:=JA h;simp only[VR]at hv;obtain⟨A,len,cap,rfl,rfl,hc,hx⟩:=hv;have hb:=mC (P:=P) (w:=w) (isS:=true) hc h0 h1 h2 hlo hhi;refine⟨.slice (if cap=a.toNat then A else A.map (·.add (a.toNat*n))) (b.toNat-a.toNat) (cap-a.toNat),?_,?_⟩
 ·simp[Instr.sliceAt,df ht,Instr.slice,hb,ge hsz]
 ·simp only[VR];refine⟨_,_,_,rfl,?_,bu,?_⟩
  ·simp only[qo,fY];omega
  ·rcases hx with hx|⟨bl,off,s,rfl,hs,hl⟩
   ·left;omega
   ·by_cases hab:b.toNat-a.toNat=0
    ·omega
    ·right;have hne:cap≠a.toNat:=bu;have hsn:a.toNat*n=a.toNat*s:=by
      unfold pc at hu;split at hu
      ·simp_all
      ·cases xs with
       |nil=>simp at h2;omega|cons x r=>
        simp only[gj]at hu;split at hu<;>try(simp at hu;done)
        rename_i he;simp only[fJ,cE]at he;simp_all
     refine⟨bl,off+a.toNat*s,s,by simp[hne,ij,hsn],λx hx=>hs x (List.mem_of_mem_drop (List.mem_of_mem_take hx)),RY _ (HK _ hl)⟩
end
section
variable {G:Gh}{w:World}{L nl:Nat}{P:Program}
def Hw {c:CV}{v:Value}(h:dJ c=true)(hv:VR G w c v):v.oneCell'=true:=by
 cases c<;>simp only[dJ,d6,VR]at h hv
 ·simp_all
 ·obtain⟨_,_,_,rfl,_⟩:=hv;rfl
 ·obtain⟨_,_,rfl,_⟩:=hv;rfl
 ·obtain⟨_,rfl⟩:=hv;rfl
 ·obtain⟨_,_,_,_,_,rfl,_⟩:=hv;rfl
 ·obtain⟨_,rfl,_⟩:=hv;rfl
 ·obtain⟨_,rfl,_⟩:=hv;rfl
 ·obtain⟨_,_,_,rfl,_⟩:=hv;rfl
 ·obtain⟨_,rfl⟩:=hv;rfl
 ·obtain⟨_,rfl,_⟩:=hv;rfl
def J3 {v:Value}(h:v.oneCell'=true):v.cells= #[v]:=by cases v<;>simp[Value.oneCell',Value.cells]at h |-
def tF: ∀{cs:List CV} {vs:List Value},gg cs=true->VRL G w cs vs-> ∀v∈vs,v.oneCell'=true
 |[],vs,_,h=>by simp only[VRL]at h;subst h;simp|c::cs,vs,hs,h=>by
  simp only[VRL]at h;obtain⟨v,r,rfl,h1,h2⟩:=h;simp only[gg]at hs;split at hs<;>try(simp at hs;done)
  rename_i h1s;intro u hu;rcases ed.1 hu with rfl|hu
  ·exact Hw h1s h1
  ·exact tF hs h2 u hu
def mq {c:CV}{v:Value}(h:jt c=true)(hv:VR G w c v):VRL G w c.cells v.cells.toList/\ ∀u∈v.cells.toList,u.oneCell'=true:=by
 unfold jt at h;split at h
 ·rename_i cs;simp only[VR]at hv;obtain⟨vs,rfl,hl⟩:=hv;exact⟨hl,tF h hl⟩
 ·rename_i hne;have h1:=Hw h hv;rw[J3 h1];have:c.cells=[c]:=by cases c<;>simp[CV.cells,dJ]at hne h |-
  rw[this];exact⟨by simp only[VRL];exact⟨v,[],rfl,hv,rfl⟩,by simpa using h1⟩
def VRL_len {cs:List CV}{vs:List Value}(h:VRL G w cs vs):cs.length=vs.length:=(gE h).1
def mc {t:TypeId}{cs:List CV}(h:zeroCells P t=some cs): ∃z i,P.info? t=some i/\i.zero=some z/\(zeroValue t).run P w= .ok z w/\VRL G w cs z.cells.toList:=by
 unfold zeroCells at h;split at h<;>try(simp at h;done)
 rename_i i hi;split at h<;>try(simp at h;done)
 rename_i z hz;refine⟨z,i,hi,hz,by simp[zeroValue,typeInfo,hi,hz],?_⟩;split at h<;>simp only[bP]at h<;>subst h
 ·exact adQ _
 ·rename_i hne;have:z.cells= #[z]:=by cases z<;>simp[Value.cells]at hne |-
  rw[this];simp only[VRL];exact⟨z,[],rfl,by simp[VR],rfl⟩
def d5:Array Value->Nat->List Value->Array Value
 |a,_,[]=>a|a,off,v::r=>d5 (a.setIfInBounds off v) (off+1) r
def Bz (off:Nat): ∀(l:List Value) (k:Nat) (a:Array Value),(l.zipIdx k).foldl (λcs q=>cs.setIfInBounds (off+q.2) q.1) a=d5 a (off+k) l
 |[],k,a=>rfl|v::r,k,a=>by simp only[List.zipIdx_cons,List.foldl_cons,d5];rw[Bz off r (k+1)];rfl
def fN: ∀(l:List Value) (off:Nat) (a:Array Value),(d5 a off l).size=a.size
 |[],off,a=>rfl|v::r,off,a=>by simp[d5,fN r]
def qf: ∀(l:List Value) (off:Nat) (a:Array Value) (j:Nat),j<off->(d5 a off l)[j]? =a[j]?
 |[],off,a,j,h=>rfl|v::r,off,a,j,h=>by simp only[d5];rw[qf r (off+1) _ j bu,Ux bu]
def uN: ∀(l:List Value) (off:Nat) (a:Array Value) (j:Nat),off+l.length<=j->(d5 a off l)[j]? =a[j]?
 |[],off,a,j,h=>rfl|v::r,off,a,j,h=>by simp only[d5,dz]at h |-;rw[uN r (off+1) _ j bu,Ux bu]
def Cf: ∀(l:List Value) (off:Nat) (a:Array Value) (j:Nat),off+l.length<=a.size->j<l.length->(d5 a off l)[off+j]? =l[j]?
 |[],off,a,j,h,hj=>by simp at hj|v::r,off,a,j,h,hj=>by
  simp only[d5,dz]at h hj |-;cases j with|zero=>rw[qf r (off+1) _ _ bu];grind|succ j=>have:=Cf r (off+1) (a.setIfInBounds off v) j b7 bu;grind
def qi {α:Type}: ∀(l:List α) (cs:List α) (off:Nat),(dG cs off l).length=cs.length
 |[],cs,off=>rfl|v::r,cs,off=>by simp[dG,qi r]
def jV {α:Type}: ∀(l:List α) (off:Nat) (a:List α) (j:Nat),j<off->(dG a off l)[j]? =a[j]?
 |[],off,a,j,h=>rfl|v::r,off,a,j,h=>by simp only[dG];rw[jV r (off+1) _ j bu,xz bu]
def lu {α:Type}: ∀(l:List α) (off:Nat) (a:List α) (j:Nat),off+l.length<=j->(dG a off l)[j]? =a[j]?
 |[],off,a,j,h=>rfl|v::r,off,a,j,h=>by simp only[dG,dz]at h |-;rw[lu r (off+1) _ j bu,xz bu]
def og {α:Type}: ∀(l:List α) (off:Nat) (a:List α) (j:Nat),off+l.length<=a.length->j<l.length->(dG a off l)[off+j]? =l[j]?
 |[],off,a,j,h,hj=>by simp at hj|v::r,off,a,j,h,hj=>by
  simp only[dG,dz]at h hj |-;cases j with|zero=>rw[jV r (off+1) _ _ bu];grind|succ j=>have:=og r (off+1) (a.set off v) j b7 bu;grind
def jD: ∀{cs:List CV} {vs:List Value},cs.length=vs.length->(∀(j:Nat) c v,cs[j]? =some c->vs[j]? =some v->VR G w c v)->VRL G w cs vs
 |[],[],_,_=>by simp[VRL]|[],_::_,h,_=>by simp at h|_::_,[],h,_=>by simp at h|c::cs,v::vs,h,hg=>by simp only[VRL];exact⟨v,vs,rfl,hg 0 c v rfl rfl,jD (by simpa using h) λj c v hc hv=>hg (j+1) c v (by simpa using hc) (by simpa using hv)⟩
def LM {cs:List CV}{a:Array Value}{off:Nat}{ds:List CV}{us:List Value}(h:VRL G w cs a.toList)(hd:VRL G w ds us)(hle:off+ds.length<=cs.length):
 VRL G w (dG cs off ds) (d5 a off us).toList:=by
 have hl:=VRL_len h;have hl2:=VRL_len hd;refine jD (by rw[qi,hl];simp[fN]) λj c v hc hv=> ?_;have hv':(d5 a off us)[j]? =some v:=by simpa using hv
 have has:a.toList.length=a.size:=bE;by_cases h1:j<off
 ·rw[jV _ _ _ _ h1]at hc;rw[qf _ _ _ _ h1]at hv';obtain⟨u,hu,hr⟩:=(gE h).2 j c hc;simp_all
 ·by_cases h2:off+ds.length<=j
  ·rw[lu _ _ _ _ h2]at hc;rw[uN _ _ _ _ bu]at hv';obtain⟨u,hu,hr⟩:=(gE h).2 j c hc;simp_all
  ·obtain⟨k,rfl⟩: ∃k,j=off+k:=⟨j-off,bu⟩;rw[og _ _ _ _ hle bu]at hc;rw[Cf _ _ _ _ bu bu]at hv';obtain⟨u,hu,hr⟩:=(gE hd).2 k c hc;simp_all
inductive PartsR (G:Gh) (w:World):List (Nat×CV)->List (Nat×Value)->Prop
 |nil:PartsR G w [] []|cons {i c v r s} (h:VR G w c v) (hs:jt c=true) (t:PartsR G w r s):PartsR G w ((i,c)::r) ((i,v)::s)
def yP {place:Nat->Option (Nat×Nat)}: ∀{ps:List (Nat×CV)} {qs:List (Nat×Value)} {cs out:List CV} {a:Array Value},
 PartsR G w ps qs->VRL G w cs a.toList->pT place cs ps=some out-> ∃b,Instr.fill place a qs=some b/\VRL G w out b.toList/\b.size=a.size
 |_,_,cs,out,a,.nil,h,hf=>by simp only[pT,bP]at hf;subst hf;exact⟨a,rfl,h,rfl⟩|_,_,cs,out,a,.cons (i:=i) (c:=c) (v:=v) (r:=r) (s:=s) hv hs t,h,hf=>by
  simp only[pT]at hf;split at hf<;>try(simp at hf;done)
  rename_i q hq;split at hf<;>try(simp at hf;done)
  rename_i hc;simp only[cE]at hc;have h1:=fb hc.1;have h2:=gr hc.2;obtain⟨hcl,_⟩:=mq hs hv;have hlen:=VRL_len hcl;have hl:=VRL_len h;have hsz:v.cells.size=q.2:=by rw[<-h1,hlen];simp
  obtain⟨b,hb,hr,hbs⟩:=yP (a:=d5 a q.1 v.cells.toList) t (LM h hcl bu) hf;refine⟨b,?_,hr,by rw[hbs,fN]⟩;obtain⟨o,z⟩:=q;simp only at hsz h1 h2 hb;simp only[Instr.fill,hq];have has:a.toList.length=a.size:=bE;have hcond:(decide (v.cells.size≠z)||decide (o+v.cells.size>a.size))=false:=by simp_all
  rw[bB (by rw[hcond];simp)];rw[<-Array.foldl_toList,Array.toList_zipIdx];have:=Bz o v.cells.toList 0 a;simp_all
def wi {s:S}{μ:Mu}{a:Act}(R:Rel G L s μ a.tmps w)(h:OpHint): ∀{l:List (Nat×Operand)} {ps:List (Nat×CV)},lr (evA h s.fr) l=some ps->
 PartsR G w ps (l.map λq=>(q.1,a.eval q.2))
 |[],ps,hp=>by simp only[lr,bP]at hp;subst hp;exact .nil|q::r,ps,hp=>by simp only[lr]at hp;obtain⟨c,h1,h2⟩:=bA.1 hp;obtain⟨h3,h4⟩:=bR.1 h2;obtain⟨l,h5,h6⟩:=bA.1 h4;simp only[bP]at h6;subst h6;exact .cons (ji h1 (cG R h q.2).1) h3 (wi R h h5)
end
def Gh.setO (G:Gh)(b n:Nat):Gh:={G with O:=λx=>if x=b then n else G.O x}
def fS {G:Gh}{b n:Nat}:(G.setO b n).O b=n:=by simp[Gh.setO]
def eh {G:Gh}{b n x:Nat}(h:x≠b):(G.setO b n).O x=G.O x:=by simp[Gh.setO,h]
section
variable {G:Gh}{w:World}{L:Nat}{P:Program}
def Ic {a:Addr}{v:Value}(h:w.cell? a=some v):a.block<w.heap.size:=block_lt_of_cell h
def nB {b:Nat}{o:Obj}(h:w.heap[b]? =some o):b<w.heap.size:=(sD.1 h).1
def pt {x:LV}{v:Value}{b nl:Nat}(h:LVR G w L nl x v)(ho:b6 x v b):b<w.heap.size:=by
 cases x<;>simp only[b6]at ho
 ·simp only[LVR]at h;rcases h with⟨rfl,rfl⟩|⟨b',cap,cur,e,s,rfl,hb,_⟩
  ·simp at ho
  grind
 ·simp only[LVR]at h;rcases h with⟨rfl,rfl⟩|⟨b',cap,cur,e,rfl,hb,_⟩
  ·simp at ho
  grind
def lO {l:Lam}{i:Nat}(h:b8 (bU l i)):i<l.length:=by
 by_cases hi:i<l.length
 ·exact hi
 ·simp only[bU]at h;rw[eB bu]at h;exact h.elim
def fF {s:S}{μ:Mu}(hL:μ.length=L){lev i:Nat}(h:b8 (bT (μ++[s.lam]) lev i)):(lev<L/\bT (μ++[s.lam]) lev i=ce μ lev i)\/(lev=L/\i<s.lam.length/\bT (μ++[s.lam]) lev i=bU s.lam i):=by
 rcases sL lev L with h1|h1|h1
 ·exact .inl ⟨h1,cV bu⟩
 ·subst h1;rw[<-hL]at h |-;have e:bT (μ++[s.lam]) μ.length i=bU s.lam i:=db;rw[e]at h;exact .inr ⟨rfl,lO h,e⟩
 ·rw[<-hL]at h1;simp only[bT,nG h1]at h;exact h.elim
def XG {nl b sz:Nat}{o:Ob}(h:ObR G w L nl b sz o)(hl:b8 o):b<w.heap.size:=by
 cases o with
 |dead=>exact hl.elim|cells cs=>obtain⟨cur,e,fz,h1,_⟩:=h;exact nB h1
 |arr k cs=>obtain⟨_,cur,e,fz,h1,_⟩:=h;exact nB h1
 |map ks vs=>obtain⟨es,clk,h1,_⟩:=h;exact nB h1
def Rel.touch_lt {s:S}{μ:Mu}{tm:Array Value}(R:Rel G L s μ tm w){b:Nat}(h:kb G w s.fr tm (μ++[s.lam]) b):b<w.heap.size:=by
 rcases h with⟨l,h⟩|⟨lev,i,hl,rfl⟩
 ·cases l with
  |fr t=>exact pt (R.fr t) h|ob lev i k=>
   simp only[bK]at h;split at h<;>try(exact h.elim)
   rename_i cs hcs;split at h<;>try(exact h.elim)
   rename_i x hx;obtain⟨cur,e,fz,hb,ho⟩:=h;have hlive:b8 (bT (μ++[s.lam]) lev i):=by rw[hcs];trivial
   rcases fF R.lev hlive with⟨h1,h2⟩|⟨rfl,h1,h2⟩
   ·have:=R.mu lev i h1;rw[<-h2,hcs]at this;simp only[ObR]at this;obtain⟨cur',e',fz',hb',_,_,_,h5⟩:=this;rw[hb]at hb';obtain⟨rfl,_⟩:=(kV ..).mp (iM hb');exact pt (h5 k x hx) ho
   ·have:=R.lam i;rw[<-h2,hcs]at this;simp only[ObR]at this;obtain⟨cur',e',fz',hb',_,_,_,h5⟩:=this;rw[hb]at hb';obtain⟨rfl,_⟩:=(kV ..).mp (iM hb');exact pt (h5 k x hx) ho
 ·rcases fF R.lev hl with⟨h1,h2⟩|⟨rfl,h1,h2⟩
  ·rw[h2]at hl;exact XG (R.mu lev i h1) hl
  ·rw[h2]at hl;exact XG (R.lam i) hl
def qB {o:Obj}{b off:Nat}(h:b<w.heap.size):(w.alloc o).cell? ⟨b,off,none⟩=w.cell? ⟨b,off,none⟩:=World.cell?_alloc_lt w o _ h
def xU (o:Obj)(n:Nat):Le G w (G.setO w.heap.size n) (w.alloc o):=by
 refine⟨λb es clk h hb=> ?_,λ_ _ h=>⟨h,rfl,rfl⟩,λb off v h hc=> ?_,λb cur e fz h=> ?_⟩
 ·have hlt:b<w.heap.size:=nB hb;rw[eh bu,jz w o hlt];simp_all
 ·have hb:b<w.heap.size:=Ic hc;rw[eh bu,qB hb];simp_all
 ·exact⟨cur,fz,by rw[jz w o (nB h)];exact h,rfl⟩
def Rel.alloc {s:S}{μ:Mu}{tm:Array Value}(R:Rel G L s μ tm w)(o:Obj)(n:Nat):
 Rel (G.setO w.heap.size n) L s μ tm (w.alloc o)/\
 (∀l b,bK (G.setO w.heap.size n) (w.alloc o) s.fr tm (μ++[s.lam]) l b->bK G w s.fr tm (μ++[s.lam]) l b):=
 R.frame (xU o n) (λb hb=>⟨jz w o (R.touch_lt hb),eh (by have:=R.touch_lt hb;omega)⟩) (λ_ _ _=>⟨rfl,rfl⟩) rfl
def Ext.alloc {T T':Nat->Prop}(o:Obj)(n:Nat)(h: ∀b,T' b->T b\/w.heap.size<=b):Ext L T G w (G.setO w.heap.size n) (w.alloc o) T':=
 ⟨xU o n,rfl,rfl,rfl,bE,λb hb _=>⟨jz w o hb,eh bu⟩,h,λ_ _=>⟨λ_=>⟨rfl,rfl⟩,rfl⟩⟩
def Rel.drew {s:S}{μ:Mu}{tm:Array Value}(R:Rel G L s μ tm w):Rel G L s μ tm w.drew/\(∀l b,bK G w.drew s.fr tm (μ++[s.lam]) l b->bK G w s.fr tm (μ++[s.lam]) l b):=
 R.frame ⟨λ_ _ _ h hb=>⟨h,hb⟩,λ_ _ h=>⟨h,rfl,rfl⟩,λ_ _ _ h hc=>⟨h,hc⟩,λb cur e fz h=>⟨cur,fz,h,rfl⟩⟩ (λ_ _=>⟨rfl,rfl⟩) (λ_ _ _=>⟨rfl,rfl⟩) rfl
def EL_of {b s:Nat}: ∀{xs:List CV} {off:Nat} {vs:List Value},(∀x∈xs,x.cells.length=s)->VRL G w (xs.flatMap CV.cells) vs->
 (∀(j:Nat) v,vs[j]? =some v->w.cell? ⟨b,off+j,none⟩=some v/\off+j<G.O b)->EL G w b s off xs
 |[],off,vs,_,_,_=>by simp[EL]|x::r,off,vs,hs,h,hc=>by
  have hx:=hs x bE;have key: ∀(cs:List CV) (off:Nat) (vs:List Value),VRL G w cs vs->(∀(j:Nat) v,vs[j]? =some v->w.cell? ⟨b,off+j,none⟩=some v/\off+j<G.O b)->CL G w b off cs:=by
   intro cs
   induction cs with
   |nil=>intro off vs _ _;simp[CL]|cons c cs ih=>intro off vs h hc;simp only[VRL]at h;obtain⟨v,q,rfl,h1,h2⟩:=h;simp only[CL];refine⟨⟨v,(hc 0 v rfl).1,(hc 0 v rfl).2,h1⟩,ih (off+1) q h2 λj u hu=> ?_⟩;have:=hc (j+1) u (by simpa using hu);grind
  have split: ∃us ws,vs=us++ws/\us.length=s/\VRL G w x.cells us/\VRL G w (r.flatMap CV.cells) ws:=by
   simp only[tZ]at h;refine⟨vs.take s,vs.drop s,(Uu s vs).symm,?_,?_,?_⟩
   ·have:=VRL_len h;grind
   ·have:=Eu s h;simp_all
   ·have:=Et s h;simp_all
  obtain⟨us,ws,rfl,hul,h1,h2⟩:=split;have hcl:=key x.cells off us h1 λj v hv=>hc j v (by rw[gK (dP.1 hv).1];exact hv);have hel:EL G w b s (off+s) r:=EL_of (λy hy=>hs y (by simp[hy])) h2 λj v hv=>by have:=hc (s+j) v (by rw[jy bu];rw[<-hv];congr 1;omega);grind
  cases x<;>simp only[EL,CV.cells,CL,ka]at hcl |- <;>exact⟨hcl,hel⟩
def flat_len {xs:List CV}{s:Nat}(h: ∀x∈xs,x.cells.length=s):(xs.flatMap CV.cells).length=xs.length*s:=by
 induction xs with|nil=>simp|cons x r ih=>grind
def me {sz:Nat}: ∀{xs:List CV},gj sz xs=true->(∀x∈xs,x.cells.length=sz/\jt x=true)
 |[],_=>by simp|x::r,h=>by
  simp only[gj]at h;split at h<;>try(simp at h;done)
  rename_i he;simp only[fJ,cE]at he;intro y hy;rcases ed.1 hy with rfl|hy
  ·simp_all
  ·exact me h y hy
end
end Go.Abs
