/-
  The statement ExprLevelsCardSaid, proved; part 1 of 11 of its proof.
-/
import Derived.KernelRfl
import Derived.Orders
import Derived.LoopN
import Derived.Laws.Sem
import Derived.Laws.World
import Derived.Laws.AppendOwn
import Derived.Laws.MakeOwn
import Derived.WalkKit
set_option linter.all false
namespace Go.Abs
open Go
def bu {p:Prop}(h:p:=by omega):p:=h
def bx {α:Type}{a b:α}(h:a=b:=by kernel_rfl):a=b:=h
def bG {p:Prop}(h:p:=by simp):p:=h
def cr {p:Prop}(h:p:=by simp;omega):p:=h
def co {p:Prop}(h:p:=by decide):p:=h
def dk {p:Prop}(h:p:=by assumption):p:=h
def bJ:=@Option.some.injEq
def cC:=@List.length_append
def bW:=@cond_false
def cB:=@List.length_cons
def bE:=@if_neg
def bY:=@cond_true
def cG:=@List.length_nil
def cM:=@Bool.and_eq_true
def bK:=@if_pos
def m6:=@congrArg
def cu:=@decide_eq_true
def dm:=@List.getElem?_eq_some_iff
def cE:=@decide_eq_false
def dA:=@List.getElem?_eq_getElem
def cw:=@Nat.le_refl
def d7:=@Array.getD_eq_getD_getElem?
def df:=@Result.andThen_ok
def dn:=@decide_eq_true_eq
def eu:=@List.getElem?_cons_zero
def c8:=@run_underlying
def fp:=@List.getD_eq_getElem?_getD
def db:=@Bool.not_true
def eC:=@Nat.eq_of_beq_eq_true
def dp:=@Prod.mk.injEq
def eD:=@Bool.false_eq_true
def dc:=@Sem.run_bind
def fN:=@List.getElem?_append_left
def ew:=@List.cons_append
def dF:=@Bool.not_false
def fq:=@List.getElem?_eq_none
def dQ:=@List.map_cons
def fO:=@Nat.le_of_ble_eq_true
def d8:=@Option.map_some
def eU:=@List.append_nil
def gj:=@List.mem_cons_of_mem
def eV:=@List.append_assoc
def fb:=@List.nil_append
def gX:=@List.drop_eq_nil_of_le
def iM:=@List.drop_eq_getElem_cons
def fP:=@List.getElem?_map
def ju:=@List.getElem?_append_right
def cX:=@if_true
def kM:=@List.eq_nil_of_length_eq_zero
def eE:=@List.mem_cons
def gB:=@Option.getD_some
def dG:=@if_false
def eW:=@Sem.run_pure
def gY:=@Option.some.inj
def gZ:=@List.length_drop
def gM:=@List.drop_drop
def lF:=@decide_eq_false_iff_not
def jv:=@Bool.not_eq_true'
def gC:=@Nat.zero_add
def iC:=@List.map_nil
def qZ:=@Array.getElem?_eq_some_iff
def jw:=@Bool.or_eq_true
def jx:=@List.drop_zero
def iN:=@heap_alloc_old
def j2:=@List.all_eq_true
def pi:=@Option.map_eq_some_iff
def lG:=@List.mem_cons_self
def j3:=@List.mem_append
def j4:=@Obj.cells.injEq
def nt:=@of_decide_eq_true
def g0:=@decide_true
def aeR:=@World.frozen?_setCell
def q5:=@Array.getElem?_toList
def kN:=@heap_alloc_new
def lH:=@Nat.add_zero
def jy:=@Nat.lt_or_ge
def kO:=@Bool.and_self
def j5:=@Nat.le_trans
def nu:=@List.length_take
def aeS:=@World.size_alloc
def lI:=@Bool.true_and
def Ai:=@List.length_eq_one_iff
def tf:=@List.getElem?_set_self
def q6:=@List.takeWhile_cons
def vN:=@Array.getElem?_eq_getElem
def th:=@List.map_append
def q7:=@List.getElem_mem
def ti:=@Int.toNat_natCast
def q8:=@Nat.lt_trichotomy
def pj:=@List.length_map
def tj:=@List.drop_succ_cons
def tn:=@List.getElem?_range
def vO:=@Nat.ble_eq_true_of_le
def tq:=@Nat.lt_of_lt_of_le
def tr:=@List.getElem?_drop
def vP:=@MapKept.run_checkKey
def vQ:=@Nat.mul_le_mul_right
def nv:=@List.mem_map
def tu:=@List.flatMap_cons
def pk:=@Bool.and_true
def vR:=@MapKept.run_findKey
def vS:=@List.map_congr_left
def j6:=@and_true
def pm:=@Nat.add_mul
def pn:=@Nat.beq_refl
def ES:=@Array.getElem?_append_left
def om:=@Bool.false_or
def Po:=@List.size_toArray
def vC:=@List.getElem?_set_ne
def vD:=@Bool.or_eq_false_iff
def FZ:=@List.take_succ_eq_append_getElem
def oo:=@decide_false
def sd:=@List.map_toArray
def oq:=@setRow_other
def AS:=@List.getElem?_take_of_lt
def vE:=@List.replicate_succ
def AT:=@List.length_pos_iff
def AU:=@List.length_eq_zero_iff
def se:=@UInt8.toNat.inj
def sf:=@List.cons.injEq
def vF:=@List.mem_singleton
def AV:=@MapKept.run_getObj_map
def AW:=@List.take_of_length_le
def kK:=@true_and
def vG:=@not_true_eq_false
def AX:=@Bool.and_eq_false_iff
def AY:=@List.singleton_append
def Pp:=@List.mem_append_right
def Pq:=@List.take_append_drop
def AZ:=@List.not_mem_nil
def ot:=@Nat.blt_eq
def A0:=@Nat.pow_le_pow_right
def aeL:=@Array.replicate_succ
def aeM:=@Array.replicate_zero
def aeN:=@List.getElem?_of_mem
def F0:=@Nat.add_assoc
def pZ:=@setRow_heap
def A1:=@run_firstCells_none
def A2:=@List.dropWhile_cons
def A3:=@run_firstCells_some
def aeO:=@List.append_toArray
def aeP:=@World.cell?_setCell_same'
def F1:=@Classical.byContradiction
def A4:=@List.pairwise_cons
def F2:=@UInt8.toNat_ofNat_of_lt'
def m5:=@and_self
def F3:=@Option.isSome_iff_exists
def sk:=@Nat.sub_self
def vH:=@Bool.false_and
def F4:=@List.head_dropWhile_not
def F5:=@List.append_cancel_left
def aeQ:=@List.push_toArray
def vI:=@Nat.zero_le
def sm:=@getD_set_ne
def F6:=@List.pairwise_lt_range
def Pr:=@Array.getElem?_eq_none
def vJ:=@List.any_cons
def A5:=@List.all_cons
def F7:=@List.length_singleton
def F8:=@List.getElem?_toArray
def Ps:=@Array.getElem?_setIfInBounds_ne
def A6:=@List.take_left'
def F9:=@List.pairwise_append
def Gb:=@Nat.min_eq_left
def Gc:=@List.mem_of_getElem?
def A7:=@List.drop_left'
def A8:=@Nat.zero_mul
def ZY:=@List.mem_append_left
def vK:=@Nat.sub_zero
def Gd:=@Nat.mul_le_mul_left
def Ge:=@List.take_succ_cons
def Gf:=@ByteArray.toList_eq
def ov:=@Iff.rfl
def vL:=@Nat.le_succ
def Gg:=@Bool.true_eq_false
def Gi:=@List.set_cons_zero
def Gj:=@List.getElem?_take
def Gk:=@grownCap_le_maxLen
def Pt:=@List.map_take
def A9:=@Nat.mul_assoc
def Ba:=@getD_set_true
def Pu:=@Int.tmod_eq_emod_of_nonneg
def Bb:=@Nat.ne_of_lt
def Bc:=@List.set_set
def Bd:=@Nat.pow_succ
def Gl:=@Option.getD_none
def Be:=@Nat.mul_comm
def Gm:=@List.length_set
def vM:=@Array.ext
def Pv:=@List.range_succ
def Gn:=@Oper.upon_value
def Bf:=@Int.le_refl
def Bg:=@setRow_self
def sn:=@Ne.symm
def Gp:=@List.mem_range
def Bh:=@or_false
inductive CV where
 |undef|v (x:Value)|agg (cs:List CV)|sl (xs:List CV)|view (cs:List CV)|ref (lev i off:Nat)|msl (lev i off len:Nat)|clo (f:FuncId) (caps:List CV)|iface (t:TypeId) (x:CV)|mview (ks:List Value) (vs:List CV)|mref (lev i:Nat)|tref (lev i:Nat) (t:TypeId) (n:Nat)
 deriving Inhabited
inductive LV where
 |cv (c:CV)|osl (xs:List CV)|loc (i off:Nat)|lsl (i off len:Nat)|lclo (f:FuncId) (caps:List LV)|ltup (xs:List LV)|mloc (i:Nat)|tloc (i:Nat) (t:TypeId) (n:Nat)|ost (xs:List Value)|stl (n:Nat)
 deriving Inhabited
inductive Ob where
 |cells (cs:List LV)|arr (sz:Nat) (cs:List CV)|dead|map (ks:List Value) (vs:List CV)
 deriving Inhabited
abbrev Lam:=List Ob
abbrev Mu:=List Lam
inductive Out where
 |ret (v:LV) (μ:Mu)|panic (v:CV) (μ:Mu)
abbrev Fr:=Nat->LV
structure S where
 fr:Fr
 lam:Lam
 pushed:Bool
inductive St where
 |norm (s:S) (μ:Mu)|exit (id:Nat) (s:S) (μ:Mu)|ret (s:S) (μ:Mu)|panic (v:CV) (s:S) (μ:Mu)
structure OpHint where
 take:List Nat:=[]
 freeze:List Nat:=[]
 fza:List (Nat×TypeId):=[]
 cell:Bool:=false
 arr:Bool:=false
 outer:Bool:=false
 push:Bool:=false
 own:Bool:=false
 hide:Option Nat:=none
structure Hints where
 ops:List ((Nat×Nat)×OpHint):=[]
 live:List (Nat×List (Nat×Nat)×List (Nat×Nat)):=[]
 cuts:List (Nat×List (Nat×Nat)×List (Nat×Nat)):=[]
 objs:List (Nat×List (Nat×List Nat)):=[]
 res:List (Nat×Nat):=[]
 pan:List (Nat×Nat):=[]
 dfr:Option Nat:=none
 deriving Inhabited
@[reducible] def CV.int (k:IntKind) (n:Int):CV:= .v (.int k n)
@[reducible] def CV.bool (b:Bool):CV:= .v (.bool b)
@[reducible] def CV.str (l:List UInt8):CV:= .v (.string ⟨⟨l⟩⟩)
@[reducible] def LV.int (k:IntKind) (n:Int):LV:= .cv (.v (.int k n))
@[reducible] def LV.bool (b:Bool):LV:= .cv (.v (.bool b))
@[reducible] def LV.str (l:List UInt8):LV:= .cv (.v (.string ⟨⟨l⟩⟩))
@[reducible] def bv (n:Int):LV:= .cv (.v (.int .i64 n))
@[reducible] def bD (n:Int):CV:= .v (.int .i64 n)
def opt {α β:Type}(x:Option α)(k:α->Option β):Option β:=match x with|some a=>k a|none=>none
def bB {β:Type}(b:Bool)(k:Option β):Option β:=cond b k none
def small (n:Nat):Bool:=decide (n<=1099511627776)
def upd (g:Fr)(t:Nat)(v:LV):Fr:=λu=>match Nat.beq u t with|true=>v|false=>g u
def gJ:List (Nat×LV)->Fr
 |[],_=> .cv .undef|(s,v)::r,t=>match Nat.beq s t with|true=>v|false=>gJ r t
def iV:List Nat->Nat->Bool
 |[],_=>false|a::r,t=>match Nat.beq a t with|true=>true|false=>iV r t
def strip1:LV->LV
 | .cv c=> .cv c| .osl xs=> .cv (.sl xs)| .loc i off=> .loc i off| .lsl i off len=> .lsl i off len| .lclo f caps=> .lclo f caps| .mloc i=> .mloc i| .tloc i t n=> .tloc i t n| .ost xs=> .stl xs.length| .stl n=> .stl n| .ltup _=> .cv .undef
def strip:LV->LV
 | .cv c=> .cv c| .osl xs=> .cv (.sl xs)| .loc i off=> .loc i off| .lsl i off len=> .lsl i off len| .lclo f caps=> .lclo f caps| .mloc i=> .mloc i| .tloc i t n=> .tloc i t n| .ost xs=> .stl xs.length| .stl n=> .stl n| .ltup xs=> .ltup (xs.map strip1)
@[simp] def tX:LV->Bool
 | .osl _=>true| .ost _=>true|_=>false
def S.set (s:S)(t:Nat)(v:LV):S:={s with fr:=upd s.fr t v}
def S.put (s:S)(dst:Option Nat)(v:LV):S:=match dst with|some t=>s.set t v|none=>s
def bw:List Nat->S->S
 |[],s=>s|t::r,s=>bw r (s.set t (strip (s.fr t)))
def lg:Value->LV
 | .agg cs=> .cv (.agg (cs.toList.map .v))| .tuple cs=> .ltup (cs.toList.map λc=> .cv (.v c))|x=> .cv (.v x)
def evA (h:OpHint)(fr:Fr):Operand->LV
 | .tmp t=>match iV h.take t with|true=>fr t|false=>strip (fr t)
 | .const c=>lg c| .global _=> .cv .undef| .func f=> .cv (.clo f [])
def CV.cells:CV->List CV
 | .agg cs=>cs|c=>[c]
def cY:CV->Bool
 | .undef=>false| .agg _=>false| .v x=>x.oneCell'|_=>true
def fD:List CV->Bool
 |[]=>true|c::r=>match cY c with|true=>fD r|false=>false
def iH:CV->Bool
 | .agg cs=>fD cs|c=>cY c
def LV.cells:LV->Option (List LV)
 | .cv c=>match iH c with|true=>some (c.cells.map .cv)|false=>none
 | .ltup _=>none|x=>some [x]
def bI (k:IntKind):LV->Option Int
 | .cv (.v (.int k' n))=>match decide (k=k')with|true=>some n|false=>none
 |_=>none
def ce:LV->Option Bool
 | .cv (.v (.bool b))=>some b|_=>none
def cf:LV->Option (List UInt8)
 | .cv (.v (.string s))=>some s.data.toList|_=>none
def cR:LV->Option (List CV)
 | .cv (.sl xs)=>some xs| .cv (.v (.slice none 0 0))=>some []| .osl xs=>some xs|_=>none
def gv:LV->Option (List CV)
 | .osl xs=>some xs| .cv (.v (.slice none 0 0))=>some []|_=>none
def DK:LV->Option (List Value)
 | .ost xs=>some xs| .cv (.v (.slice none 0 0))=>some []|_=>none
def Aa:List CV->Option (List Value)
 |[]=>some []| .v x::r=>match x.oneCell' with|true=>opt (Aa r) λl=>some (x::l)|false=>none
 |_::_=>none
def cx:LV->Option CV
 | .cv c=>some c| .osl xs=>some (.sl xs)|_=>none
def fJ:LV->Option (List CV)
 | .cv (.agg cs)=>some cs|_=>none
def b9:LV->Option (List LV)
 | .ltup xs=>some xs|_=>none
def bC {α:Type}:List α->Option (α×List α)
 |a::r=>some (a,r)|[]=>none
def bS {α:Type}:List α->Option Unit
 |[]=>some ()|_::_=>none
def kf {β:Type}(d:TypeDesc)(c:LV)(k:CV->Option β):Option β:=
 match d with
 | .int ik=>opt (bI ik c) λn=>k (.v (.int ik n))| .bool=>opt (ce c) λb=>k (.v (.bool b))| .string=>opt (cf c) λl=>k (.v (.string ⟨⟨l⟩⟩))| .slice _=>opt (cR c) λxs=>k (.sl xs)|_=>opt (cx c) k
def f9 {β:Type}:List TypeDesc->List CV->(List CV->Option β)->Option β
 |[],cs,k=>opt (bS cs) λ_=>k []|d::ds,cs,k=>opt (bC cs) λq=>kf d (.cv q.1) λc=>f9 ds q.2 λr=>k (c::r)
def DV (P:Program):(depth:Nat)->TypeId->List TypeDesc
 |0,_=>[]|d+1,t=>match P.underlying t with
  |some (.struct fs)=>fs.toList.flatMap λf=>DV P d f.type|some (.array n e)=>(List.replicate n ()).flatMap λ_=>DV P d e|some x=>[x]|none=>[]
def dz (P:Program)(t:TypeId):Bool:=
 match P.underlying t with
 |some (.struct _)=>true|some (.array _ _)=>true|_=>false
def DO (P:Program)(t:TypeId):Bool:=
 match P.underlying t with
 |some (.array n _)=>Nat.ble 20 n|_=>false
def js {β:Type}(P:Program)(t:TypeId)(v:LV)(k:CV->Option β):Option β:=
 match dz P t with
 |true=>match DO P t with
  |true=>opt (fJ v) λcs=>k (.agg cs)|false=>opt (fJ v) λcs=>f9 (DV P 8 t) cs λcs=>k (.agg cs)
 |false=>match P.underlying t with
  |some d=>kf d v k|none=>none
def iL {β:Type}(P:Program)(t:TypeId)(c:CV)(k:CV->Option β):Option β:=js P t (.cv c) k
def nk {β:Type}(P:Program)(own:Bool)(t:TypeId)(v:LV)(k:LV->Option β):Option β:=
 match own with
 |true=>opt (gv v) λxs=>k (.osl xs)|false=>js P t v λc=>k (.cv c)
def im {β:Type}(P:Program):List TypeId->List LV->(List LV->Option β)->Option β
 |[],vs,k=>opt (bS vs) λ_=>k []|t::ts,vs,k=>opt (bC vs) λq=>nk P false t q.1 λx=>im P ts q.2 λr=>k (x::r)
def eP {β:Type}(P:Program)(own:Bool)(t:TypeId)(v:LV)(k:LV->Option β):Option β:=
 match P.underlying t with
 |some (.tuple ts)=>opt (b9 v) λxs=>im P ts.toList xs λxs=>k (.ltup xs)|_=>nk P own t v k
def sQ (op:BinOp)(k:IntKind)(a:Int)(k':IntKind)(b:Int):Option CV:=
 match op with
 | .shl| .shr=>match decide (b<0)with
  |true=>none|false=>match op with
   | .shl=>some (.int k (k.wrap (a*2^(min b.toNat k.bits))))|_=>some (.int k (a.fdiv (2^(min b.toNat k.bits))))
 |_=>match decide (k=k')with
  |false=>none|true=>match op with
   | .add=>some (.int k (k.wrap (a+b)))| .sub=>some (.int k (k.wrap (a-b)))| .mul=>some (.int k (k.wrap (a*b)))| .quo=>match decide (b=0)with|true=>none|false=>some (.int k (k.wrap (a.tdiv b)))
   | .rem=>match decide (b=0)with|true=>none|false=>some (.int k (a.tmod b))
   | .and=>some (.int k (k.wrap (BitVec.ofInt k.bits a &&& BitVec.ofInt k.bits b).toNat))| .or=>some (.int k (k.wrap (BitVec.ofInt k.bits a ||| BitVec.ofInt k.bits b).toNat))| .xor=>some (.int k (k.wrap (BitVec.ofInt k.bits a ^^^ BitVec.ofInt k.bits b).toNat))| .andNot=>some (.int k (k.wrap (BitVec.ofInt k.bits a &&& ~~~BitVec.ofInt k.bits b).toNat))| .eql=>some (.bool (decide (a=b)))| .neq=>some (.bool (!decide (a=b)))| .lss=>some (.bool (decide (a<b)))| .leq=>some (.bool (decide (a<=b)))| .gtr=>some (.bool (decide (b<a)))| .geq=>some (.bool (decide (b<=a)))|_=>none
def K8 (op:BinOp)(a b:List UInt8):Option CV:=
 match op with
 | .add=>match small (a.length+b.length)with|true=>some (.str (a++b))|false=>none
 | .eql=>some (.bool (decide (a=b)))| .neq=>some (.bool (!decide (a=b)))| .lss=>some (.bool (Op.bytesLess a b))| .leq=>some (.bool (Op.bytesLess a b||decide (a=b)))| .gtr=>some (.bool (!(Op.bytesLess a b||decide (a=b))))| .geq=>some (.bool (!Op.bytesLess a b))|_=>none
def IR:CV->CV->Option Bool
 | .v (.int k a),.v (.int k' b)=>match decide (k=k')with|true=>some (decide (a=b))|false=>none
 | .v (.bool a),.v (.bool b)=>some (a == b)| .v (.string a),.v (.string b)=>some (decide (a.data.toList=b.data.toList))|_,_=>none
def uQ:List CV->List CV->Option Bool
 |[],[]=>some true|a::as,b::bs=>opt (IR a b) λx=>opt (uQ as bs) λy=>some (x&&y)|_,_=>none
def BN (P:Program)(t:TypeId):Option (List TypeDesc):=
 match P.underlying t with
 |some (.struct fs)=>
  match (fs.toList.zipIdx.all λq => q.1.offset == q.2 && q.1.name != "_" &&
   (match P.underlying q.1.type with|some (.int _)=>true|some .bool=>true|some .string=>true|_=>false))&& !P.stoodInHeld t&& !P.eqGuardType P.depth t with
  |true=>some (fs.toList.map λf=>(P.underlying f.type).getD .invalid)|false=>none
 |_=>none
def DU:TypeDesc->CV->Bool
 | .int k,.v (.int k' _)=>decide (k=k')| .bool,.v (.bool _)=>true| .string,.v (.string _)=>true|_,_=>false
def mQ:List TypeDesc->List CV->Bool
 |[],[]=>true|d::ds,c::cs=>DU d c&&mQ ds cs|_,_=>false
def jk:LV->Option Bool
 | .cv (.v (.pointer none))=>some true| .cv (.view _)=>some false| .cv (.ref _ _ _)=>some false| .cv (.clo _ _)=>some false| .cv (.iface _ _)=>some false| .loc _ _=>some false| .lclo _ _=>some false| .tloc _ _ _=>some false| .cv (.tref _ _ _ _)=>some false|_=>none
def jf:CV->CV
 | .tref lev i _ _=> .ref lev i 0|c=>c
def vA:LV->LV
 | .tloc i _ _=> .loc i 0| .cv c=> .cv (jf c)|x=>x
def yW (typed:Bool)(i:Nat)(t:TypeId)(n:Nat):LV:=match typed with|true=> .tloc i t n|false=> .loc i 0
def jl:LV->Option Bool
 | .cv (.v (.pointer none))=>some true| .cv (.view _)=>some false| .cv (.ref _ _ _)=>some false| .loc _ _=>some false|_=>none
def HW:LV->Option Bool
 | .cv (.v .nilIface)=>some true| .cv (.iface _ _)=>some false|_=>none
def Ye:LV->Option Bool
 | .cv (.v (.slice none 0 0))=>some true| .cv (.sl (_::_))=>some false| .osl (_::_)=>some false|_=>none
def zD (d:TypeDesc)(c:Value)(a:LV):Option Bool:=
 match d,c with
 | .pointer _,.pointer none=>jl a| .interface _,.nilIface=>HW a| .slice _,.slice none 0 0=>Ye a|_,_=>none
def nY:Operand->Option Value
 | .const c=>some c|_=>none
def wF (P:Program)(op:BinOp)(t:TypeId)(x y:Operand)(a b:LV):Option CV:=
 match a,b with
 | .cv (.v (.int k m)),.cv (.v (.int k' n))=>sQ op k m k' n| .cv (.v (.string m)),.cv (.v (.string n))=>K8 op m.data.toList n.data.toList| .cv (.v (.bool m)),.cv (.v (.bool n))=>match op,P.underlying t with
  | .eql,some .bool=>some (.bool (m == n))| .neq,some .bool=>some (.bool (!(m == n)))|_,_=>none
 | .cv (.agg m),.cv (.agg n)=>
  opt (BN P t) λds => bB (mQ ds m) (bB (mQ ds n) (opt (uQ m n) λr => match op with
  | .eql=>some (.bool r)| .neq=>some (.bool (!r))
  |_=>none))
 |a,b=>opt (P.underlying t) λd=>
  let go (r:Bool):Option CV:=match op with
   | .eql=>some (.bool r)| .neq=>some (.bool (!r))|_=>none
  match nY y with
  |some c=>opt (zD d c a) go|none=>opt (nY x) λc=>opt (zD d c b) go
def CF (op:BinOp)(k:IntKind)(a:Int)(k':IntKind)(b:Int):Option CV:=
 match op with
 | .shl=>some (.int k (k.wrap (a*2^(min b.toNat k.bits))))| .shr=>some (.int k (a.fdiv (2^(min b.toNat k.bits))))|_=>match decide (k=k')with
  |false=>none|true=>match op with
   | .quo=>some (.int k (k.wrap (a.tdiv b)))| .rem=>some (.int k (a.tmod b))|_=>sQ op k a k' b
def FH:Operand->Option Value
 | .const .nilIface=>some .nilIface| .const (.pointer none)=>some (.pointer none)| .const (.slice none 0 0)=>some (.slice none 0 0)|_=>none
def Qa (op:BinOp)(r:Bool):Option CV:=
 match op with
 | .eql=>some (.bool r)| .neq=>some (.bool (!r))|_=>none
def p6 (op:BinOp)(a b:LV):Bool:=
 match a,b with
 | .cv (.v (.int _ _)),.cv (.v (.int _ n))=>match op with
  | .quo=> !decide (n=0)| .rem=> !decide (n=0)| .shl=> !decide (n<0)| .shr=> !decide (n<0)|_=>true
 | .cv (.v (.string m)),.cv (.v (.string n))=>match op with
  | .add=>small (m.data.toList.length+n.data.toList.length)|_=>true
 |_,_=>true
def Dt (P:Program)(op:BinOp)(t:TypeId)(x y:Operand)(a b:LV):Option CV:=
 match a,b with
 | .cv (.v (.int k m)),.cv (.v (.int k' n))=>CF op k m k' n| .cv (.v (.string m)),.cv (.v (.string n))=>match op with
  | .add=>some (.str (m.data.toList++n.data.toList))|_=>K8 op m.data.toList n.data.toList
 |a,b=>wF P op t x y a b
def O6 (x y:Operand)(a b:LV):Option (Value×LV):=
 match FH y with
 |some c=>some (c,a)|none=>match nY y with
  |some _=>none|none=>match FH x with
   |some c=>some (c,b)|none=>none
def um {β:Type}(P:Program)(op:BinOp)(t:TypeId)(x y:Operand)(a b:LV)(f:CV->Option β):Option β:=
 match O6 x y a b with
 |some q=>opt (P.underlying t) λd=>opt (zD d q.1 q.2) λr=>opt (Qa op r) f|none=>bB (p6 op a b) (opt (Dt P op t x y a b) f)
def TB {op:BinOp}{k k':IntKind}{a b:Int}{c:CV}(hg:p6 op (.cv (.v (.int k a))) (.cv (.v (.int k' b)))=true)(h:CF op k a k' b=some c):sQ op k a k' b=some c:=by
 cases op
 case shl=>simp only[p6,jv]at hg;simp only[CF]at h;simp only[sQ,hg];exact h
 case shr=>simp only[p6,jv]at hg;simp only[CF]at h;simp only[sQ,hg];exact h
 case quo=>
  simp only[p6,jv]at hg;simp only[CF]at h;simp only[sQ,hg];exact h
 case rem=>
  simp only[p6,jv]at hg;simp only[CF]at h;simp only[sQ,hg];exact h
 all_goals
  simp only[CF]at h;split at h
  ·cases h
  ·exact h
def PS {P:Program}{op:BinOp}{t:TypeId}{x y:Operand}{a b:LV}{c:CV}(hg:p6 op a b=true)(h:Dt P op t x y a b=some c):wF P op t x y a b=some c:=by
 unfold Dt at h;split at h
 ·exact TB hg h
 ·split at h
  ·simp only[p6]at hg;simp only[wF,K8,hg];exact h
  ·exact h
 ·exact h
def Ed {x:Operand}{c:Value}(h:FH x=some c):x= .const c/\(c= .nilIface\/c= .pointer none\/c= .slice none 0 0):=by unfold FH at h;split at h<;>first|(cases h;done)|(simp only[bJ]at h;subst h;exact⟨rfl,bG⟩)
def SF {β:Type}{P:Program}{op:BinOp}{t:TypeId}{x y:Operand}{a b:LV}{f:CV->Option β}{r:β}(hx: ∀v,x= .const v->a=lg v)(hy: ∀v,y= .const v->b=lg v)(h:um P op t x y a b f=some r):
 ∃c,wF P op t x y a b=some c/\f c=some r:=by
 have key: ∀{n:Value} {l:LV},(opt (P.underlying t) λd=>opt (zD d n l) λr=>opt (Qa op r) f)=some r-> ∃c,(opt (P.underlying t) λd=>opt (zD d n l) (Qa op))=some c/\f c=some r:=by
  intro n l h;cases hu:P.underlying t with
  |none=>rw[hu]at h;cases h|some d=>
   rw[hu]at h;simp only[opt]at h |-;cases hn:zD d n l with
   |none=>rw[hn]at h;cases h|some b=>
    rw[hn]at h;simp only at h |-;cases he:Qa op b with|none=>rw[he]at h;cases h|some c=>rw[he]at h;exact⟨c,rfl,h⟩
 unfold um O6 at h;cases hny:FH y with
 |some n=>
  rw[hny]at h;obtain⟨rfl,hc⟩:=Ed hny;have hb:=hy n rfl;subst hb;obtain⟨c,h1,h2⟩:=key h;refine⟨c,?_,h2⟩;unfold wF;split
  ·rename_i e;rcases hc with rfl|rfl|rfl<;>simp[lg]at e
  ·rename_i e;rcases hc with rfl|rfl|rfl<;>simp[lg]at e
  ·rename_i e;rcases hc with rfl|rfl|rfl<;>simp[lg]at e
  ·rename_i e;rcases hc with rfl|rfl|rfl<;>simp[lg]at e
  ·simp only[nY];exact h1
 |none=>
  rw[hny]at h;have plain:bB (p6 op a b) (opt (Dt P op t x y a b) f)=some r-> ∃c,wF P op t x y a b=some c/\f c=some r:=by
   intro h;unfold bB at h;cases hg:p6 op a b with
   |false=>rw[hg]at h;cases h|true=>
    rw[hg]at h;simp only[bY]at h;cases hb:Dt P op t x y a b with|none=>rw[hb]at h;cases h|some c=>rw[hb]at h;exact⟨c,PS hg hb,h⟩
  cases hcy:nY y with
  |some cy=>rw[hcy]at h;exact plain h|none=>
   rw[hcy]at h;cases hnx:FH x with
   |none=>rw[hnx]at h;exact plain h|some n=>
    rw[hnx]at h;obtain⟨rfl,hc⟩:=Ed hnx;have ha:=hx n rfl;subst ha;obtain⟨c,h1,h2⟩:=key h;refine⟨c,?_,h2⟩;unfold wF;split
    ·rename_i e;rcases hc with rfl|rfl|rfl<;>simp[lg]at e
    ·rename_i e;rcases hc with rfl|rfl|rfl<;>simp[lg]at e
    ·rename_i e;rcases hc with rfl|rfl|rfl<;>simp[lg]at e
    ·rename_i e;rcases hc with rfl|rfl|rfl<;>simp[lg]at e
    ·rw[hcy];simp only[nY,opt];exact h1
def unA (op:UnOp):LV->Option CV
 | .cv (.v (.bool b))=>match op with| .not=>some (.bool (!b))|_=>none
 | .cv (.v (.int k n))=>match op with
  | .neg=>some (.int k (k.wrap (0-n)))| .xor=>some (.int k (k.wrap (BitVec.ofInt k.bits (if k.signed then -1 else k.max) ^^^ BitVec.ofInt k.bits n).toNat))|_=>none
 |_=>none
def En (t:Bool)(a b:LV):LV:=
 match a,b with
 | .cv (.v (.bool x)),.cv (.v (.bool y))=> .cv (.v (.bool (cond t x y)))|a,b=>match t with|true=>a|false=>b
def km (l:List UInt8)(i:Int):Option UInt8:=match decide (0<=i)with|true=>l[i.toNat]? |false=>none
def dr (xs:List CV)(i:Int):Option CV:=match decide (0<=i)with|true=>xs[i.toNat]? |false=>none
def ku {α:Type}(xs:List α)(lo hi:Int):Option (List α):=
 match decide (0<=lo)&&decide (lo<=hi)&&decide (hi<=(xs.length:Int))with
 |true=>some ((xs.drop lo.toNat).take (hi-lo).toNat)|false=>none
def de:List CV->Option (List UInt8)
 |[]=>some []| .v (.int .u8 n)::r=>match decide (0<=n)&&decide (n<256)with
  |true=>opt (de r) λl=>some (UInt8.ofNat n.toNat::l)|false=>none
 |_::_=>none
def noB:CV->Bool
 | .v (.int .u8 _)=>false|_=>true
def gw:List CV->Bool
 |[]=>true|y::_=>noB y
def X9:LV->Option Int
 | .cv (.sl xs)=>some (xs.length:Int)| .cv (.v (.slice none 0 0))=>some 0| .osl xs=>some (xs.length:Int)| .lsl _ _ len=>some (len:Int)| .cv (.msl _ _ _ len)=>some (len:Int)| .stl n=>some (n:Int)|_=>none
def Qs (P:Program)(t:TypeId)(x:LV):Option Int:=
 match P.underlying t with
 |some .string=>opt (cf x) λl=>some (l.length:Int)|some (.slice _)=>X9 x|_=>none
def zeroCells (P:Program)(t:TypeId):Option (List CV):=
 match P.info? t with
 |some i=>match i.zero with
  |some z=>match z with
   | .agg cs=>some (cs.toList.map .v)|x=>some [.v x]
  |none=>none
 |none=>none
def d4 (P:Program)(t:TypeId):Option Nat:=match P.info? t with|some i=>some i.size|none=>none
def nW (P:Program)(t:TypeId):Bool:=match P.info? t with|some i=>Nat.ble i.bytes 128&&Nat.ble 1 i.size|none=>false
def dh {α:Type}:List α->Nat->List α->List α
 |cs,_,[]=>cs|cs,off,v::r=>dh (cs.set off v) (off+1) r
def oN (place:Nat->Option (Nat×Nat)):List CV->List (Nat×CV)->Option (List CV)
 |cs,[]=>some cs|cs,(i,c)::r=>
  match place i with
  |none=>none|some q=>match Nat.beq c.cells.length q.2&&Nat.ble (q.1+q.2) cs.length with
   |true=>oN place (dh cs q.1 c.cells) r|false=>none
def j8 (P:Program):List Field->Option (List (Nat×Nat))
 |[]=>some []|f::r=>opt (d4 P f.type) λn=>opt (j8 P r) λl=>some ((f.offset,n)::l)
def kG (ev:Operand->LV):List (Nat×Operand)->Option (List (Nat×CV))
 |[]=>some []|q::r=>opt (cx (ev q.2)) λc=>bB (iH c) (opt (kG ev r) λl=>some ((q.1,c)::l))
def Dv (P:Program)(t:TypeId)(parts:List (Nat×CV)):Option CV:=
 opt (zeroCells P t) λz=>
 match P.underlying t with
 |some (.struct fs)=>opt (j8 P fs.toList) λpl=>opt (oN (λi=>pl[i]?) z parts) λcs=>some (.agg cs)|some (.array _ e)=>opt (d4 P e) λn=>opt (oN (λi=>some (i*n,n)) z parts) λcs=>some (.agg cs)|_=>none
def zm (sz:Nat):Nat->List (Nat×CV)->Option (List CV)
 |_,[]=>some []|n,(i,c)::r=>match Nat.beq i n&&Nat.beq c.cells.length sz with
  |true=>opt (zm sz (n+1) r) λl=>some (c::l)|false=>none
def zX:LV->Bool
 | .cv c=>cY c| .ltup _=>false|_=>true
def sL (b:Bool)(x:LV):Option (List LV):=match b with|true=>x.cells|false=>match zX x with|true=>some [x]|false=>none
def uR {β:Type}(b:Bool)(x:LV)(k:List LV->Option β):Option β:=match b with|true=>opt x.cells k|false=>bB (zX x) (k [x])
def s7 (b:Bool)(c:CV):Bool:=match b with|true=>iH c|false=>cY c
def oG (b:Bool)(c:CV):List CV:=match b with|true=>c.cells|false=>[c]
def rJ:List CV->List CV
 |[]=>[]| .v (.slice none 0 0)::r=> .sl []::rJ r|c::r=>c::rJ r
def p9 (ag:Nat->Bool)(place:Nat->Option (Nat×Nat))(ev:Operand->LV):List CV->List (Nat×Operand)->Option (List CV)
 |cs,[]=>some cs|cs,q::r=>opt (place q.1) λp=>opt (cx (ev q.2)) λc=>bB (s7 (ag q.1) c) (bB (Nat.beq (oG (ag q.1) c).length p.2&&Nat.ble (p.1+p.2) cs.length) (p9 ag place ev (dh cs p.1 (oG (ag q.1) c)) r))
def DH {β:Type}(ag:Nat->Bool)(place:Nat->Option (Nat×Nat))(ev:Operand->LV):List CV->List (Nat×Operand)->(List CV->Option β)->Option β
 |cs,[],k=>k cs|cs,q::r,k=>opt (place q.1) λp=>opt (cx (ev q.2)) λc=>bB (s7 (ag q.1) c) (bB (Nat.beq (oG (ag q.1) c).length p.2&&Nat.ble (p.1+p.2) cs.length) (DH ag place ev (dh cs p.1 (oG (ag q.1) c)) r k))
def HN (P:Program)(t:TypeId):Nat->Bool:=λi=>
 match P.underlying t with
 |some (.struct fs)=>match fs[i]? with|some f=>dz P f.type|none=>false
 |some (.array _ e)=>dz P e|_=>false
def oF (P:Program)(t:TypeId)(ev:Operand->LV)(parts:List (Nat×Operand)):Option CV:=
 opt (zeroCells P t) λz=>
 match P.underlying t with
 |some (.struct fs)=>opt (j8 P fs.toList) λpl=>opt (p9 (HN P t) (λi=>pl[i]?) ev z parts) λcs=>some (.agg cs)|some (.array _ e)=>opt (d4 P e) λn=>opt (p9 (HN P t) (λi=>some (i*n,n)) ev z parts) λcs=>some (.agg cs)|_=>none
def Dw {β:Type}(P:Program)(t:TypeId)(ev:Operand->LV)(parts:List (Nat×Operand))(k:CV->Option β):Option β:=
 opt (zeroCells P t) λz=>
 match P.underlying t with
 |some (.struct fs)=>opt (j8 P fs.toList) λpl=>DH (HN P t) (λi=>pl[i]?) ev z parts λcs=>k (.agg cs)|some (.array _ e)=>opt (d4 P e) λn=>DH (HN P t) (λi=>some (i*n,n)) ev z parts λcs=>k (.agg cs)|_=>none
def rf (b:Bool)(sz:Nat)(ev:Operand->LV):Nat->List (Nat×Operand)->Option (List CV)
 |_,[]=>some []|n,q::r=>opt (cx (ev q.2)) λc=>bB (s7 b c) (bB (Nat.beq q.1 n&&Nat.beq (oG b c).length sz) (opt (rf b sz ev (n+1) r) λl=>some (c::l)))
def QA {β:Type}(b:Bool)(sz:Nat)(ev:Operand->LV):Nat->List (Nat×Operand)->(List CV->Option β)->Option β
 |_,[],k=>k []|n,q::r,k=>opt (cx (ev q.2)) λc=>bB (s7 b c) (bB (Nat.beq q.1 n&&Nat.beq (oG b c).length sz) (QA b sz ev (n+1) r λl=>k (c::l)))
def pI (P:Program)(s:TypeId)(f:Nat):Option (Nat×TypeId):=
 match P.underlying s with
 |some (.struct fs)=>match fs[f]? with
  |some f=>match d4 P f.type with
   |some (_+1)=>some (f.offset,f.type)|_=>none
  |none=>none
 |_=>none
def jq (P:Program)(t:TypeId)(cs:List CV)(off:Nat):Option CV:=
 match dz P t with
 |true=>opt (d4 P t) λn=>match Nat.ble (off+n) cs.length with
  |true=>some (.agg ((cs.drop off).take n))|false=>none
 |false=>cs[off]?
def il (P:Program)(t:TypeId)(cs:List CV)(off:Nat):Option CV:=opt (P.underlying t) λ_=>jq P t cs off
def ga (sz:Nat)(c:CV):Bool:=Nat.beq c.cells.length sz&&iH c
def ee (sz:Nat):List CV->Bool
 |[]=>true|c::r=>match ga sz c with|true=>ee sz r|false=>false
def nD:List LV->Option (List CV)
 |[]=>some []|x::r=>opt (cx x) λc=>opt (nD r) λl=>some (c::l)
def b7 (μ:Mu)(lev i:Nat):Ob:=
 match μ[lev]? with
 |some l=>match l[i]? with|some o=>o|none=> .dead
 |none=> .dead
def bQ (l:Lam)(i:Nat):Ob:=match l[i]? with|some o=>o|none=> .dead
def cq (μ:Mu)(lev i:Nat)(o:Ob):Mu:=
 match μ[lev]? with
 |some l=>μ.set lev (l.set i o)|none=>μ
def pQ (P:Program)(t:TypeId)(o:Ob)(off:Nat):Option LV:=
 match o with
 | .cells cs=>match dz P t with
  |true=>opt (d4 P t) λn=>match Nat.ble (off+n) cs.length with
   |true=>opt (nD ((cs.drop off).take n)) λl=>some (.cv (.agg l))|false=>none
  |false=>match cs[off]? with
   |some x=>some (strip x)|none=>none
 | .arr _ cs=>opt (jq P t cs off) λc=>some (.cv c)| .dead=>none| .map _ _=>none
def cD (P:Program)(t:TypeId)(o:Ob)(off:Nat):Option LV:=opt (P.underlying t) λ_=>pQ P t o off
def gh (P:Program)(t:TypeId)(o:Ob)(off:Nat):Option (LV×Ob):=opt (P.underlying t) λ_=>
 match dz P t with
 |true=>none|false=>match o with
  | .cells cs=>match cs[off]? with
   |some x=>some (x,.cells (cs.set off (strip x)))|none=>none
  |_=>none
def du (P:Program)(t:TypeId)(o:Ob)(off:Nat)(v:LV):Option Ob:=
 match o with
 | .cells cs=>opt (sL (dz P t) v) λvs=>opt (d4 P t) λn=>match Nat.beq vs.length n&&Nat.ble (off+n) cs.length with
  |true=>some (.cells (dh cs off vs))|false=>none
 | .arr sz cs=>opt (cx v) λc=>opt (d4 P t) λn=>match ga n c&&Nat.ble (off+n) cs.length with
  |true=>some (.arr sz (dh cs off c.cells))|false=>none
 | .dead=>none| .map _ _=>none
mutual
def below (n:Nat):CV->Bool
 | .undef=>true| .v _=>true| .agg cs=>dl n cs| .sl cs=>dl n cs| .view cs=>dl n cs| .ref lev _ _=>decide (lev<n)| .msl lev _ _ _=>decide (lev<n)| .clo _ cs=>dl n cs| .iface _ c=>below n c| .mview _ vs=>dl n vs| .mref lev _=>decide (lev<n)| .tref lev _ _ _=>decide (lev<n)
def dl (n:Nat):List CV->Bool
 |[]=>true|c::r=>match below n c with|true=>dl n r|false=>false
end
def FM (lev:Nat):LV->Bool
 | .cv c=>below (lev+1) c| .osl xs=>dl (lev+1) xs|_=>false
def qX (L:Nat):LV->Option CV
 | .cv c=>some c| .osl xs=>some (.sl xs)| .loc i off=>some (.ref L i off)| .lsl i off len=>some (.msl L i off len)| .mloc i=>some (.mref L i)| .tloc i t n=>some (.tref L i t n)|_=>none
def ph (L:Nat):List LV->Option (List CV)
 |[]=>some []|x::r=>opt (qX L x) λc=>opt (ph L r) λl=>some (c::l)
def AP (L:Nat):LV->Option LV
 | .osl xs=>some (.osl xs)| .lclo f caps=>opt (ph L caps) λcs=>some (.cv (.clo f cs))|x=>opt (qX L x) λc=>some (.cv c)
def ke (L:Nat):List LV->Option (List LV)
 |[]=>some []|x::r=>opt (AP L x) λc=>opt (ke L r) λl=>some (c::l)
def gK (L:Nat):Lam->Option Lam
 |[]=>some []| .dead::r=>opt (gK L r) λl=>some (.dead::l)| .arr sz cs::r=>opt (gK L r) λl=>some (.arr sz cs::l)| .map ks vs::r=>opt (gK L r) λl=>some (.map ks vs::l)| .cells cs::r=>opt (ke L cs) λcs=>opt (gK L r) λl=>some (.cells cs::l)
def mr:LV->Bool
 | .cv _=>true| .osl _=>true|_=>false
def jV:List LV->Bool
 |[]=>true|x::r=>match mr x with|true=>jV r|false=>false
def mJ:LV->Bool
 | .cv _=>true| .osl _=>true| .ltup xs=>jV xs|_=>false
def qC (n:Nat):LV->Bool
 | .cv c=>below n c| .osl xs=>dl n xs|_=>false
def fj (n:Nat):LV->Bool
 | .ltup xs=>xs.all (qC n)|x=>qC n x
structure Rho where
 call:FuncId->List LV->Mu->Option Out
 loop:Hints->List (Nat×Nat)->Code->S->Mu->Option St
 seg:Hints->List (Nat×Nat)->Code->S->Mu->Option St
 dcall:FuncId->Option CV->List LV->Mu->Option Mu
section
variable (P:Program)(ρ:Rho)
variable {α:Type}
def callK (r:Option Out)(k:LV->Mu->Option α)(p:CV->Mu->Option α):Option α:=
 opt r λ
  | .ret v μ=>k v μ| .panic v μ=>p v μ
def dq (μ:Mu):Option (Mu×Lam):=match μ.reverse with|l::r=>some (r.reverse,l)|[]=>none
def f8:LV->Option (List CV)
 | .cv (.view cs)=>some cs|_=>none
def oO:LV->Option (Nat×Nat×Nat)
 | .cv (.ref lev i off)=>some (lev,i,off)|_=>none
def Jp:LV->Option (Nat×Nat×Nat×Nat)
 | .cv (.msl lev i off len)=>some (lev,i,off,len)|_=>none
def oh {β:Type}(P:Program)(b:Bool)(t:TypeId)(v:LV)(k:LV->Option β):Option β:=match b with|true=>eP P false t v k|false=>k v
def jA (h:OpHint)(t:TypeId)(a:LV)(s:S)(μ:Mu)(k:LV->S->Mu->Option α):Option α:=
 match a with
 | .loc i off=>match h.outer with
  |true=>none|false=>match h.cell with
   |false=>opt (cD P t (bQ s.lam i) off) λv=>oh P h.arr t v λv=>k v s μ|true=>opt (gh P t (bQ s.lam i) off) λq=>k q.1 {s with lam:=s.lam.set i q.2} μ
 | .cv _=>match h.outer with
  |false=>opt (f8 a) λcs=>opt (il P t cs 0) λc=>k (.cv c) s μ|true=>opt (oO a) λq=>match h.cell with
   |false=>opt (cD P t (b7 μ q.1 q.2.1) q.2.2) λv=>eP P false t v λv=>k v s μ|true=>opt (gh P t (b7 μ q.1 q.2.1) q.2.2) λr=>eP P true t r.1 λv=>k v s (cq μ q.1 q.2.1 r.2)
 |_=>none
def pR (t:TypeId)(o:Ob)(off:Nat)(v:LV)(k:Ob->Option α):Option α:=
 match o with
 | .arr sz cs=>opt (cx v) λc=>opt (d4 P t) λn=>bB (ga n c&&Nat.ble (off+n) cs.length) (k (.arr sz (dh cs off c.cells)))| .cells cs=>uR (dz P t) v λvs=>opt (d4 P t) λn=>bB (Nat.beq vs.length n&&Nat.ble (off+n) cs.length) (k (.cells (dh cs off vs)))|o=>opt (du P t o off v) k
def lC (h:OpHint)(t:TypeId)(a v:LV)(s:S)(μ:Mu)(k:LV->S->Mu->Option α):Option α:=
 match a with
 | .loc i off=>match h.outer with
  |true=>none|false=>pR P t (bQ s.lam i) off v λo=>k (.cv .undef) {s with lam:=s.lam.set i o} μ
 | .cv _=>match h.outer with
  |false=>none|true=>opt (oO a) λq=>bB (FM q.1 v) (opt (du P t (b7 μ q.1 q.2.1) q.2.2 v) λo=>k (.cv .undef) s (cq μ q.1 q.2.1 o))
 |_=>none
def iS (h:OpHint)(s:TypeId)(a:LV)(f:Nat)(k:LV->Option α):Option α:=
 opt (pI P s f) λq=>match a with
 | .loc i off=>k (.loc i (off+q.1))| .cv _=>match h.outer with
  |false=>opt (f8 a) λcs=>f9 (DV P 8 s) cs λcs=>bB (Nat.ble q.1 cs.length) (k (.cv (.view (cs.drop q.1))))|true=>opt (oO a) λr=>k (.cv (.ref r.1 r.2.1 (r.2.2+q.1)))
 |_=>none
def Jl (s:TypeId)(x:LV)(f:Nat):Option LV:=
 opt (pI P s f) λq=>opt (fJ x) λcs=>opt (il P q.2 cs q.1) λc=>some (.cv c)
def fc (i:Int)(len:Nat):Bool:=decide (0<=i)&&decide (i<(len:Int))
def oM (b:Bool)(n:Nat)(c:CV)(k:LV->Option α):Option α:=
 match b with
 |true=>bB (Nat.beq c.cells.length n) (k (.cv (.view c.cells)))|false=>bB (cY c) (bB (Nat.beq 1 n) (k (.cv (.view [c]))))
def iU (h:OpHint)(t:TypeId)(x:LV)(i:Int)(k:LV->Option α):Option α:=
 match P.underlying t with
 |some (.slice e)=>opt (d4 P e) λn=>match x with
  | .lsl id off len=>bB (fc i len) (k (.loc id (off+i.toNat*n)))| .osl xs=>opt (dr xs i) λc=>iL P e c λc=>oM (dz P e) n c k| .cv _=>match h.outer with
   |false=>opt (cR x) λxs=>opt (dr xs i) λc=>iL P e c λc=>oM (dz P e) n c k|true=>opt (Jp x) λq=>bB (fc i q.2.2.2) (k (.cv (.ref q.1 q.2.1 (q.2.2.1+i.toNat*n))))
  |_=>none
 |some (.array len e)=>opt (d4 P e) λn=>match x with
  | .loc id off=>bB (fc i len) (k (.loc id (off+i.toNat*n)))| .cv _=>match h.outer with
   |false=>opt (f8 x) λcs=>bB (fc i len) (bB (Nat.ble (i.toNat*n) cs.length) (k (.cv (.view (cs.drop (i.toNat*n))))))|true=>opt (oO x) λq=>bB (fc i len) (k (.cv (.ref q.1 q.2.1 (q.2.2+i.toNat*n))))
  |_=>none
 |_=>none
def oS (t:TypeId)(x:LV)(i:Int)(k:LV->Option α):Option α:=
 match P.underlying t with
 |some .string=>opt (cf x) λl=>opt (km l i) λb=>k (.cv (.v (.int .u8 (b.toNat:Int))))|some (.array len e)=>match x with
  | .cv _=>opt (fJ x) λcs=>opt (d4 P e) λn=>bB (fc i len) (opt (il P e cs (i.toNat*n)) λc=>iL P e c λc=>k (.cv c))|_=>none
 |_=>none
def oD:LV->Option Int
 | .cv (.v (.int _ n))=>some n|_=>none
def fl (ev:Operand->LV)(x:Option Operand)(d:Int)(k:Int->Option α):Option α:=
 match x with
 |none=>k d|some x=>opt (oD (ev x)) k
def vo (n:Nat)(a:Int)(xs:List CV):Bool:=match decide (a=0)with|true=>true|false=>ee n xs
def lA (t:TypeId)(x:LV)(lo hi:Option Operand)(ev:Operand->LV)(k:LV->Option α):Option α:=
 match P.underlying t with
 |some .string=>opt (cf x) λl=>fl ev lo 0 λa=>fl ev hi (l.length:Int) λb=>opt (ku l a b) λr=>k (.cv (.v (.string ⟨⟨r⟩⟩)))|some (.slice e)=>opt (d4 P e) λn=>match x with
  | .cv _=>opt (cR x) λxs=>fl ev lo 0 λa=>fl ev hi (xs.length:Int) λb=>bB (vo n a xs) (opt (ku xs a b) λr=>k (.cv (.sl r)))| .osl xs=>fl ev lo 0 λa=>fl ev hi (xs.length:Int) λb=>bB (vo n a xs) (opt (ku xs a b) λr=>k (.cv (.sl r)))| .lsl id off len=>fl ev lo 0 λa=>fl ev hi (len:Int) λb=>
   bB (decide (a=0)&&decide (0<=b)&&decide (b<=(len:Int))) (k (.lsl id off b.toNat))
  | .ost xs=>fl ev lo 0 λa=>fl ev hi (xs.length:Int) λb=>
   bB (decide (a=0)&&decide (0<=b)&&decide (b<(xs.length:Int))) (k (.ost (xs.take b.toNat)))
  |_=>none
 |_=>none
def ko (isAgg:Bool)(sz:Nat):Nat->List CV->List CV
 |0,_=>[]|n+1,cs=>(match isAgg with|false=>cs.headD .undef|true=> .agg (cs.take sz))::ko isAgg sz n (cs.drop sz)
def ef (sz:Nat)(xs ys:List CV):Bool:=small (xs.length+ys.length)&&ee sz xs&&ee sz ys
def mF (h:OpHint)(t:TypeId)(xt:Option TypeId)(x y:LV)(s:S)(μ:Mu)(k:LV->S->Mu->Option α):Option α:=
 match P.underlying t with
 | some (.slice e) => opt (d4 P e) λsz => bB (nW P e) (opt (zeroCells P e) λz => bB (Nat.beq z.length sz) (match xt with
  |none=>none|some xt=>match h.own with
  |true=>opt (DK x) λxs=>match P.underlying xt with
   |some (.slice _)=>opt (cR y) λys=>opt (Aa ys) λvs=>bB (Nat.beq sz 1&&small (xs.length+vs.length)) (k (.ost (xs++vs)) s μ)|_=>none
  |false=>opt (gv x) λxs=>match P.underlying xt with
   |some .string=>opt (cf y) λl=>bB (Nat.beq e 5&&(Nat.beq sz 1&&small (xs.length+l.length)&&ee 1 xs)) (k (.osl (xs++l.map λb=> .v (.int .u8 (b.toNat:Int)))) s μ)|some (.slice _)=>opt (cR y) λys=>bB ((Nat.beq e 5||gw ys)&&ef sz xs ys) (k (.osl (xs++ys)) s μ)
   |_=>none))
 |_=>none
def fy (h:OpHint)(src dst:TypeId)(x:LV)(s:S)(μ:Mu)(k:LV->S->Mu->Option α):Option α:=
 match P.underlying dst with
 |some (.int ik)=>match P.underlying src with
  |some (.int _)=>opt (oD x) λn=>k (.cv (.v (.int ik (ik.wrap n)))) s μ|_=>none
 |some .string=>match P.underlying src with
  |some .string=>opt (cf x) λl=>k (.cv (.v (.string ⟨⟨l⟩⟩))) s μ|some (.slice e)=>match P.underlying e with
   |some (.int .u8)=>match x with
    | .lsl id off len=>match bQ s.lam id with
     | .arr _ cs=>bB (Nat.ble (off+len) cs.length) (opt (de ((cs.drop off).take len)) λl=>k (.cv (.v (.string ⟨⟨l⟩⟩))) s μ)|_=>none
    |_=>opt (cR x) λxs=>opt (de xs) λl=>k (.cv (.v (.string ⟨⟨l⟩⟩))) s μ
   |_=>none
  |_=>none
 |some (.slice e)=>match P.underlying src with
  |some .string=>match P.underlying e with
   | some (.int .u8) => opt (cf x) λl => bB (small l.length) (match h.arr with
    |true=>k (.lsl s.lam.length 0 l.length) {s with lam:=s.lam++[.arr 1 (l.map λb=> .v (.int .u8 (b.toNat:Int)))]} μ
    |false=>k (.cv (.sl (l.map λb=> .v (.int .u8 (b.toNat:Int))))) s μ)
   |_=>none
  |_=>none
 |_=>none
def Fw (t:Nat)(s:S):Option S:=
 match s.fr t with
 | .loc i off=>match decide (off=0)with
  |true=>match bQ s.lam i with
   | .cells cs=>opt (nD cs) λl=>some {s with fr:=upd s.fr t (.cv (.view (rJ l))),lam:=s.lam.set i .dead}|_=>none
  |false=>none
 | .mloc i=>match bQ s.lam i with
  | .map ks vs=>some {s with fr:=upd s.fr t (.cv (.mview ks vs)),lam:=s.lam.set i .dead}|_=>none
 | .ost xs=>some {s with fr:=upd s.fr t (.cv (.sl (xs.map .v)))}|_=>none
def uX:List Nat->S->Option S
 |[],s=>some s|t::r,s=>opt (Fw t s) λs=>uX r s
def n8 (t:Nat)(e:TypeId)(s:S):Option S:=
 match s.fr t with
 | .lsl i off len=>match decide (off=0)with
  |true=>match bQ s.lam i with
   | .arr sz cs=>opt (d4 P e) λn=>bB (Nat.beq sz n) (bB ((dz P e||(Nat.beq n 1&&fD cs))&&Nat.ble (len*n) cs.length) (some {s with fr:=upd s.fr t (.cv (.sl (ko (dz P e) n len cs))),lam:=s.lam.set i .dead}))|_=>none
  |false=>none
 |_=>none
def mK:List (Nat×TypeId)->S->Option S
 |[],s=>some s|q::r,s=>opt (n8 P q.1 q.2 s) λs=>mK r s
def wP {β:Type}(t:Nat)(e:TypeId)(s:S)(k:S->Option β):Option β:=
 match s.fr t with
 | .lsl i off len=>match decide (off=0)with
  |true=>match bQ s.lam i with
   | .arr sz cs=>opt (d4 P e) λn=>bB (Nat.beq sz n) (bB ((dz P e||(Nat.beq n 1&&fD cs))&&Nat.ble (len*n) cs.length) (k {s with fr:=upd s.fr t (.cv (.sl (ko (dz P e) n len cs))),lam:=s.lam.set i .dead}))|_=>none
  |false=>none
 |_=>none
def qc {β:Type}:List (Nat×TypeId)->S->(S->Option β)->Option β
 |[],s,k=>k s|q::r,s,k=>wP P q.1 q.2 s λs=>qc r s k
def Hz {β:Type}{t:Nat}{e:TypeId}{s:S}{k:S->Option β}:wP P t e s k=opt (n8 P t e s) k:=by
 unfold wP n8;cases s.fr t<;>try rfl
 dsimp only;split
 ·split
  ·cases d4 P e with
   |none=>rfl|some n=>
    dsimp only[opt];cases Nat.beq _ n
    ·rfl
    ·dsimp only[bB,bY];generalize((dz P e||(Nat.beq n 1&&fD _))&&Nat.ble (_*n) _)=b;cases b<;>rfl
  ·rfl
 ·rfl
def pJ {β:Type}: ∀{l:List (Nat×TypeId)} {s:S} {k:S->Option β},qc P l s k=opt (mK P l s) k
 |[],s,k=>rfl|q::r,s,k=>by
  simp only[qc,mK,Hz];cases n8 P q.1 q.2 s with|none=>rfl|some s1=>exact pJ
def optE {α β:Type}(x:Option α)(f:α->Option β)(g:Option β):Option β:=match x with|some a=>f a|none=>g
def Qn (d:TypeDesc)(v:LV):Option Value:=
 match d with
 | .int k=>opt (bI k v) λn=>some (.int k n)| .string=>opt (cf v) λl=>some (.string ⟨⟨l⟩⟩)| .bool=>opt (ce v) λb=>some (.bool b)|_=>none
def Jt:TypeDesc->Value->Bool
 | .bool,.bool _=>true| .int k,.int k' _=>decide (k'=k)| .string,.string _=>true|_,_=>false
def oU (d:TypeDesc):List Value->Bool
 |[]=>true|x::r=>match Jt d x with|true=>oU d r|false=>false
def Az:Value->Value->Bool
 | .int _ a,.int _ b=>decide (a=b)| .string a,.string b=>decide (a.data.toList=b.data.toList)| .bool a,.bool b=>a == b|_,_=>false
def oT:List Value->Value->Option Nat
 |[],_=>none|x::r,k=>match Az k x with|true=>some 0|false=>opt (oT r k) λn=>some (n+1)
def kD:List Value->List CV->Value->Option CV
 |x::ks,c::vs,k=>match Az k x with|true=>some c|false=>kD ks vs k
 |_,_,_=>none
def pL (ks:List Value)(k:Value):List Value:=match oT ks k with|some _=>ks|none=>ks++[k]
def pM (ks:List Value)(vs:List CV)(k:Value)(c:CV):List CV:=match oT ks k with|some i=>vs.set i c|none=>vs++[c]
def EQ (P:Program)(t:TypeId):Option CV:=
 match P.info? t with
 |some i=>match i.zero with
  |some z=>match z with
   | .agg cs=>some (.agg (cs.toList.map .v))|x=>some (.v x)
  |none=>none
 |none=>none
def HS (P:Program)(t:TypeId):Option (TypeDesc×TypeId):=
 match P.underlying t with
 |some (.map k e)=>opt (P.underlying k) λd=>some (d,e)|_=>none
def lL (t:TypeId)(m x y:LV)(s:S)(μ:Mu)(k:LV->S->Mu->Option α):Option α:=
 opt (HS P t) λq=>opt (Qn q.1 x) λkv=>opt (cx y) λc=>match m with
  | .mloc i=>match bQ s.lam i with
   | .map ks vs=>bB (oU q.1 ks) (k (.cv .undef) {s with lam:=s.lam.set i (.map (pL ks kv) (pM ks vs kv c))} μ)|_=>none
  | .cv (.mref lev i)=>match b7 μ lev i with
   | .map ks vs=>bB (oU q.1 ks&&below (lev+1) c) (k (.cv .undef) s (cq μ lev i (.map (pL ks kv) (pM ks vs kv c))))|_=>none
  |_=>none
def AD (m:LV)(s:S)(μ:Mu):Option (List Value×List CV):=
 match m with
 | .cv (.mview ks vs)=>some (ks,vs)| .cv (.v (.map none))=>some ([],[])| .mloc i=>match bQ s.lam i with| .map ks vs=>some (ks,vs)|_=>none
 | .cv (.mref lev i)=>match b7 μ lev i with| .map ks vs=>some (ks,vs)|_=>none
 |_=>none
def mT (t:TypeId)(m x:LV)(ok:Bool)(s:S)(μ:Mu)(k:LV->Option α):Option α:=
 opt (HS P t) λq => opt (Qn q.1 x) λkv => opt (AD m s μ) λp => bB (oU q.1 p.1) (
  optE (kD p.1 p.2 kv)
   (λc=>iL P q.2 c λc=>match ok with|true=>k (.ltup [.cv c,.cv (.v (.bool true))])|false=>k (.cv c))
   (opt (EQ P q.2) λz=>match ok with|true=>k (.ltup [.cv z,.cv (.v (.bool false))])|false=>k (.cv z)))
def mH (x:LV)(t:TypeId)(ok:Bool)(k:LV->Option α):Option α:=
 match P.underlying t with
 |some (.interface _)=>none|some _=>match ok with
  |false=>none|true=>opt (EQ P t) λz=>match x with
   | .cv (.iface u c)=>match Nat.beq u t with
    |true=>k (.ltup [.cv c,.cv (.v (.bool true))])|false=>k (.ltup [.cv z,.cv (.v (.bool false))])
   | .cv (.v .nilIface)=>k (.ltup [.cv z,.cv (.v (.bool false))])|_=>none
 |none=>none
def gG (h:OpHint)(t:TypeId)(f:FuncId)(args:List LV)(s:S)(μ:Mu)(k:LV->S->Mu->Option α)(p:CV->S->Mu->Option α):Option α:=
 match h.push with
 | false => bB (!s.pushed && jV args) (
  callK (ρ.call f args μ) (λv μ=>eP P h.own t v λv=>k v s μ) (λv μ=>p v s μ))
 |true=>opt (ke μ.length args) λargs=>opt (gK μ.length s.lam) λl=>
  callK (ρ.call f args (μ++[l])) (λv μ=>opt (dq μ) λq=>eP P h.own t v λv=>k v {s with lam:=q.2,pushed:=true} q.1)
   (λv μ=>opt (dq μ) λq=>p v {s with lam:=q.2,pushed:=true} q.1)
def CI (t:Nat):List Operand->Bool
 |[]=>false| .tmp u::r=>match Nat.beq u t with|true=>true|false=>CI t r
 |_::r=>CI t r
def jL:List Operand->Bool
 |[]=>true| .tmp t::r=>match CI t r with|true=>false|false=>jL r
 |_::r=>jL r
def FT:Operand->Operand->Bool
 | .tmp a,.tmp b=>Nat.beq a b|_,_=>false
def kc {α:Type}(n:Nat)(z:List α):List α:=(List.replicate n z).flatten
def D3 (t:TypeId)(l:LV)(s:S)(μ:Mu)(k:LV->S->Mu->Option α):Option α:=
 match P.underlying t with
 | some (.slice e) => opt (d4 P e) λsz => bB (nW P e) (opt (zeroCells P e) λz => bB (Nat.beq z.length sz) (opt (oD l) λn => bB (decide (0 <= n) && decide (n <= 1000000000)) (
  k (.lsl s.lam.length 0 n.toNat) {s with lam:=s.lam++[.arr sz (kc n.toNat z)]} μ)))
 |_=>none
def DD (t:TypeId)(x y:LV)(s:S)(μ:Mu)(k:LV->S->Mu->Option α):Option α:=
 match P.underlying t with
 |some (.slice e)=>opt (d4 P e) λsz=>match x with
  | .lsl i off len=>match bQ s.lam i with
   | .arr z cs => bB (Nat.beq z sz) (opt (cR y) λys => bB (ee sz ys && (Nat.ble ys.length len && Nat.ble (off + ys.length * sz) cs.length)) (
    k (.cv (.v (.int .i64 (ys.length:Int)))) {s with lam:=s.lam.set i (.arr z (dh cs off (ys.flatMap CV.cells)))} μ))
   |_=>none
  |_=>none
 |_=>none
def dY (h:OpHint)(o:Oper)(s0:S)(μ:Mu)(k:LV->S->Mu->Option α)(p:CV->S->Mu->Option α):Option α:=
 let ev:=evA h s0.fr;let s:=bw h.take s0
 match o.op with
 | .move x=>k (ev x) s μ| .assign x=>k (ev x) s μ| .pick c a b=>opt (ce (ev c)) λt=>k (En t (ev a) (ev b)) s μ| .alloc e=>opt (zeroCells P e) λcs=>k (yW h.cell s.lam.length e cs.length) {s with lam:=s.lam++[.cells (cs.map .cv)]} μ| .box e x=>match h.cell with
  |false=>uR (dz P e) (ev x) λcs=>k (.loc s.lam.length 0) {s with lam:=s.lam++[.cells cs]} μ|true=>opt (cx (ev x)) λc=>bB (s7 (dz P e) c) (k (.cv (.view (rJ (oG (dz P e) c)))) s μ)
 | .build t parts=>Dw P t ev parts.toList λc=>k (.cv c) s μ| .buildSlice t len parts=>match P.underlying t with
  | some (.slice e) => opt (d4 P e) λsz => bB (nW P e) (opt (zeroCells P e) λ_ => QA (dz P e) sz ev 0 parts.toList λxs =>
   bB (Nat.beq xs.length len) (bB ((Nat.beq e 5 || gw xs) && Nat.ble (len * sz) 10000) (match h.arr with
   |false=>k (.osl xs) s μ
   |true=>k (.lsl s.lam.length 0 len) {s with lam:=s.lam++[.arr sz (xs.flatMap CV.cells)]} μ)))
  |_=>none
 | .load t a=>jA P h t (ev a) s μ k| .store t a v=>lC P h t (ev a) (ev v) s μ k| .nilCheck x=>opt (jk (ev x)) λb=>bB (!b) (k (vA (ev x)) s μ)| .binOp op t x y _=>um P op t x y (ev x) (ev y) λc=>k (.cv c) s μ| .unOp op _ x=>opt (unA op (ev x)) λc=>k (.cv c) s μ| .convert src dst x=>fy P h src dst (ev x) s μ k| .makeInterface t x=>match P.underlying t with
  |some (.interface _)=>none|some _=>opt (cx (ev x)) λc=>k (.cv (.iface t c)) s μ|none=>none
 | .makeFunc fn first captured=>match fn with
  | .func f=>match first.toList with
   |[]=>k (.lclo f (captured.toList.map λx=>strip1 (ev x))) s μ|_::_=>none
  |_=>none
 | .slice t x lo hi mx=>match mx with
  |none=>lA P t (ev x) lo hi ev λv=>k v s μ|some _=>none
 | .fieldAddr t x f=>iS P h t (ev x) f λv=>k v s μ| .field t x f=>opt (Jl P t (ev x) f) λv=>k v s μ| .indexAddr t x i=>opt (oD (ev i)) λi=>iU P h t (ev x) i λv=>k v s μ| .index t x i=>opt (oD (ev i)) λi=>oS P t (ev x) i λv=>k v s μ| .extract t i=>opt (b9 (ev t)) λxs=>opt (xs[i]?) λv=>k v s μ| .panic x=>match ev x with
  | .cv (.iface t c)=>p (.iface t c) s μ|_=>none
 | .typeAssert x _ t ok=>mH P (ev x) t ok λv=>k v s μ| .makeMap _ r=>match r with
  |some _=>none|none=>k (.mloc s.lam.length) {s with lam:=s.lam++[.map [] []]} μ
 | .makeSlice t l c=>match FT l c with
  |true=>D3 P t (ev l) s μ k|false=>none
 | .insert t m x y=>lL P t (ev m) (ev x) (ev y) s μ k| .mapUpdate t m x y=>lL P t (ev m) (ev x) (ev y) s μ k| .lookup t m x ok=>mT P t (ev m) (ev x) ok s μ λv=>k v s μ| .call c=>match c.callee with
  | .builtin b=>match b with
   | .len=>match c.args.toList,c.argTypes.toList with
    |[x],[t]=>opt (Qs P t (ev x)) λn=>k (.cv (.v (.int .i64 n))) s μ|_,_=>none
   | .append=>match c.args.toList,c.argTypes.toList with
    |[x,y],[t,xt]=>mF P h t (some xt) (ev x) (ev y) s μ k|_,_=>none
   | .copy=>match c.args.toList,c.argTypes.toList with
    |[x,y],[t,_]=>DD P t (ev x) (ev y) s μ k|_,_=>none
   | .max=>match c.args.toList with
    |[x,y]=>opt (bI .i64 (ev x)) λa=>opt (bI .i64 (ev y)) λb=>k (.cv (.v (.int .i64 (max a b)))) s μ|_=>none
   | .min=>match c.args.toList with
    |[x,y]=>opt (bI .i64 (ev x)) λa=>opt (bI .i64 (ev y)) λb=>k (.cv (.v (.int .i64 (min a b)))) s μ|_=>none
   |_=>none
  | .value f => bB (jL c.args.toList) (match ev f with
   | .cv (.clo f caps)=>gG P ρ h o.type f (c.args.toList.map ev++caps.map .cv) s μ k p| .lclo f caps=>gG P ρ h o.type f (c.args.toList.map ev++caps) s μ k p
   |_=>none)
  | .invoke _ _=>none
 |_=>none
inductive Pl where
 |own (i:Nat)|out (lev i:Nat)
def kA:Ob->Bool
 | .dead=>false|_=>true
def za (μ:Mu)(lev i:Nat):Bool:=match μ[lev]? with|some l=>Nat.blt i l.length|none=>false
def gI {β:Type}(t:Nat)(s:S)(μ:Mu)(k:Pl->Ob->S->Mu->Option β):Option β:=
 match s.fr t with
 | .loc i _=>match s.pushed with
  |true=>bB (kA (bQ s.lam i)) (k (.own i) (bQ s.lam i) {s with lam:=s.lam.set i .dead} μ)|false=>none
 | .cv c=>opt (oO (.cv c)) λq=>bB (kA (b7 μ q.1 q.2.1)) (k (.out q.1 q.2.1) (b7 μ q.1 q.2.1) s (cq μ q.1 q.2.1 .dead))|_=>none
def iY {β:Type}(p:Pl)(ob:Ob)(s:S)(μ:Mu)(k:S->Mu->Option β):Option β:=
 match p with
 | .own i=>bB (Nat.blt i s.lam.length&& !kA (bQ s.lam i)) (k {s with lam:=s.lam.set i ob} μ)| .out lev i=>bB (za μ lev i&& !kA (b7 μ lev i)) (k s (cq μ lev i ob))
def o6 (h:OpHint)(o:Oper)(s:S)(μ:Mu)(k:LV->S->Mu->Option α)(p:CV->S->Mu->Option α):Option α:=
 match h.hide with
 |none=>dY P ρ h o s μ k p|some t=>gI t s μ λpl ob s μ=>dY P ρ h o s μ (λv s μ=>iY pl ob s μ λs μ=>k v s μ) p
def opK (h:OpHint)(o:Oper)(s:S)(μ:Mu)(k:LV->S->Mu->Option α)(p:CV->S->Mu->Option α):Option α:=
 opt (uX h.freeze s) λs=>qc P h.fza s λs=>o6 P ρ h o s μ k p
def TA (r i:Nat):List ((Nat×Nat)×OpHint)->OpHint
 |[]=>{}|q::l=>match Nat.beq q.1.1 r&&Nat.beq q.1.2 i with|true=>q.2|false=>TA r i l
def Hints.op (H:Hints)(r i:Nat):OpHint:=TA r i H.ops
def rC (ops:Array Oper)(j:Nat):Option Nat:=match ops[j]? with|some o=>o.dst|none=>none
def gH:LV->Option (Option Bool)
 | .cv (.v (.bool b))=>some (some b)| .cv (.v (.tuple _))=>some none|_=>none
def gq (H:Hints)(r:Nat)(ops:Array Oper):List Nat->S->Mu->(S->Mu->Option α)->(CV->S->Mu->Option α)->Option α
 |[],s,μ,k,_=>k s μ|i::rest,s,μ,k,p=>match ops[i]? with
  |none=>none|some o=>match o.guard with
   |none=>opK P ρ (H.op r i) o s μ (λv s μ=>gq H r ops rest (s.put o.dst v) μ k p) p|some g=>opt (rC ops g.1) λd=>opt (gH (s.fr d)) λq=>match q with
    |none=>gq H r ops rest (s.put o.dst (.cv (.v Go.undef))) μ k p|some b=>cond b
     (match g.2 with
     |true=>opK P ρ (H.op r i) o (s.set d (.cv (.v (.bool true)))) μ (λv s μ=>gq H r ops rest (s.put o.dst v) μ k p) p
     |false=>gq H r ops rest ((s.set d (.cv (.v (.bool true)))).put o.dst (.cv (.v Go.undef))) μ k p)
     (match g.2 with
     |false=>opK P ρ (H.op r i) o (s.set d (.cv (.v (.bool false)))) μ (λv s μ=>gq H r ops rest (s.put o.dst v) μ k p) p
     |true=>gq H r ops rest ((s.set d (.cv (.v (.bool false)))).put o.dst (.cv (.v Go.undef))) μ k p)
inductive Kind where
 |plain|rd|tk|wr|ap|look|tku|ou|all
def cO (h:OpHint)(o:Oper):Kind:=
 match o.op with
 | .load _ _=>match h.outer with
  |true=>match h.cell with|true=> .tku|false=> .look
  |false=>match h.cell with|true=> .tk|false=> .rd
 | .store _ _ _=>match h.outer with|true=> .ou|false=> .wr
 | .alloc _=> .ap| .box _ _=>match h.cell with|true=> .plain|false=> .ap
 | .buildSlice _ _ _=>match h.arr with|true=> .ap|false=> .plain
 | .convert _ _ _=>match h.arr with|true=> .all|false=> .rd
 | .call c=>match c.callee with
  | .builtin b=>match b with| .copy=> .all|_=> .plain
  |_=>match h.push with|true=> .all|false=> .ou
 | .panic _=> .all| .typeAssert _ _ _ _=> .all| .makeMap _ _=> .all| .makeSlice _ _ _=> .all| .insert _ _ _ _=> .all| .mapUpdate _ _ _ _=> .all| .lookup _ _ _ _=> .all|_=> .plain
def gp:Kind->Kind->Bool
 | .all,_=>false|_,.all=>false| .plain,_=>true|_,.plain=>true| .rd,.rd=>true| .rd,.tk=>true| .tk,.rd=>true| .tk,.ou=>true| .ou,.tk=>true| .tk,.look=>true| .look,.tk=>true| .rd,.ap=>true| .rd,.ou=>true| .ou,.rd=>true| .wr,.ou=>true| .ou,.wr=>true| .ap,.ou=>true| .ou,.ap=>true| .look,.look=>true| .look,.tku=>true| .tku,.look=>true| .tku,.rd=>true| .rd,.tku=>true| .tku,.tk=>true| .tk,.tku=>true| .tku,.wr=>true| .wr,.tku=>true| .tku,.ap=>true| .ap,.tku=>true| .look,.rd=>true| .rd,.look=>true| .look,.wr=>true| .wr,.look=>true| .look,.ap=>true| .ap,.look=>true|_,_=>false
def ic (h:OpHint):Bool:=match h.freeze,h.fza with|[],[]=>true|_,_=>false
def eo (h:OpHint)(o:Oper):List Nat:=match o.dst with|some d=>d::h.take|none=>h.take
def nb:List Nat->List Nat->Bool
 |[],_=>true|a::r,l=>match iV l a with|true=>false|false=>nb r l
def re (o:Oper):List Nat:=match o.dst with|some d=>[d]|none=>[]
def fm (h:OpHint)(o:Oper):Kind:=match h.hide with|none=>cO h o|some _=> .all
def AO (h:OpHint)(o:Oper)(t:Nat):Bool:=
 match o.guard,o.op with
 |none,.load _ (.tmp u)=>Nat.beq u t&&h.cell&&match h.hide with|none=>true|some _=>false
 |_,_=>false
def oP (hx:OpHint)(x:Oper)(hy:OpHint)(y:Oper):Bool:=
 match hy.hide,y.guard,y.op with
 |some t,none,.call c=>match c.callee with
  | .value _=>AO hx x t&& !iV (eo hx x) t&& !iV (eo hy y) t|_=>false
 |_,_,_=>false
def tW (H:Hints)(r:Nat)(ops:Array Oper)(j i:Nat):Bool:=
 match ops[j]?,ops[i]? with
 |some x,some y=>nb (re x) (y.looksAt ops)&&nb (eo (H.op r j) x) (eo (H.op r i) y)&&nb (re y) (x.looksAt ops)&&
  (gp (fm (H.op r j) x) (fm (H.op r i) y)||oP (H.op r j) x (H.op r i) y)
 |_,_=>false
def lN (ops:Array Oper)(i:Nat):List Nat:=
 match ops[i]? with
 |some o=>(o.after.toList.filter (Region.binds .any)).map λe=>e.on|none=>[]
def Es (rows:List (List Nat)):List Nat->List Nat
 |[]=>[]|p::r=>p::(rows.getD p []++Es rows r)
def ft (ops:Array Oper):Nat->List (List Nat)
 |0=>[]|n+1=>ft ops n++[Es (ft ops n) (lN ops n)]
def Fg (f:Nat->Bool):Nat->Bool
 |0=>true|n+1=>match f n with|true=>Fg f n|false=>false
def ltB (i:Nat):List Nat->Bool
 |[]=>true|p::r=>match Nat.blt p i with|true=>ltB i r|false=>false
def lf (o:Oper):Bool:=match o.op with
 | .call c=>match c.callee with| .value _=>true|_=>false
 | .panic _=>true|_=>false
def vk:Kind->Bool
 | .plain=>true| .rd=>true|_=>false
def pK (o:Oper):Bool:=match o.op with
 | .call c=>match c.callee with| .value _=>true|_=>false
 |_=>false
def Ez (H:Hints)(r:Nat)(ops:Array Oper)(c:Nat):Bool:=
 match ops[c]? with
 |some y=>match y.guard with
  | none => pK y && Fg (λj => Nat.beq j c || match ops[j]? with
   |some x=> !lf x&&match Nat.blt j c with
    |true=>iV ((ft ops ops.size).getD c []) j||(vk (fm (H.op r j) x)||oP (H.op r j) x (H.op r c) y)|false=>iV ((ft ops ops.size).getD j []) c
   |none=>true) ops.size
  |some _=>false
 |none=>false
def AM (H:Hints)(r:Nat)(ops:Array Oper):Nat->Bool
 |0=>false|n+1=>match Ez H r ops n with|true=>true|false=>AM H r ops n
def uV (H:Hints)(r:Nat)(ops:Array Oper):Bool:=
 Fg (λi=>ltB i (lN ops i)&&ic (H.op r i)&&Fg (λj=>iV ((ft ops ops.size).getD i []) j||tW H r ops j i) i) ops.size
end
mutual
def aaK:LV->List Nat
 | .loc i _=>[i]| .lsl i _ _=>[i]| .mloc i=>[i]| .tloc i _ _=>[i]| .lclo _ caps=>vc caps| .ltup xs=>vc xs| .cv _=>[]| .osl _=>[]| .ost _=>[]| .stl _=>[]
def vc:List LV->List Nat
 |[]=>[]|x::r=>aaK x++vc r
end
def ud (l:Lam):Nat->List Nat->List Nat->List Nat
 |0,_,acc=>acc|_+1,[],acc=>acc|n+1,i::todo,acc=>match iV acc i with
  |true=>ud l n todo acc|false=>match bQ l i with
   | .cells cs=>ud l n (vc cs++todo) (acc++[i])|_=>ud l n todo (acc++[i])
def tT:List Nat->Nat->Nat->Option Nat
 |[],_,_=>none|a::r,n,i=>match Nat.beq a i with|true=>some n|false=>tT r (n+1) i
mutual
def iz (m:List Nat):LV->Option LV
 | .cv c=>some (.cv c)| .osl xs=>some (.osl xs)| .ost xs=>some (.ost xs)| .stl n=>some (.stl n)| .loc i off=>opt (tT m 0 i) λj=>some (.loc j off)| .lsl i off len=>opt (tT m 0 i) λj=>some (.lsl j off len)| .mloc i=>opt (tT m 0 i) λj=>some (.mloc j)| .tloc i t n=>opt (tT m 0 i) λj=>some (.tloc j t n)| .lclo f caps=>opt (ii m caps) λl=>some (.lclo f l)| .ltup xs=>opt (ii m xs) λl=>some (.ltup l)
def ii (m:List Nat):List LV->Option (List LV)
 |[]=>some []|x::r=>opt (iz m x) λy=>opt (ii m r) λl=>some (y::l)
end
def gQ (m:List Nat):List Ob->Option (List Ob)
 |[]=>some []| .dead::r=>opt (gQ m r) λl=>some (.dead::l)| .arr sz cs::r=>opt (gQ m r) λl=>some (.arr sz cs::l)| .map ks vs::r=>opt (gQ m r) λl=>some (.map ks vs::l)| .cells cs::r=>opt (ii m cs) λcs=>opt (gQ m r) λl=>some (.cells cs::l)
def m4:List Nat->List LV->List (Nat×LV)
 |t::ts,v::vs=>(t,v)::m4 ts vs|_,_=>[]
def HU (m:Nat)(v:LV):Option LV:=
 match m with
 |0=>some (strip v)|1=>opt (gv v) λxs=>some (.osl xs)|4=>opt (DK v) λxs=>some (.ost xs)|_=>opt (cR v) λxs=>some (.cv (.sl xs))
def u7 (fr:Fr):List (Nat×Nat)->Option (List LV)
 |[]=>some []|q::r=>opt (HU q.2 (fr q.1)) λv=>opt (u7 fr r) λl=>some (v::l)
def fU {α:Type}(live:List (Nat×Nat))(s:S)(k:S->Option α):Option α:=
 opt (u7 s.fr live) λvs=>
 match s.pushed with
 |true=>k {s with fr:=gJ (m4 (live.map Prod.fst) vs)}|false=>
  let m:=ud s.lam 1000 (vc vs) []
  opt (ii m vs) λvs=>opt (gQ m (m.map (bQ s.lam))) λl=>k {fr:=gJ (m4 (live.map Prod.fst) vs),lam:=l,pushed:=false}
def EM (L m:Nat):CV->Bool
 | .ref lev i _=>match Nat.blt lev L with|true=>true|false=>Nat.blt i m
 | .tref lev i _ _=>match Nat.blt lev L with|true=>true|false=>Nat.blt i m
 |c=>below L c
mutual
def mw (L m:Nat):LV->Bool
 | .cv c=>EM L m c| .osl xs=>dl L xs| .ost _=>true| .stl _=>true| .loc i _=>Nat.blt i m| .lsl i _ _=>Nat.blt i m| .mloc i=>Nat.blt i m| .tloc i _ _=>Nat.blt i m| .lclo _ caps=>nn L m caps| .ltup _=>false
def nn (L m:Nat):List LV->Bool
 |[]=>true|x::r=>match mw L m x with|true=>nn L m r|false=>false
end
def FX (L m:Nat):Ob->Bool
 | .cells cs=>nn L m cs| .arr _ cs=>dl L cs| .map _ vs=>dl L vs| .dead=>true
def tc (L m:Nat):List Ob->Bool
 |[]=>true|x::r=>match FX L m x with|true=>tc L m r|false=>false
def TF:List (Nat×Nat)->Option Nat
 |[]=>none|q::r=>match Nat.ble 1000000 q.1 with|true=>some (q.1-1000000)|false=>TF r
def jG (fr:Fr):List (Nat×Nat)->List (Nat×LV)
 |[]=>[]|q::r=>(q.1,fr q.1)::jG fr r
def EO:List (Nat×LV)->List LV
 |[]=>[]|q::r=>q.2::EO r
def nj {α:Type}(L:Nat)(live:List (Nat×Nat))(s:S)(k:S->Option α):Option α:=
 match TF live with
 |none=>k s|some m=>bB (s.pushed&&Nat.ble m s.lam.length&&nn L m (EO (jG s.fr live))&&tc L m (s.lam.take m)) (k {fr:=gJ (jG s.fr live),lam:=s.lam.take m,pushed:=true})
def Dz {α:Type}(m:Nat)(v:LV)(k:LV->Option α):Option α:=
 match m with
 |0=>k v|1=>opt (gv v) λxs=>k (.osl xs)|3=>opt (cx v) λc=>k (.cv c)|_=>opt (cR v) λxs=>k (.cv (.sl xs))
def jK {α:Type}:List Nat->List LV->(List LV->Option α)->Option α
 |[],cs,k=>k cs|m::ms,c::cs,k=>Dz m c λc=>jK ms cs λr=>k (c::r)|_::_,[],_=>none
def pS {α:Type}:List (Nat×List Nat)->S->(S->Option α)->Option α
 |[],s,k=>k s|q::r,s,k=>match Nat.beq q.1 1000000 with
  |true=>pS r {s with pushed:=true} k|false=>match bQ s.lam q.1 with
   | .cells cs=>jK q.2 cs λcs=>pS r {s with lam:=s.lam.set q.1 (.cells cs)} k|_=>none
def AF (r:Nat):List (Nat×List (Nat×List Nat))->List (Nat×List Nat)
 |[]=>[]|q::l=>match Nat.beq q.1 r with|true=>q.2|false=>AF r l
def dK:Code->Nat
 | .region id _ _=>id| .seq a b=>match dK a with|0=>dK b|n+1=>n+1
 | .cond _ a b=>match dK a with|0=>dK b|n+1=>n+1
 | .block _ c=>dK c| .loop c=>dK c|_=>0
def T6 (r:Nat):List (Nat×List (Nat×Nat)×List (Nat×Nat))->List (Nat×Nat)×List (Nat×Nat)
 |[]=>([],[])|q::l=>match Nat.beq q.1 r with|true=>q.2|false=>T6 r l
def P6 (r:Nat):List (Nat×List (Nat×Nat)×List (Nat×Nat))->Option (List (Nat×Nat)×List (Nat×Nat))
 |[]=>none|q::l=>match Nat.beq q.1 r with|true=>some q.2|false=>P6 r l
def Hints.lives (H:Hints)(r:Nat):List (Nat×Nat)×List (Nat×Nat):=T6 r H.live
def P7 (n:Nat)(kp:Option Nat)(d:Nat):Bool:=
 match Nat.blt d n with
 |true=>match kp with|some t=> !Nat.beq d t|none=>true
 |false=>false
def qL (n:Nat)(kp:Option Nat):List Oper->Bool
 |[]=>true|o::r=>match o.dst with
  |none=>qL n kp r|some d=>match P7 n kp d with|true=>qL n kp r|false=>false
def gt (n:Nat)(kp:Option Nat):Code->Bool
 | .region _ ops _=>qL n kp ops.toList| .seq a b=>match gt n kp a with|true=>gt n kp b|false=>false
 | .cond _ x y=>match gt n kp x with|true=>gt n kp y|false=>false
 | .block _ c=>gt n kp c| .loop c=>gt n kp c|_=>true
def dP (P:Program)(ρ:Rho)(H:Hints){α:Type}:Code->S->Mu->(St->Option α)->Option α
 | .skip,s,μ,k=>k (.norm s μ)| .region id ops draw,s,μ,k=>match draw with
  |false=>gq P ρ H id ops (List.range ops.size) s μ (λs μ=>k (.norm s μ)) λv s μ=>k (.panic v s μ)|true=>bB (uV H id ops) (gq P ρ H id ops (List.range ops.size) s μ (λs μ=>k (.norm s μ)) λv s μ=>bB (AM H id ops ops.size) (fU [] s λs=>k (.panic v s μ)))
 | .seq a b,s,μ,k=>dP P ρ H a s μ λst=>match st with
  | .norm s μ=>match P6 (dK b) H.cuts with
   |none=>dP P ρ H b s μ k|some lv=>pS (AF (dK b) H.objs) s λs=>fU lv.1 s λs=>nj μ.length lv.1 s λs=>opt (ρ.seg H lv.2 b s μ) k
  | .exit i s μ=>k (.exit i s μ)| .ret s μ=>k (.ret s μ)| .panic v s μ=>k (.panic v s μ)
 | .cond c x y,s,μ,k=>opt (ce (evA {} s.fr c)) λb=>cond b (dP P ρ H x s μ k) (dP P ρ H y s μ k)| .block id c,s,μ,k=>dP P ρ H c s μ λst=>match st with
  | .exit i s μ=>match Nat.beq i id with|true=>k (.norm s μ)|false=>k (.exit i s μ)
  | .norm s μ=>k (.norm s μ)| .ret s μ=>k (.ret s μ)| .panic v s μ=>k (.panic v s μ)
 | .loop c,s,μ,k=>pS (AF (dK c) H.objs) s λs=>fU (H.lives (dK c)).1 s λs=>nj μ.length (H.lives (dK c)).1 s λs=>opt (ρ.loop H (H.lives (dK c)).2 c s μ) k| .exit id,s,μ,k=>k (.exit id s μ)| .ret,s,μ,k=>k (.ret s μ)|_,_,_,_=>none
def qT (P:Program)(ρ:Rho)(H:Hints)(lv:List (Nat×Nat))(c:Code)(s:S)(μ:Mu):Option St:=
 dP P ρ H c s μ λst=>match st with
  | .norm s μ=>pS (AF (dK c) H.objs) s λs=>fU (H.lives (dK c)).1 s λs=>nj μ.length (H.lives (dK c)).1 s λs=>ρ.loop H lv c s μ| .exit i s μ=>fU lv s λs=>some (.exit i s μ)| .ret s μ=>fU H.res s λs=>some (.ret s μ)| .panic v s μ=>fU H.pan s λs=>some (.panic v s μ)
def zT (P:Program)(ρ:Rho)(H:Hints)(lv:List (Nat×Nat))(c:Code)(s:S)(μ:Mu):Option St:=
 dP P ρ H c s μ λst=>match st with
  | .norm s μ=>fU lv s λs=>some (.norm s μ)| .exit i s μ=>fU lv s λs=>some (.exit i s μ)| .ret s μ=>fU H.res s λs=>some (.ret s μ)| .panic v s μ=>fU H.pan s λs=>some (.panic v s μ)
def n6:Nat->List LV->List (Nat×LV)
 |_,[]=>[]|n,v::r=>(n,v)::n6 (n+1) r
def Ru (P:Program)(s:S):ResultVar->Option LV
 | .tmp t=>some (s.fr t)| .cell a t=>match s.fr a with
  | .loc i off=>cD P t (bQ s.lam i) off|_=>none
def AK (P:Program)(s:S):List ResultVar->Option (List LV)
 |[]=>some []|x::r=>opt (Ru P s x) λv=>opt (AK P s r) λl=>some (v::l)
def eB (vs:List LV):LV:=
 match vs with
 |[v]=>v|vs=> .ltup (vs.map strip1)
def kx (P:Program)(rs:List ResultVar)(s:S)(μ:Mu):Option Out:=
 opt (AK P s rs) λvs=>
 let v:=eB vs
 bB (mJ v) (match s.pushed with
  |false=>some (.ret v μ)
  |true=>bB (fj μ.length v) (some (.ret v μ)))
def HP (P:Program)(ρ:Rho)(H:Hints)(fn:Func)(c:Code)(args:List LV)(μ:Mu):Option Out:=
 bB (Nat.ble args.length fn.ntmps && gt fn.ntmps none c && !(fn.name == "runtime.NumGoroutine")) (
 dP P ρ H c {fr:=gJ (n6 0 args),lam:=[],pushed:=false} μ λst=>match st with
  | .norm s μ=>kx P fn.results.toList s μ| .ret s μ=>kx P fn.results.toList s μ| .panic v _ μ=>bB (below μ.length v) (some (.panic v μ))
  | .exit _ _ _=>none)
def oL {α:Type}(ρ:Rho)(t:Nat)(pv:Option CV)(s:S)(μ:Mu)(k:S->Mu->Option α):Option α:=
 match s.fr t with
 | .lclo f caps=>opt (ke μ.length caps) λargs=>opt (gK μ.length s.lam) λl=>
  opt (ρ.dcall f pv args (μ++[l])) λμ2=>opt (dq μ2) λq=>k {s with lam:=q.2,pushed:=true} q.1
 |_=>none
def Ft (P:Program)(ρ:Rho)(t:Nat)(rs:List ResultVar)(st:St):Option Out:=
 match st with
 | .norm s μ=>oL ρ t none s μ λs μ=>kx P rs s μ| .ret s μ=>oL ρ t none s μ λs μ=>kx P rs s μ| .panic v s μ=>oL ρ t (some v) s μ λs μ=>kx P rs s μ| .exit _ _ _=>none
def XX:LV->Bool
 | .lclo _ _=>true|_=>false
def Fy (t:Nat)(o:Oper):Bool:=
 match o.guard,o.dst,o.op with
 |none,none,.defer c=>match c.callee with
  | .value (.tmp u)=>match c.args.toList with|[]=>Nat.beq u t|_=>false
  |_=>false
 |_,_,_=>false
def uP (P:Program)(ρ:Rho)(H:Hints)(fn:Func)(c:Code)(t:Nat)(args:List LV)(μ:Mu):Option Out:=
 match c with
 | .seq a (.seq (.region id ops draw) b)=>match draw with
  |true=>none|false=>match ops[ops.size-1]? with
   |none=>none
   | some o => bB (Nat.ble args.length fn.ntmps && gt fn.ntmps none a && qL fn.ntmps none ops.toList && gt fn.ntmps (some t) b && !(fn.name == "runtime.NumGoroutine") && Fy t o) (
    dP P ρ H a {fr:=gJ (n6 0 args),lam:=[],pushed:=false} μ λst=>match st with
     | .norm s μ=>gq P ρ H id ops (List.range (ops.size-1)) s μ (λs μ=>bB (XX (s.fr t)) (dP P ρ H b s μ (Ft P ρ t fn.results.toList))) (λ_ _ _=>none)
     |_=>none)
 |_=>none
def zh (o:Oper):Bool:=
 match o.guard,o.op with
 |none,.call c=>match c.callee with| .builtin .recover=>true|_=>false
 |_,_=>false
def KX (pv:Option CV):LV:=match pv with|some v=> .cv v|none=> .cv (.v .nilIface)
def uU (P:Program)(ρ:Rho)(H:Hints)(fn:Func)(c:Code)(pv:Option CV)(args:List LV)(μ:Mu):Option Mu:=
 match c with
 | .seq (.region id ops draw) b=>match draw with
  |true=>none|false=>match ops[0]? with
   |none=>none
   | some o => bB (Nat.ble args.length fn.ntmps && qL fn.ntmps none ops.toList && gt fn.ntmps none b && !(fn.name == "runtime.NumGoroutine") && zh o && fn.results.isEmpty) (
    gq P ρ H id ops (List.range' 1 (ops.size-1)) (S.put {fr:=gJ (n6 0 args),lam:=[],pushed:=false} o.dst (KX pv)) μ
     (λs μ => dP P ρ H b s μ λst => match st with
      | .norm s μ=>some μ| .ret s μ=>some μ
      |_=>none) (λ_ _ _=>none))
 |_=>none
structure Env where
 P:Program
 hints:FuncId->Hints
 prim:FuncId->Option (List LV->Mu->Option Out)
def bN (E:Env)(ρ:Rho)(f:FuncId)(args:List LV)(μ:Mu):Option Out:=
 match E.prim f with
 |some g=>g args μ|none=>match E.P.funcs[f]? with
  |some fn=>match fn.body with
   |some c=>match(E.hints f).dfr with
    |none=>HP E.P ρ (E.hints f) fn c args μ|some t=>uP E.P ρ (E.hints f) fn c t args μ
   |none=>none
  |none=>none
def i6 (E:Env)(ρ:Rho)(f:FuncId)(pv:Option CV)(args:List LV)(μ:Mu):Option Mu:=
 match E.P.funcs[f]? with
 |some fn=>match fn.body with
  |some c=>uU E.P ρ (E.hints f) fn c pv args μ|none=>none
 |none=>none
def evn (E:Env):Nat->Rho
 |0=>{call:=λ_ _ _=>none,loop:=λ_ _ _ _ _=>none,seg:=λ_ _ _ _ _=>none,dcall:=λ_ _ _ _=>none}|n+1=>{call:=bN E (evn E n),loop:=λH lv c s μ=>qT E.P (evn E n) H lv c s μ,seg:=λH lv c s μ=>zT E.P (evn E n) H lv c s μ,dcall:=i6 E (evn E n)}
structure Gh where
 O:Nat->Nat
 β:Nat->Nat->Nat
 n:Nat->Nat
 sz:Nat->Nat->Nat
section
variable (G:Gh)(w:World)
mutual
def VR:CV->Value->Prop
 | .undef,_=>True| .v x,c=>c=x| .agg cs,c=> ∃vs:Array Value,c= .agg vs/\VRL cs vs.toList| .sl xs,c=> ∃A len cap,c= .slice A len cap/\len=xs.length/\len<=cap/\(len=0\/ ∃b off s,A=some ⟨b,off,none⟩/\(∀x∈xs,x.cells.length=s)/\EL b s off xs)| .view cs,c=> ∃b off,c= .pointer (some ⟨b,off,none⟩)/\CL b off cs| .ref lev i off,c=>i<G.n lev/\c= .pointer (some ⟨G.β lev i,off,none⟩)| .msl lev i off len,c=>i<G.n lev/\ ∃cap cur e fz,c= .slice (some ⟨G.β lev i,off,none⟩) len cap/\len<=cap/\w.heap[G.β lev i]? =some (.cells cur e fz)/\off+cap*G.sz lev i<=cur.size| .clo f caps,c=> ∃vs:Array Value,c= .func (.func f) #[] vs/\VRL caps vs.toList| .iface t x,c=> ∃v,c= .iface t v/\VR x v| .mview ks vs,c=> ∃r es clk,c= .map (some r)/\w.heap[r]? =some (.map es clk)/\0<G.O r/\es.toList.map MapEntry.key=ks/\VRL vs (es.toList.map MapEntry.val)| .mref lev i,c=>i<G.n lev/\c= .map (some (G.β lev i))| .tref lev i t n,c=>i<G.n lev/\c= .pointer (some ⟨G.β lev i,0,none⟩)/\ ∃cur fz,w.heap[G.β lev i]? =some (.cells cur t fz)/\cur.size=n
def VRL:List CV->List Value->Prop
 |[],vs=>vs=[]|c::cs,vs=> ∃v r,vs=v::r/\VR c v/\VRL cs r
def CL (b:Nat):Nat->List CV->Prop
 |_,[]=>True|off,c::r=>(∃v,w.cell? ⟨b,off,none⟩=some v/\off<G.O b/\VR c v)/\CL b (off+1) r
def EL (b s:Nat):Nat->List CV->Prop
 |_,[]=>True
 | off, x :: r => (match x with
  | .agg cs=>CL b off cs
  |c=> ∃v,w.cell? ⟨b,off,none⟩=some v/\off<G.O b/\VR c v)/\EL b s (off+s) r
end
end
def ox (G:Gh)(w:World)(xs:List CV)(v:Value):Prop:=
 (xs=[]/\v= .slice none 0 0)\/
 ∃b cap cur e s,v= .slice (some ⟨b,0,none⟩) xs.length cap/\w.heap[b]? =some (.cells cur e (0,0))/\xs.length<=cap/\cap<=maxLen/\
  cap*s<=cur.size/\(∀x∈xs,x.cells.length=s)/\(xs=[]->cap=0)/\EL G w b s 0 xs/\G.O b=xs.length*s/\((de xs).isSome=true->xs≠[]->e=5)
def GD {e:TypeId}{xs:List CV}(h:(Nat.beq e 5||gw xs)=true):(de xs).isSome=true->xs≠[]->e=5:=by
 intro hb hne;rw[jw]at h;rcases h with h|h
 ·simp_all
 ·exfalso;cases xs with
  |nil=>exact hne rfl|cons y r=>
   simp only[gw]at h;unfold noB at h;split at h
   ·cases h
   ·rename_i hy;unfold de at hb;simp_all
def xC: ∀(xs ys:List CV),(de (xs++ys)).isSome=true->(de xs).isSome=true
 |[],ys,_=>rfl|y::r,ys,h=>by
  rw[ew]at h;unfold de at h |-;split at h
  ·simp_all
  ·rename_i n r' heq;injection heq with h1 h2;subst h1 h2;simp only;split at h
   ·have:(de (r++ys)).isSome=true:=by
     cases hx:de (r++ys)with|none=>rw[hx]at h;simp[opt]at h|some l=>rfl
    have:=xC r ys this;cases hx:de r with|none=>rw[hx]at this;cases this|some l=>rfl
   ·cases h
  ·simp at h
def xD: ∀(xs ys:List CV),(de (xs++ys)).isSome=true->(de ys).isSome=true
 |[],ys,h=>h|y::r,ys,h=>by
  rw[ew]at h;unfold de at h;split at h
  ·simp_all
  ·rename_i n r' heq;injection heq with h1 h2;subst h2;split at h
   ·refine xD r ys ?_;cases hx:de (r++ys)with|none=>rw[hx]at h;simp[opt]at h|some l=>rfl
   ·cases h
  ·simp at h
def Ly {e:TypeId}{xs ys:List CV}(h:(Nat.beq e 5||gw ys)=true)(hne:ys≠[]):(de (xs++ys)).isSome=true->xs++ys≠[]->e=5:=
 λh1 _=>GD h (xD xs ys h1) hne
def uK (G:Gh)(w:World)(xs:List Value)(v:Value):Prop:=
 (xs=[]/\v= .slice none 0 0)\/
 ∃b cap cur e,v= .slice (some ⟨b,0,none⟩) xs.length cap/\w.heap[b]? =some (.cells cur e (0,0))/\xs.length<=cap/\cap<=maxLen/\cap<=cur.size/\G.O b=0/\ ∀(j:Nat) x,xs[j]? =some x->cur.getD j undef=x
mutual
def LVR (G:Gh)(w:World)(L nl:Nat):LV->Value->Prop
 | .cv c,v=>VR G w c v| .osl xs,v=>ox G w xs v| .ost xs,v=>uK G w xs v| .stl n,v=> ∃A cap,v= .slice A n cap| .loc i off,v=>i<nl/\v= .pointer (some ⟨G.β L i,off,none⟩)| .lsl i off len,v=>i<nl/\ ∃cap cur e fz,v= .slice (some ⟨G.β L i,off,none⟩) len cap/\len<=cap/\cap<=maxLen/\w.heap[G.β L i]? =some (.cells cur e fz)/\off+cap*G.sz L i<=cur.size| .lclo f caps,v=> ∃vs:Array Value,v= .func (.func f) #[] vs/\dV G w L nl caps vs.toList| .ltup xs,v=> ∃vs:Array Value,v= .tuple vs/\dV G w L nl xs vs.toList| .mloc i,v=>i<nl/\v= .map (some (G.β L i))| .tloc i t n,v=>i<nl/\v= .pointer (some ⟨G.β L i,0,none⟩)/\ ∃cur fz,w.heap[G.β L i]? =some (.cells cur t fz)/\cur.size=n
def dV (G:Gh)(w:World)(L nl:Nat):List LV->List Value->Prop
 |[],vs=>vs=[]|c::cs,vs=> ∃v r,vs=v::r/\tX c=false/\LVR G w L nl c v/\dV G w L nl cs r
end
def g9 (cur:Array Value)(fz:Nat×Nat):Prop:= ∀j,j<cur.size-> ¬(fz.1<=j/\j<fz.2)
def xW (G:Gh)(w:World)(ks:List Value)(vs:List CV)(es:Array MapEntry):Prop:=es.toList.map MapEntry.key=ks/\VRL G w vs (es.toList.map MapEntry.val)
def ObR (G:Gh)(w:World)(L nl:Nat)(b sz:Nat):Ob->Prop
 | .dead=>True| .cells cs=> ∃cur e fz,w.heap[b]? =some (.cells cur e fz)/\g9 cur fz/\G.O b=0/\cs.length<=cur.size/\ ∀j x,cs[j]? =some x->LVR G w L nl x (cur.getD j undef)| .arr k cs=>k=sz/\ ∃cur e fz,w.heap[b]? =some (.cells cur e fz)/\g9 cur fz/\G.O b=0/\cs.length<=cur.size/\ ∀j x,cs[j]? =some x->VR G w x (cur.getD j undef)| .map ks vs=> ∃es clk,w.heap[b]? =some (.map es clk)/\G.O b=0/\xW G w ks vs es
def bZ:LV->Value->Nat->Prop
 | .osl _,.slice (some a) _ _,b=>a.block=b| .ost _,.slice (some a) _ _,b=>a.block=b|_,_,_=>False
inductive Loc where
 |fr (t:Nat)|ob (lev i k:Nat)
def Gh.below (G:Gh)(lev:Nat):Gh:={G with n:=λl=>if l<=lev then G.n l else 0}
def bP (H:Mu)(lev i:Nat):Ob:=b7 H lev i
def bF (G:Gh)(w:World)(fr:Fr)(tm:Array Value)(H:Mu):Loc->Nat->Prop
 | .fr t,b=>bZ (fr t) (tm.getD t undef) b| .ob lev i k,b=>match bP H lev i with
  | .cells cs=>match cs[k]? with
   |some x=> ∃cur e fz,w.heap[G.β lev i]? =some (.cells cur e fz)/\bZ x (cur.getD k undef) b|none=>False
  |_=>False
def b6:Ob->Prop
 | .dead=>False|_=>True
def jz (G:Gh)(w:World)(fr:Fr)(tm:Array Value)(H:Mu)(b:Nat):Prop:=
 (∃l,bF G w fr tm H l b)\/ ∃lev i,b6 (bP H lev i)/\G.β lev i=b
structure Rel (G:Gh) (L:Nat) (s:S) (μ:Mu) (tm:Array Value) (w:World):Prop where
 lev:μ.length=L
 fr: ∀t,LVR G w L s.lam.length (s.fr t) (tm.getD t undef)
 lam: ∀i,ObR G w L s.lam.length (G.β L i) (G.sz L i) (bQ s.lam i)
 mu: ∀lev i,lev<L->ObR (G.below lev) w lev 0 (G.β lev i) (G.sz lev i) (b7 μ lev i)
 inj: ∀lev i lev' i',b6 (bP (μ++[s.lam]) lev i)->b6 (bP (μ++[s.lam]) lev' i')->G.β lev i=G.β lev' i'->lev=lev'/\i=i'
 own: ∀l l' b,bF G w s.fr tm (μ++[s.lam]) l b->bF G w s.fr tm (μ++[s.lam]) l' b->l=l'
 apart: ∀l b lev i,bF G w s.fr tm (μ++[s.lam]) l b->b6 (bP (μ++[s.lam]) lev i)->G.β lev i≠b
 nlt: ∀lev,lev<L->G.n lev=(μ.getD lev []).length
 nL:G.n L=if s.pushed then s.lam.length else 0
 ngt: ∀lev,L<lev->G.n lev=0
structure Le (G:Gh) (w:World) (G':Gh) (w':World):Prop where
 map: ∀(b:Nat) (es:Array MapEntry) (clk:Nat),0<G.O b->w.heap[b]? =some (.map es clk)->0<G'.O b/\w'.heap[b]? =some (.map es clk)
 ref: ∀lev i,i<G.n lev->i<G'.n lev/\G'.β lev i=G.β lev i/\G'.sz lev i=G.sz lev i
 imm: ∀(b off:Nat) (v:Value),off<G.O b->w.cell? ⟨b,off,none⟩=some v->off<G'.O b/\w'.cell? ⟨b,off,none⟩=some v
 blk: ∀(b:Nat) (cur:Array Value) (e:TypeId) (fz:Nat×Nat),w.heap[b]? =some (.cells cur e fz)-> ∃(cur':Array Value) (fz':Nat×Nat),w'.heap[b]? =some (.cells cur' e fz')/\cur'.size=cur.size
def Le.refl (G:Gh)(w:World):Le G w G w:=⟨λ_ _ _ h hb=>⟨h,hb⟩,λ_ _ h=>⟨h,rfl,rfl⟩,λ_ _ _ h hc=>⟨h,hc⟩,λb cur e fz h=>⟨cur,fz,h,rfl⟩⟩
def Le.trans {G G1 G2:Gh}{w w1 w2:World}(a:Le G w G1 w1)(b:Le G1 w1 G2 w2):Le G w G2 w2:=by
 refine⟨λbl es clk h hb=> ?_,λlev i h=> ?_,λbl off v h hc=> ?_,λbl cur e fz h=> ?_⟩
 ·obtain⟨h1,h2⟩:=a.map bl es clk h hb;exact b.map bl es clk h1 h2
 ·obtain⟨h1,h2,h3⟩:=a.ref lev i h;obtain⟨k1,k2,k3⟩:=b.ref lev i h1;omega
 ·obtain⟨h1,h2⟩:=a.imm bl off v h hc;exact b.imm bl off v h1 h2
 ·obtain⟨c1,f1,h1,e1⟩:=a.blk bl cur e fz h;obtain⟨c2,f2,h2,e2⟩:=b.blk bl c1 e f1 h1;simp_all
section
variable {G G':Gh}{w w':World}(h:Le G w G' w')
include h
mutual
def cZ: ∀(c:CV) (v:Value),VR G w c v->VR G' w' c v
 | .undef,v,_=>by simp[VR]| .v x,v,hv=>by simpa[VR]using hv| .agg cs,v,hv=>by simp only[VR]at hv |-;obtain⟨vs,e,hl⟩:=hv;exact⟨vs,e,k7 cs _ hl⟩
 | .sl xs,v,hv=>by simp only[VR]at hv |-;obtain⟨A,len,cap,e,h1,h2,h3⟩:=hv;refine⟨A,len,cap,e,h1,h2,h3.imp id ?_⟩;rintro⟨b,off,s,e1,hs,hl⟩;exact⟨b,off,s,e1,hs,g7 b s off xs hl⟩
 | .view cs,v,hv=>by simp only[VR]at hv |-;obtain⟨b,off,e,hl⟩:=hv;exact⟨b,off,e,ET b off cs hl⟩
 | .ref lev i off,v,hv=>by simp only[VR]at hv |-;obtain⟨h1,e⟩:=hv;obtain⟨a,b,_⟩:=h.ref lev i h1;simp_all
 | .msl lev i off len,v,hv=>by simp only[VR]at hv |-;obtain⟨h1,cap,cur,e,fz,hv,hc,hb,hs⟩:=hv;obtain⟨a,b,c⟩:=h.ref lev i h1;obtain⟨cur',fz',hb',hs'⟩:=h.blk _ _ _ _ hb;simp_all
 | .clo f caps,v,hv=>by simp only[VR]at hv |-;obtain⟨vs,e,hl⟩:=hv;exact⟨vs,e,k7 caps _ hl⟩
 | .iface t x,v,hv=>by simp only[VR]at hv |-;obtain⟨u,e,hl⟩:=hv;exact⟨u,e,cZ x u hl⟩
 | .mview ks vs,v,hv=>by simp only[VR]at hv |-;obtain⟨r,es,clk,e,h1,h2,h3,h4⟩:=hv;obtain⟨k1,k2⟩:=h.map r es clk h2 h1;exact⟨r,es,clk,e,k2,k1,h3,k7 vs _ h4⟩
 | .mref lev i,v,hv=>by simp only[VR]at hv |-;obtain⟨h1,e⟩:=hv;obtain⟨a,b,_⟩:=h.ref lev i h1;simp_all
 | .tref lev i t n,v,hv=>by simp only[VR]at hv |-;obtain⟨h1,e,cur,fz,h2,h3⟩:=hv;obtain⟨a,b,_⟩:=h.ref lev i h1;obtain⟨cur',fz',hb',hs'⟩:=h.blk _ _ _ _ h2;simp_all
def k7: ∀(cs:List CV) (vs:List Value),VRL G w cs vs->VRL G' w' cs vs
 |[],vs,hv=>by simpa[VRL]using hv|c::cs,vs,hv=>by simp only[VRL]at hv |-;obtain⟨v,r,e,h1,h2⟩:=hv;exact⟨v,r,e,cZ c v h1,k7 cs r h2⟩
def ET (b:Nat): ∀(off:Nat) (cs:List CV),CL G w b off cs->CL G' w' b off cs
 |_,[],_=>by simp[CL]|off,c::cs,hv=>by simp only[CL]at hv |-;obtain⟨⟨v,hc,ho,h1⟩,h2⟩:=hv;obtain⟨a,b⟩:=h.imm _ _ _ ho hc;exact⟨⟨v,b,a,cZ c v h1⟩,ET _ (off+1) cs h2⟩
def g7 (b s:Nat): ∀(off:Nat) (cs:List CV),EL G w b s off cs->EL G' w' b s off cs
 |_,[],_=>by simp[EL]|off,.agg cs::r,hv=>by simp only[EL]at hv |-;exact⟨ET b off cs hv.1,g7 b s (off+s) r hv.2⟩|off,.undef::r,hv=>by simp only[EL]at hv |-;obtain⟨⟨v,hc,ho,h1⟩,h2⟩:=hv;obtain⟨a,b⟩:=h.imm _ _ _ ho hc;exact⟨⟨v,b,a,by simp[VR]⟩,g7 _ s (off+s) r h2⟩
 |off,.v x::r,hv=>by simp only[EL]at hv |-;obtain⟨⟨v,hc,ho,h1⟩,h2⟩:=hv;obtain⟨a,b⟩:=h.imm _ _ _ ho hc;exact⟨⟨v,b,a,cZ (.v x) v h1⟩,g7 _ s (off+s) r h2⟩
 |off,.sl x::r,hv=>by simp only[EL]at hv |-;obtain⟨⟨v,hc,ho,h1⟩,h2⟩:=hv;obtain⟨a,b⟩:=h.imm _ _ _ ho hc;exact⟨⟨v,b,a,cZ (.sl x) v h1⟩,g7 _ s (off+s) r h2⟩
 |off,.view x::r,hv=>by simp only[EL]at hv |-;obtain⟨⟨v,hc,ho,h1⟩,h2⟩:=hv;obtain⟨a,b⟩:=h.imm _ _ _ ho hc;exact⟨⟨v,b,a,cZ (.view x) v h1⟩,g7 _ s (off+s) r h2⟩
 |off,.ref x y z::r,hv=>by simp only[EL]at hv |-;obtain⟨⟨v,hc,ho,h1⟩,h2⟩:=hv;obtain⟨a,b⟩:=h.imm _ _ _ ho hc;exact⟨⟨v,b,a,cZ (.ref x y z) v h1⟩,g7 _ s (off+s) r h2⟩
 |off,.msl x y z l::r,hv=>by simp only[EL]at hv |-;obtain⟨⟨v,hc,ho,h1⟩,h2⟩:=hv;obtain⟨a,b⟩:=h.imm _ _ _ ho hc;exact⟨⟨v,b,a,cZ (.msl x y z l) v h1⟩,g7 _ s (off+s) r h2⟩
 |off,.clo f x::r,hv=>by simp only[EL]at hv |-;obtain⟨⟨v,hc,ho,h1⟩,h2⟩:=hv;obtain⟨a,b⟩:=h.imm _ _ _ ho hc;exact⟨⟨v,b,a,cZ (.clo f x) v h1⟩,g7 _ s (off+s) r h2⟩
 |off,.iface t x::r,hv=>by simp only[EL]at hv |-;obtain⟨⟨v,hc,ho,h1⟩,h2⟩:=hv;obtain⟨a,b⟩:=h.imm _ _ _ ho hc;exact⟨⟨v,b,a,cZ (.iface t x) v h1⟩,g7 _ s (off+s) r h2⟩
 |off,.mview x y::r,hv=>by simp only[EL]at hv |-;obtain⟨⟨v,hc,ho,h1⟩,h2⟩:=hv;obtain⟨a,b⟩:=h.imm _ _ _ ho hc;exact⟨⟨v,b,a,cZ (.mview x y) v h1⟩,g7 _ s (off+s) r h2⟩
 |off,.mref x y::r,hv=>by simp only[EL]at hv |-;obtain⟨⟨v,hc,ho,h1⟩,h2⟩:=hv;obtain⟨a,b⟩:=h.imm _ _ _ ho hc;exact⟨⟨v,b,a,cZ (.mref x y) v h1⟩,g7 _ s (off+s) r h2⟩
 |off,.tref x y t n::r,hv=>by simp only[EL]at hv |-;obtain⟨⟨v,hc,ho,h1⟩,h2⟩:=hv;obtain⟨a,b⟩:=h.imm _ _ _ ho hc;exact⟨⟨v,b,a,cZ (.tref x y t n) v h1⟩,g7 _ s (off+s) r h2⟩
end
def qq {ks:List Value}{vs:List CV}{es:Array MapEntry}(hm:xW G w ks vs es):xW G' w' ks vs es:=⟨hm.1,k7 h vs _ hm.2⟩
end
def t8: ∀{l:List CV} {j:Nat} {y:CV},(rJ l)[j]? =some y-> ∃x,l[j]? =some x/\ ∀(G:Gh) (w:World) (c:Value),VR G w x c->VR G w y c
 |[],j,y,h=>by simp[rJ]at h|a::r,j,y,h=>by
  unfold rJ at h;split at h
  ·simp_all
  ·rename_i r' e;injection e with e1 e2;subst e1 e2;cases j with|zero=>simp only[eu,bJ]at h;subst h;refine⟨_,rfl,λG w c hc=> ?_⟩;simp only[VR]at hc |-;grind|succ j=>simpa using t8 (by simpa using h)
  ·rename_i c r' _ e;injection e with e1 e2;subst e1 e2;cases j with|zero=>exact⟨y,by simpa using h,λ_ _ _ hc=>hc⟩|succ j=>simpa using t8 (by simpa using h)
structure Ext (L:Nat) (T:Nat->Prop) (G:Gh) (w:World) (G':Gh) (w':World) (T':Nat->Prop):Prop where
 le:Le G w G' w'
 os:w'.os=w.os
 tape:w'.tape=w.tape
 output:w'.output=w.output
 size:w.heap.size<=w'.heap.size
 keep: ∀b,b<w.heap.size-> ¬T b->w'.heap[b]? =w.heap[b]? /\G'.O b=G.O b
 grow: ∀b,T' b->T b\/w.heap.size<=b
 lev: ∀l,l<L->(∀i,G'.β l i=G.β l i/\G'.sz l i=G.sz l i)/\G'.n l=G.n l
def Ext.refl {L:Nat}{T T':Nat->Prop}(G:Gh)(w:World)(h: ∀b,T' b->T b):Ext L T G w G w T':=
 ⟨Le.refl G w,rfl,rfl,rfl,cw _,λ_ _ _=>⟨rfl,rfl⟩,λb hb=> .inl (h b hb),λ_ _=>⟨λ_=>⟨rfl,rfl⟩,rfl⟩⟩
def Ext.trans {L:Nat}{T T1 T2:Nat->Prop}{G G1 G2:Gh}{w w1 w2:World}(a:Ext L T G w G1 w1 T1)(b:Ext L T1 G1 w1 G2 w2 T2):Ext L T G w G2 w2 T2:=by
 refine⟨a.le.trans b.le,b.os.trans a.os,b.tape.trans a.tape,b.output.trans a.output,j5 a.size b.size,λx hx hT=> ?_,λx hx=> ?_,λl hl=> ?_⟩
 ·obtain⟨h1,h2⟩:=a.keep x hx hT;have h3: ¬T1 x:=λh=>by
   rcases a.grow x h with h|h
   ·exact hT h
   ·omega
  obtain⟨h4,h5⟩:=b.keep x (tq hx a.size) h3;simp_all
 ·rcases b.grow x hx with h|h
  ·exact a.grow x h
  ·exact .inr (j5 a.size h)
 ·obtain⟨h1,h2⟩:=a.lev l hl;obtain⟨h3,h4⟩:=b.lev l hl;simp_all
def Ext.drew {L:Nat}{T T':Nat->Prop}{G G':Gh}{w w':World}(h:Ext L T G w G' w' T'):Ext L T G w G' w'.drew T':=
 ⟨⟨h.le.map,h.le.ref,h.le.imm,h.le.blk⟩,h.os,h.tape,h.output,h.size,h.keep,h.grow,h.lev⟩
def Ext.weaken {L:Nat}{T T1 T' T1':Nat->Prop}{G G':Gh}{w w':World}(h:Ext L T G w G' w' T')(h1: ∀b,T b->T1 b)(h2: ∀b,T1' b->T' b):Ext L T1 G w G' w' T1':=
 ⟨h.le,h.os,h.tape,h.output,h.size,λb hb hn=>h.keep b hb λht=>hn (h1 b ht),λb hb=>(h.grow b (h2 b hb)).imp (h1 b) id,h.lev⟩
section
variable {G G':Gh}{w w':World}{L nl nl':Nat}
def oy (h:Le G w G' w'){xs:List CV}{v:Value}(ho: ∀a n c,v= .slice (some a) n c->w'.heap[a.block]? =w.heap[a.block]? /\G'.O a.block=G.O a.block)(hv:ox G w xs v):ox G' w' xs v:=by
 rcases hv with hv|⟨b,cap,cur,e,s,rfl,hb,h1,h2,h3,h4,h5,h6,h7,h8⟩
 ·exact .inl hv
 ·obtain⟨k1,k2⟩:=ho _ _ _ rfl;exact .inr ⟨b,cap,cur,e,s,rfl,k1.trans hb,h1,h2,h3,h4,h5,g7 h b s 0 xs h6,k2.trans h7,h8⟩
def xX {xs:List Value}{v:Value}(ho: ∀a n c,v= .slice (some a) n c->w'.heap[a.block]? =w.heap[a.block]? /\G'.O a.block=G.O a.block)(hv:uK G w xs v):uK G' w' xs v:=by
 rcases hv with hv|⟨b,cap,cur,e,rfl,hb,h1,h2,h3,h4,h5⟩
 ·exact .inl hv
 ·obtain⟨k1,k2⟩:=ho _ _ _ rfl;exact .inr ⟨b,cap,cur,e,rfl,k1.trans hb,h1,h2,h3,k2.trans h4,h5⟩
def sw {x:LV}{v:Value}{b:Nat}(h:tX x=false): ¬bZ x v b:=by cases x<;>simp[bZ]at h |-
mutual
def fw (h:Le G w G' w')(hn:nl<=nl')(hβ: ∀i,i<nl->G'.β L i=G.β L i/\G'.sz L i=G.sz L i): ∀(x:LV) (v:Value),
 (∀b,bZ x v b->w'.heap[b]? =w.heap[b]? /\G'.O b=G.O b)->LVR G w L nl x v->LVR G' w' L nl' x v
 | .cv c,v,ho,hv=>by simp only[LVR]at hv |-; exact cZ h c v hv| .osl xs,v,ho,hv=>by simp only[LVR]at hv |-;exact oy h (λa n c e=>ho a.block (by subst e;simp[bZ])) hv| .ost xs,v,ho,hv=>by simp only[LVR]at hv |-;exact xX (λa n c e=>ho a.block (by subst e;simp[bZ])) hv| .stl n,v,ho,hv=>by simpa[LVR]using hv| .loc i off,v,ho,hv=>by simp only[LVR]at hv |-;grind| .lsl i off len,v,ho,hv=>by simp only[LVR]at hv |-;obtain⟨h0,cap,cur,e,fz,h1,h2,h2',h3,h4⟩:=hv;obtain⟨cur',fz',hb',hs'⟩:=h.blk _ _ _ _ h3;refine⟨bu,cap,cur',e,fz',by rw[(hβ i h0).1];exact h1,h2,h2',by rw[(hβ i h0).1];exact hb',by rw[hs',(hβ i h0).2];exact h4⟩
 | .lclo f caps,v,ho,hv=>by simp only[LVR]at hv |-;obtain⟨vs,e,hl⟩:=hv;exact⟨vs,e,xT h hn hβ caps _ hl⟩
 | .ltup xs,v,ho,hv=>by simp only[LVR]at hv |-;obtain⟨vs,e,hl⟩:=hv;exact⟨vs,e,xT h hn hβ xs _ hl⟩
 | .mloc i,v,ho,hv=>by simp only[LVR]at hv |-;grind| .tloc i t n,v,ho,hv=>by simp only[LVR]at hv |-;obtain⟨h0,e,cur,fz,h2,h3⟩:=hv;obtain⟨cur',fz',hb',hs'⟩:=h.blk _ _ _ _ h2;grind
def xT (h:Le G w G' w')(hn:nl<=nl')(hβ: ∀i,i<nl->G'.β L i=G.β L i/\G'.sz L i=G.sz L i): ∀(xs:List LV) (vs:List Value),
 dV G w L nl xs vs->dV G' w' L nl' xs vs
 |[],vs,hv=>by simpa[dV]using hv|x::xs,vs,hv=>by simp only[dV]at hv |-;obtain⟨v,r,e,h0,h1,h2⟩:=hv;exact⟨v,r,e,h0,fw h hn hβ x v (λb hb=>absurd hb (sw h0)) h1,xT h hn hβ xs r h2⟩
end
def ey (h:Le G w G' w')(hn:nl<=nl')(hβ: ∀i,i<nl->G'.β L i=G.β L i/\G'.sz L i=G.sz L i){b sz:Nat}{o:Ob}
 (hb:b6 o->w'.heap[b]? =w.heap[b]? /\G'.O b=G.O b)
 (ho: ∀cs j x cur e fz,o= .cells cs->cs[j]? =some x->w.heap[b]? =some (.cells cur e fz)-> ∀b',bZ x (cur.getD j undef) b'->w'.heap[b']? =w.heap[b']? /\G'.O b'=G.O b')
 (hv:ObR G w L nl b sz o):ObR G' w' L nl' b sz o:=by
 cases o with
 |dead=>simp[ObR]|cells cs=>simp only[ObR]at hv |-;obtain⟨cur,e,fz,h1,h2,h3,h4,h5⟩:=hv;obtain⟨k1,k2⟩:=hb trivial;exact⟨cur,e,fz,k1.trans h1,h2,k2.trans h3,h4,λj x hx=>fw h hn hβ x _ (λb' hb'=>ho cs j x cur e fz rfl hx h1 b' hb') (h5 j x hx)⟩
 |arr k cs=>simp only[ObR]at hv |-;obtain⟨hk,cur,e,fz,h1,h2,h3,h4,h5⟩:=hv;obtain⟨k1,k2⟩:=hb trivial;exact⟨hk,cur,e,fz,k1.trans h1,h2,k2.trans h3,h4,λj x hx=>cZ h x _ (h5 j x hx)⟩
 |map ks vs=>simp only[ObR]at hv |-;obtain⟨es,clk,h1,h2,h3⟩:=hv;obtain⟨k1,k2⟩:=hb trivial;exact⟨es,clk,k1.trans h1,k2.trans h2,qq h h3⟩
end
def Le.below {G G':Gh}{w w':World}(h:Le G w G' w')(lev:Nat):Le (G.below lev) w (G'.below lev) w':=by
 refine⟨h.map,λl i hi=> ?_,h.imm,h.blk⟩;simp only[Gh.below]at hi |-;split at hi
 ·rename_i hl;rw[bK hl];exact h.ref l i hi
 ·omega
def cS {μ:Mu}{l:Lam}{lev i:Nat}(h:lev<μ.length):b7 (μ++[l]) lev i=b7 μ lev i:=by simp[b7,fN h]
def cV {μ:Mu}{l:Lam}{i:Nat}:b7 (μ++[l]) μ.length i=bQ l i:=by simp[b7,bQ]
def mW {μ:Mu}{l:Lam}{lev i:Nat}(h:μ.length<lev):b7 (μ++[l]) lev i= .dead:=by simp only[b7];grind
def Rel.frame {G G':Gh}{w w':World}{L:Nat}{s:S}{μ:Mu}{tm:Array Value}(R:Rel G L s μ tm w)(hle:Le G w G' w')
 (hT: ∀b,jz G w s.fr tm (μ++[s.lam]) b->w'.heap[b]? =w.heap[b]? /\G'.O b=G.O b)
 (hβ: ∀lev i,lev<L\/(lev=L/\i<s.lam.length)->G'.β lev i=G.β lev i/\G'.sz lev i=G.sz lev i) (hn:G'.n=G.n):
 Rel G' L s μ tm w'/\(∀l b,bF G' w' s.fr tm (μ++[s.lam]) l b->bF G w s.fr tm (μ++[s.lam]) l b):=by
 have hlive: ∀lev i,b6 (bP (μ++[s.lam]) lev i)->lev<L\/(lev=L/\i<s.lam.length):=by
  intro lev i h;rcases q8 lev L with h1|h1|h1
  ·exact .inl h1
  ·subst h1;refine .inr ⟨rfl,?_⟩;rw[<-R.lev]at h;simp only[bP,cV,bQ]at h;by_cases hi:i<s.lam.length
   ·exact hi
   ·rw[fq bu]at h;exact h.elim
  ·rw[<-R.lev]at h1;simp only[bP,mW h1]at h;exact h.elim
 have hown: ∀l b,bF G' w' s.fr tm (μ++[s.lam]) l b->bF G w s.fr tm (μ++[s.lam]) l b:=by
  intro l b h;cases l with
  |fr t=>exact h|ob lev i k=>
   simp only[bF]at h |-;split at h
   ·rename_i cs hcs;have hl:b6 (bP (μ++[s.lam]) lev i):=by rw[hcs];trivial
    split at h
    ·rename_i x hx;obtain⟨cur,e,fz,hb,ho⟩:=h;rw[(hβ lev i (hlive lev i hl)).1,(hT _ (.inr ⟨lev,i,hl,rfl⟩)).1]at hb;simp_all
    ·exact h
   ·exact h
 refine⟨⟨R.lev,λt=> ?_,λi=> ?_,λlev i hl=> ?_,λlev i lev' i' h h' e=> ?_,λl l' b h h'=>R.own l l' b (hown l b h) (hown l' b h'),λl b lev i h h' e=> ?_,?_,?_,?_⟩,hown⟩
 ·exact fw hle (cw _) (λi hi=>hβ L i (.inr ⟨rfl,hi⟩)) _ _ (λb hb=>hT b (.inl ⟨.fr t,hb⟩)) (R.fr t)
 ·have hob:=R.lam i;have e1:bP (μ++[s.lam]) L i=bQ s.lam i:=by rw[<-R.lev];exact cV
  by_cases hi:i<s.lam.length
  ·rw[(hβ L i (.inr ⟨rfl,hi⟩)).1,(hβ L i (.inr ⟨rfl,hi⟩)).2];refine ey hle (cw _) (λi hi=>hβ L i (.inr ⟨rfl,hi⟩)) (λhl=>hT _ (.inr ⟨L,i,by rw[e1];exact hl,rfl⟩)) (λcs j x cur e fz ho hx hb b' hb'=>hT b' (.inl ⟨.ob L i j,?_⟩)) hob;simp only[bF,e1,ho,hx];simp_all
  ·have:bQ s.lam i= .dead:=by simp only[bQ];rw[fq bu]
   rw[this];trivial
 ·have e1:bP (μ++[s.lam]) lev i=b7 μ lev i:=cS (by rw[R.lev];exact hl);have hob:=R.mu lev i hl;rw[(hβ lev i (.inl hl)).1,(hβ lev i (.inl hl)).2];refine ey (hle.below lev) (cw _) (λi hi=>by omega) (λh=>hT _ (.inr ⟨lev,i,by rw[e1];exact h,rfl⟩)) (λcs j x cur e fz ho hx hb b' hb'=>hT b' (.inl ⟨.ob lev i j,?_⟩)) hob;simp only[bF,e1,ho,hx];simp_all
 ·rw[(hβ lev i (hlive lev i h)).1,(hβ lev' i' (hlive lev' i' h')).1]at e;exact R.inj lev i lev' i' h h' e
 ·rw[(hβ lev i (hlive lev i h')).1]at e;exact R.apart l b lev i (hown l b h) h' e
 ·rw[hn];exact R.nlt
 ·rw[hn];exact R.nL
 ·rw[hn];exact R.ngt
def jt (g:Fr)(t:Nat)(v:LV):upd g t v t=v:=by simp[upd,pn]
def iA (g:Fr){t u:Nat}(v:LV)(h:u≠t):upd g t v u=g u:=by
 have:Nat.beq u t=false:=by cases e:Nat.beq u t with
  |false=>rfl|true=>exact absurd (eC e) h
 simp[upd,this]
def xH (tm:Array Value){d:Nat}(v:Value)(h:d<tm.size):(tm.setIfInBounds d v).getD d undef=v:=by simp_all
def uY (tm:Array Value){d t:Nat}(v:Value)(h:t≠d):(tm.setIfInBounds d v).getD t undef=tm.getD t undef:=by simp only[d7];grind
def HH {G:Gh}{w:World}{b s:Nat}: ∀{off:Nat} {xs:List CV},EL G w b s off xs-> ∀j x,xs[j]? =some x->CL G w b (off+j*s) x.cells
 |off,[],_,j,x,hx=>by simp at hx|off,y::r,h,0,x,hx=>by simp only[eu,bJ]at hx;subst hx;cases y<;>simp only[EL]at h<;>simp only[CV.cells,A8,lH,CL,j6]<;>first|exact h.1|exact h.1
 |off,y::r,h,j+1,x,hx=>by
  have h2:EL G w b s (off+s) r:=by cases y<;>simp only[EL]at h<;>exact h.2
  have:=HH h2 j x (by simpa using hx);grind
def kZ {G:Gh}{w:World}{xs:List CV}{v:Value}(h:ox G w xs v):VR G w (.sl xs) v:=by
 simp only[VR];rcases h with⟨rfl,rfl⟩|⟨b,cap,cur,e,s,rfl,hb,h1,h2,h3,h4,h5,h6,h7⟩
 ·grind
 grind
def Bj {G:Gh}{w:World}{xs:List Value}{v:Value}(h:uK G w xs v): ∃A cap,v= .slice A xs.length cap:=by
 rcases h with⟨rfl,rfl⟩|⟨b,cap,cur,e,rfl,_⟩
 all_goals simp
def mA {G:Gh}{w:World}{L nl:Nat}{x:LV}{v:Value}(h:LVR G w L nl x v):LVR G w L nl (strip1 x) v/\tX (strip1 x)=false:=by
 cases x<;>simp only[strip1,LVR]at h |- <;>first
  |exact⟨h,bG⟩|exact⟨kZ h,bG⟩|exact⟨Bj h,bG⟩|exact⟨by simp[VR],bG⟩
def Bi {G:Gh}{w:World}{L nl:Nat}: ∀{xs:List LV} {vs:List Value},dV G w L nl xs vs->dV G w L nl (xs.map strip1) vs
 |[],vs,h=>by simpa[dV]using h|x::xs,vs,h=>by simp only[dV,dQ]at h |-;obtain⟨v,r,e,h0,h1,h2⟩:=h;exact⟨v,r,e,(mA h1).2,(mA h1).1,Bi h2⟩
def nS {G:Gh}{w:World}{L nl:Nat}{x:LV}{v:Value}(h:LVR G w L nl x v):LVR G w L nl (strip x) v:=by
 cases x<;>simp only[strip,LVR]at h |- <;>first
  |exact h|exact kZ h|exact Bj h|(obtain⟨vs,e,hl⟩:=h;exact⟨vs,e,Bi hl⟩)
def mB {x:LV}{v:Value}{b:Nat}: ¬bZ (strip x) v b:=by cases x<;>simp[strip,bZ]
def Rel.put {G:Gh}{w:World}{L:Nat}{s:S}{μ:Mu}{tm:Array Value}(R:Rel G L s μ tm w){d:Nat}{v:LV}{cv:Value}(hd:d<tm.size)
 (hv:LVR G w L s.lam.length v cv)
 (ho: ∀b,bZ v cv b->(∀l,bF G w s.fr tm (μ++[s.lam]) l b->l= .fr d)/\ ∀lev i,b6 (bP (μ++[s.lam]) lev i)->G.β lev i≠b):
 Rel G L (s.set d v) μ (tm.setIfInBounds d cv) w/\
 (∀b,jz G w (s.set d v).fr (tm.setIfInBounds d cv) (μ++[(s.set d v).lam]) b->jz G w s.fr tm (μ++[s.lam]) b\/bZ v cv b):=by
 have hcase: ∀l b,bF G w (s.set d v).fr (tm.setIfInBounds d cv) (μ++[(s.set d v).lam]) l b->(l= .fr d/\bZ v cv b)\/(l≠ .fr d/\bF G w s.fr tm (μ++[s.lam]) l b):=by
  intro l b h;cases l with
  |fr t=>
   by_cases ht:t=d
   ·subst ht;simp only[bF,S.set,jt,xH tm cv hd]at h;simp_all
   ·simp only[bF,S.set,iA _ _ ht,uY tm cv ht]at h;exact .inr ⟨by simpa using ht,h⟩
  |ob lev i k=>exact .inr ⟨bG,h⟩
 refine⟨⟨R.lev,λt=> ?_,R.lam,R.mu,R.inj,λl l' b h h'=> ?_,λl b lev i h h'=> ?_,R.nlt,R.nL,R.ngt⟩,λb hb=> ?_⟩
 ·by_cases ht:t=d
  ·subst ht;simp only[S.set,jt,xH tm cv hd];exact hv
  ·simp only[S.set,iA _ _ ht,uY tm cv ht];exact R.fr t
 ·rcases hcase l b h with⟨e,h1⟩|⟨e,h1⟩<;>rcases hcase l' b h' with⟨e',h1'⟩|⟨e',h1'⟩
  ·rw[e,e']
  ·grind
  ·grind
  ·exact R.own l l' b h1 h1'
 ·rcases hcase l b h with⟨e,h1⟩|⟨e,h1⟩
  ·exact(ho b h1).2 lev i h'
  ·exact R.apart l b lev i h1 h'
 ·rcases hb with⟨l,hl⟩|h
  ·rcases hcase l b hl with⟨e,h1⟩|⟨e,h1⟩
   ·exact .inr h1
   ·exact .inl (.inl ⟨l,h1⟩)
  ·exact .inl (.inr h)
def Rel.strip1 {G:Gh}{w:World}{L:Nat}{s:S}{μ:Mu}{tm:Array Value}(R:Rel G L s μ tm w)(t:Nat):
 Rel G L (s.set t (strip (s.fr t))) μ tm w/\
 (∀l b,bF G w (s.set t (strip (s.fr t))).fr tm (μ++[s.lam]) l b->l≠ .fr t/\bF G w s.fr tm (μ++[s.lam]) l b):=by
 have hcase: ∀l b,bF G w (s.set t (strip (s.fr t))).fr tm (μ++[s.lam]) l b->l≠ .fr t/\bF G w s.fr tm (μ++[s.lam]) l b:=by
  intro l b h;cases l with
  |fr u=>
   by_cases ht:u=t
   ·subst ht;simp only[bF,S.set,jt]at h;exact absurd h mB
   ·simp only[bF,S.set,iA _ _ ht]at h;exact⟨by simpa using ht,h⟩
  |ob lev i k=>exact⟨bG,h⟩
 refine⟨⟨R.lev,λu=> ?_,R.lam,R.mu,R.inj,λl l' b h h'=>R.own l l' b (hcase l b h).2 (hcase l' b h').2,λl b lev i h h'=>R.apart l b lev i (hcase l b h).2 h',R.nlt,R.nL,R.ngt⟩,hcase⟩;by_cases ht:u=t
 ·subst ht;simp only[S.set,jt];exact nS (R.fr u)
 ·simp only[S.set,iA _ _ ht];exact R.fr u
def ci: ∀(ts:List Nat) (s:S),(bw ts s).lam=s.lam/\(bw ts s).pushed=s.pushed
 |[],s=>⟨rfl,rfl⟩|t::r,s=>by simpa[bw,S.set]using ci r (s.set t (strip (s.fr t)))
def Rel.strips {G:Gh}{w:World}{L:Nat}{μ:Mu}{tm:Array Value}: ∀(ts:List Nat) {s:S},Rel G L s μ tm w->
 Rel G L (bw ts s) μ tm w/\
 (∀l b,bF G w (bw ts s).fr tm (μ++[s.lam]) l b->(∀t,t∈ts->l≠ .fr t)/\bF G w s.fr tm (μ++[s.lam]) l b)
 |[],s,R=>⟨R,λl b h=>⟨bG,h⟩⟩|t::r,s,R=>by obtain⟨R1,h1⟩:=R.strip1 t;obtain⟨R2,h2⟩:=Rel.strips r R1;refine⟨R2,λl b h=> ?_⟩;obtain⟨a1,a2⟩:=h2 l b h;obtain⟨b1,b2⟩:=h1 l b a2;simp_all
def bz {α β:Type}{x:Option α}{k:α->Option β}{r:β}:opt x k=some r↔ ∃a,x=some a/\k a=some r:=by cases x<;>simp[opt]
def bM {β:Type}{b:Bool}{k:Option β}{r:β}:bB b k=some r↔b=true/\k=some r:=by cases b<;>simp[bB]
def fR {l:List Nat}{t:Nat}:iV l t=true↔t∈l:=by
 induction l with
 |nil=>simp[iV]|cons a r ih=>
  simp only[iV,eE];cases h:Nat.beq a t with
  |true=>simp[eC h]|false=>
   have:t≠a:=λe=>by subst e;simp[pn]at h
   simp_all
section
variable {G:Gh}{w:World}{L:Nat}
abbrev bH (G:Gh)(w:World)(s:S)(μ:Mu)(tm:Array Value):Nat->Prop:=jz G w s.fr tm (μ++[s.lam])
def XQ (vs:List Value):VRL G w (vs.map .v) vs:=by
 induction vs with|nil=>simp[VRL]|cons v r ih=>simp only[dQ,VRL];exact⟨v,r,rfl,by simp[VR],ih⟩
def Z3 (nl:Nat)(vs:List Value):dV G w L nl (vs.map λc=> .cv (.v c)) vs:=by
 induction vs with|nil=>simp[dV]|cons v r ih=>simp only[dQ,dV];exact⟨v,r,rfl,bG,by simp[LVR,VR],ih⟩
def Sa (nl:Nat)(v:Value):LVR G w L nl (lg v) v:=by
 cases v<;>simp only[lg,LVR,VR]
 ·exact⟨_,rfl,XQ _⟩
 ·exact⟨_,rfl,Z3 _ _⟩
def Df {v u:Value}{b:Nat}: ¬bZ (lg v) u b:=by cases v<;>simp[lg,bZ]
def cI {s:S}{μ:Mu}{a:Act}(R:Rel G L s μ a.tmps w)(h:OpHint)(x:Operand):
 LVR G w L s.lam.length (evA h s.fr x) (a.eval x)/\ ∀b,bZ (evA h s.fr x) (a.eval x) b-> ∃t,t∈h.take/\bZ (s.fr t) (a.tmps.getD t undef) b:=by
 cases x with
 |tmp t=>
  simp only[evA,Act.eval];cases ht:iV h.take t with|true=>exact⟨R.fr t,λb hb=>⟨t,fR.1 ht,hb⟩⟩|false=>exact⟨nS (R.fr t),λb hb=>absurd hb mB⟩
 |const c=>exact⟨Sa _ c,λb hb=>absurd hb Df⟩|global g=>exact⟨by simp[evA,LVR,VR],λb hb=>by simp[evA,bZ]at hb⟩|func f=>exact⟨by simp only[evA,LVR,VR,Act.eval];exact⟨#[],rfl,by simp[VRL]⟩,λb hb=>by simp[evA,bZ]at hb⟩
def ex {G0:Gh}{w0:World}{T0:Nat->Prop}{s:S}{μ:Mu}{a:Act}{v:LV}{cv:Value}{dst:Option Tmp}(R:Rel G L s μ a.tmps w)
 (E:Ext L T0 G0 w0 G w (bH G w s μ a.tmps)) (hv:LVR G w L s.lam.length v cv)
 (ho: ∀b,bZ v cv b->(∀l,¬bF G w s.fr a.tmps (μ++[s.lam]) l b)/\(∀lev i,b6 (bP (μ++[s.lam]) lev i)->G.β lev i≠b)/\(T0 b\/w0.heap.size<=b))
 (hd: ∀d,dst=some d->d<a.tmps.size):
 Rel G L (s.put dst v) μ (a.put dst cv).tmps w/\Ext L T0 G0 w0 G w (bH G w (s.put dst v) μ (a.put dst cv).tmps):=by
 cases dst with
 |none=>exact⟨R,E⟩|some d=>
  obtain⟨R',h⟩:=R.put (hd d rfl) hv λb hb=>⟨λl hl=>absurd hl ((ho b hb).1 l),(ho b hb).2.1⟩;refine⟨R',⟨E.le,E.os,E.tape,E.output,E.size,E.keep,λb hb=> ?_,E.lev⟩⟩;rcases h b hb with h|h
  ·exact E.grow b h
  simp_all
def Vf {s:S}{μ:Mu}{a:Act}{v:LV}{cv:Value}{dst:Option Tmp}{ts:List Nat}(R:Rel G L s μ a.tmps w)
 (hv:LVR G w L s.lam.length v cv) (ho: ∀b,bZ v cv b-> ∃t,t∈ts/\bZ (s.fr t) (a.tmps.getD t undef) b)
 (hd: ∀d,dst=some d->d<a.tmps.size):
 Rel G L ((bw ts s).put dst v) μ (a.put dst cv).tmps w/\
 Ext L (bH G w s μ a.tmps) G w G w (bH G w ((bw ts s).put dst v) μ (a.put dst cv).tmps):=by
 obtain⟨R',h⟩:=Rel.strips ts R;have hl:=ci ts s;refine ex R' (Ext.refl G w λb hb=> ?_) (by rw[hl.1];exact hv) (λb hb=> ?_) hd
 ·rcases hb with⟨l,hb⟩|hb
  ·exact .inl ⟨l,(h l b (by rw[<-hl.1];exact hb)).2⟩
  ·exact .inr (by rw[<-hl.1];exact hb)
 ·obtain⟨t,ht,ho⟩:=ho b hb;refine⟨λl hl'=> ?_,λlev i hlv=> ?_,.inl (.inl ⟨.fr t,ho⟩)⟩
  ·obtain⟨h1,h2⟩:=h l b (by rw[<-hl.1];exact hl');exact h1 t ht (R.own l (.fr t) b h2 ho)
  ·exact R.apart (.fr t) b lev i ho (by rw[<-hl.1];exact hlv)
end
section
variable {G:Gh}{w:World}{L nl:Nat}
def me {k:IntKind}{x:LV}{n:Int}(h:bI k x=some n):x= .cv (.v (.int k n)):=by unfold bI at h;grind
def iT {x:LV}{b:Bool}(h:ce x=some b):x= .cv (.v (.bool b)):=by unfold ce at h;split at h<;>simp_all
def jM {x:LV}{l:List UInt8}(h:cf x=some l):x=LV.str l:=by unfold cf at h;split at h<;>simp_all;subst h;rfl
def qB {x:LV}{n:Int}(h:oD x=some n): ∃k,x= .cv (.v (.int k n)):=by unfold oD at h;split at h<;>simp_all
def n9 {x:LV}{cs:List CV}(h:fJ x=some cs):x= .cv (.agg cs):=by unfold fJ at h;split at h<;>simp_all
def GL {x:LV}{xs:List LV}(h:b9 x=some xs):x= .ltup xs:=by unfold b9 at h;split at h<;>simp_all
def wT {x:LV}{cs:List CV}(h:f8 x=some cs):x= .cv (.view cs):=by unfold f8 at h;split at h<;>simp_all
def tS {x:LV}{q:Nat×Nat×Nat}(h:oO x=some q):x= .cv (.ref q.1 q.2.1 q.2.2):=by unfold oO at h;split at h<;>simp_all;grind
def Tx {x:LV}{q:Nat×Nat×Nat×Nat}(h:Jp x=some q):x= .cv (.msl q.1 q.2.1 q.2.2.1 q.2.2.2):=by unfold Jp at h;split at h<;>simp_all;grind
def Sg:VR G w (.sl []) (.slice none 0 0):=by simp only[VR];exact⟨none,0,0,rfl,rfl,cw _,.inl rfl⟩
def i7 {x:LV}{xs:List CV}(h:cR x=some xs){v:Value}(hv:LVR G w L nl x v):VR G w (.sl xs) v:=by
 unfold cR at h;split at h<;>simp only[bJ,reduceCtorEq]at h<;>subst h
 ·simpa[LVR]using hv
 ·simp only[LVR,VR]at hv;subst hv;exact Sg
 ·exact kZ hv
def mM {x:LV}{xs:List CV}(h:gv x=some xs){v:Value}(hv:LVR G w L nl x v):ox G w xs v/\ ∀b,bZ (.osl xs) v b->bZ x v b:=by
 unfold gv at h;split at h<;>simp only[bJ,reduceCtorEq]at h<;>subst h
 ·exact⟨hv,λb hb=>hb⟩
 ·simp only[LVR,VR]at hv;subst hv;exact⟨.inl ⟨rfl,rfl⟩,λb hb=>by simp[bZ]at hb⟩
def DL {x:LV}{xs:List Value}(h:DK x=some xs){v:Value}(hv:LVR G w L nl x v):LVR G w L nl (.ost xs) v/\ ∀b,bZ (.ost xs) v b->bZ x v b:=by
 unfold DK at h;split at h<;>simp only[bJ,reduceCtorEq]at h<;>subst h
 ·simp_all
 ·simp only[LVR,VR]at hv;subst hv;exact⟨by simp only[LVR];exact .inl ⟨rfl,rfl⟩,λb hb=>by simp[bZ]at hb⟩
def Ht: ∀{cs:List CV} {vs:List Value},Aa cs=some vs->cs=vs.map .v/\ ∀v∈vs,v.oneCell'=true
 |[],vs,h=>by simp only[Aa,bJ]at h;subst h;exact⟨rfl,λv hv=>by simp at hv⟩|c::r,vs,h=>by
  unfold Aa at h;split at h<;>try(simp at h;done)
  ·simp_all
  ·rename_i x r' e;injection e with e1 e2;subst e1 e2;split at h<;>try(simp at h;done)
   rename_i hx;obtain⟨l,h1,h2⟩:=bz.1 h;simp only[bJ]at h2;subst h2;obtain⟨h3,h4⟩:=Ht h1;simp_all
def it {x:LV}{c:CV}(h:cx x=some c){v:Value}(hv:LVR G w L nl x v):VR G w c v:=by
 unfold cx at h;split at h<;>simp only[bJ,reduceCtorEq]at h<;>subst h
 ·simpa[LVR]using hv
 ·exact kZ hv
def Hw {α:Type}{l:List α}{q:α×List α}(h:bC l=some q):l=q.1::q.2:=by cases l<;>simp[bC]at h;subst h;rfl
def GO {α:Type}{l:List α}{u:Unit}(h:bS l=some u):l=[]:=by cases l<;>simp[bS]at h |-
def uq {β:Type}{d:TypeDesc}{x:LV}{k:CV->Option β}{r:β}(h:kf d x k=some r):
 ∃c,k c=some r/\ ∀(G:Gh) (w:World) (L nl:Nat) v,LVR G w L nl x v->VR G w c v:=by
 unfold kf at h;split at h<;>obtain⟨a,h1,h2⟩:=bz.1 h<;>refine⟨_,h2,λG w L nl v hv=> ?_⟩
 ·rw[me h1]at hv;simpa[LVR]using hv
 ·rw[iT h1]at hv;simpa[LVR]using hv
 ·rw[jM h1]at hv;simpa[LVR]using hv
 ·exact i7 h1 hv
 ·exact it h1 hv
def m7 (cs cs':List CV):Prop:=cs'.length=cs.length/\ ∀(j:Nat) (c c':CV),cs[j]? =some c->cs'[j]? =some c'-> ∀(G:Gh) (w:World) (v:Value),VR G w c v->VR G w c' v
def m7.cons {c c':CV}{r r':List CV}(h:m7 r r')(hc: ∀(G:Gh) (w:World) v,VR G w c v->VR G w c' v):m7 (c::r) (c'::r'):=by
 refine⟨by simp[h.1],λj x x' hx hx'=> ?_⟩;cases j with|zero=>simp only[eu,bJ]at hx hx';subst hx;subst hx';exact hc|succ j=>exact h.2 j x x' (by simpa using hx) (by simpa using hx')
def m7.tail {c c':CV}{r r':List CV}(h:m7 (c::r) (c'::r')):m7 r r'/\ ∀(G:Gh) (w:World) v,VR G w c v->VR G w c' v:=
 ⟨⟨by simpa using h.1,λj x x' hx hx'=>h.2 (j+1) x x' (by simpa using hx) (by simpa using hx')⟩,h.2 0 c c' rfl rfl⟩
def m7.VRL: ∀{cs cs':List CV},m7 cs cs'-> ∀{vs},VRL G w cs vs->VRL G w cs' vs
 |[],[],_,vs,h=>h|[],_::_,hf,_,_=>by simp[m7]at hf|_::_,[],hf,_,_=>by simp[m7]at hf|c::r,c'::r',hf,vs,h=>by simp only[Go.Abs.VRL]at h |-;obtain⟨v,s,e,h1,h2⟩:=h;exact⟨v,s,e,hf.tail.2 G w v h1,hf.tail.1.VRL h2⟩
def m7.CL {b:Nat}: ∀{off:Nat} {cs cs':List CV},m7 cs cs'->CL G w b off cs->CL G w b off cs'
 |_,[],[],_,h=>h|_,[],_::_,hf,_=>by simp[m7]at hf|_,_::_,[],hf,_=>by simp[m7]at hf|off,c::r,c'::r',hf,h=>by simp only[Go.Abs.CL]at h |-;obtain⟨⟨v,h1,h2,h3⟩,h4⟩:=h;exact⟨⟨v,h1,h2,hf.tail.2 G w v h3⟩,hf.tail.1.CL h4⟩
def oH {β:Type}: ∀{ds:List TypeDesc} {cs:List CV} {k:List CV->Option β} {r:β},f9 ds cs k=some r-> ∃cs',k cs'=some r/\m7 cs cs'
 |[],cs,k,r,h=>by simp only[f9]at h;obtain⟨u,h1,h2⟩:=bz.1 h;rw[GO h1];exact⟨[],h2,rfl,λj c c' hc=>by simp at hc⟩
 |d::ds,cs,k,r,h=>by simp only[f9]at h;obtain⟨q,h1,h2⟩:=bz.1 h;rw[Hw h1];obtain⟨c,h3,h4⟩:=uq h2;obtain⟨cs',h5,h6⟩:=oH h3;exact⟨c::cs',h5,h6.cons λG w v hv=>h4 G w 0 0 v (by simpa[LVR]using hv)⟩
def ta {β:Type}{P:Program}{t:TypeId}{x:LV}{k:CV->Option β}{r:β}(h:js P t x k=some r):
 ∃c,k c=some r/\ ∀(G:Gh) (w:World) (L nl:Nat) v,LVR G w L nl x v->VR G w c v:=by
 unfold js at h;split at h
 ·split at h
  ·obtain⟨cs,h1,h2⟩:=bz.1 h;refine⟨_,h2,λG w L nl v hv=> ?_⟩;rw[n9 h1]at hv;simpa only[LVR]using hv
  ·obtain⟨cs,h1,h2⟩:=bz.1 h;obtain⟨cs',h3,h4⟩:=oH h2;refine⟨_,h3,λG w L nl v hv=> ?_⟩;rw[n9 h1]at hv;simp only[LVR,VR]at hv |-;obtain⟨vs,e,hl⟩:=hv;exact⟨vs,e,h4.VRL hl⟩
 ·split at h
  ·exact uq h
  ·simp at h
def Ac {β:Type}{P:Program}{own:Bool}{t:TypeId}{x:LV}{k:LV->Option β}{r:β}(h:nk P own t x k=some r):
 ∃y,k y=some r/\ ∀(G:Gh) (w:World) (L nl:Nat) v,LVR G w L nl x v->LVR G w L nl y v/\(∀b,bZ y v b->bZ x v b)/\(own=false->tX y=false):=by
 unfold nk at h;split at h
 ·obtain⟨xs,h1,h2⟩:=bz.1 h;exact⟨_,h2,λG w L nl v hv=>⟨(mM h1 hv).1,(mM h1 hv).2,bG⟩⟩
 ·obtain⟨c,h1,h2⟩:=ta h;exact⟨_,h1,λG w L nl v hv=>⟨by simp only[LVR];exact h2 G w L nl v hv,λb hb=>by simp[bZ]at hb,bG⟩⟩
def vz {β:Type}{P:Program}: ∀{ts:List TypeId} {xs:List LV} {k:List LV->Option β} {r:β},im P ts xs k=some r->
 ∃ys,k ys=some r/\ ∀(G:Gh) (w:World) (L nl:Nat) vs,dV G w L nl xs vs->dV G w L nl ys vs
 |[],xs,k,r,h=>by simp only[im]at h;obtain⟨u,h1,h2⟩:=bz.1 h;rw[GO h1];grind
 |t::ts,xs,k,r,h=>by simp only[im]at h;obtain⟨q,h1,h2⟩:=bz.1 h;rw[Hw h1];obtain⟨y,h3,h4⟩:=Ac h2;obtain⟨ys,h5,h6⟩:=vz h3;refine⟨y::ys,h5,λG w L nl vs hv=> ?_⟩;simp only[dV]at hv |-;grind
def jr {β:Type}{P:Program}{own:Bool}{t:TypeId}{x:LV}{k:LV->Option β}{r:β}(h:eP P own t x k=some r):
 ∃y,k y=some r/\ ∀(G:Gh) (w:World) (L nl:Nat) v,LVR G w L nl x v->LVR G w L nl y v/\(∀b,bZ y v b->bZ x v b):=by
 unfold eP at h;split at h
 ·obtain⟨xs,h1,h2⟩:=bz.1 h;obtain⟨ys,h3,h4⟩:=vz h2;refine⟨_,h3,λG w L nl v hv=>⟨?_,λb hb=>by simp[bZ]at hb⟩⟩;rw[GL h1]at hv;simp only[LVR]at hv |-;grind
 ·obtain⟨y,h1,h2⟩:=Ac h;grind
def xP {β:Type}{P:Program}{b:Bool}{t:TypeId}{x:LV}{k:LV->Option β}{r:β}(h:oh P b t x k=some r):
 ∃y,k y=some r/\ ∀(G:Gh) (w:World) (L nl:Nat) v,LVR G w L nl x v->LVR G w L nl y v/\(∀b,bZ y v b->bZ x v b):=by
 cases b with|true=>exact jr h|false=>exact⟨x,h,λG w L nl v hv=>⟨hv,λ_ hb=>hb⟩⟩
def y1 {β:Type}{d:TypeDesc}{x:LV}{f:CV->Option β}:kf d x f=opt (kf d x some) f:=by unfold kf;cases d<;>(simp only[];first|(cases bI _ x<;>rfl)|(cases ce x<;>rfl)|(cases cf x<;>rfl)|(cases cR x<;>rfl)|(cases cx x<;>rfl))
def rA {β:Type}: ∀{ds:List TypeDesc} {cs:List CV} {f:List CV->Option β},f9 ds cs f=opt (f9 ds cs some) f
 |[],cs,f=>by unfold f9;cases bS cs<;>rfl|d::ds,cs,f=>by
  unfold f9;cases bC cs with
  |none=>rfl|some q=>
   simp only[opt];rw[y1,y1 (f:=λc=>f9 ds q.2 λr=>some (c::r))];cases kf d (.cv q.1) some with|none=>rfl|some c=>simp only[opt];rw[rA,rA (f:=λr=>some (c::r))];cases f9 ds q.2 some<;>rfl
def RI {β:Type}{P:Program}{t:TypeId}{x:LV}{f:CV->Option β}:js P t x f=opt (js P t x some) f:=by
 unfold js;cases dz P t with
 |false=>
  simp only[];cases P.underlying t with|none=>rfl|some d=>exact y1
 |true=>
  simp only[];cases DO P t with
  |true=>cases fJ x<;>rfl|false=>
   cases fJ x with|none=>rfl|some cs=>simp only[opt];rw[rA,rA (f:=λcs=>some (CV.agg cs))];cases f9 (DV P 8 t) cs some<;>rfl
def Nq {β:Type}{P:Program}{t:TypeId}{x:CV}{f g:CV->Option β}{r:β}(h:iL P t x f=some r)(hfg: ∀c,f c=some r->g c=some r):iL P t x g=some r:=by
 unfold iL at h |-;rw[RI]at h |-;cases hq:js P t (.cv x) some with|none=>rw[hq]at h;cases h|some c=>rw[hq]at h;exact hfg c h
def DM {α β:Type}{b:Bool}{x:Option α}{k:α->Option β}:opt (bB b x) k=bB b (opt x k):=by cases b<;>rfl
def kF {α β γ:Type}{x:Option α}{f:α->Option β}{k:β->Option γ}:opt (opt x f) k=opt x λa=>opt (f a) k:=by cases x<;>rfl
def oI {β:Type}{b:Bool}{x:LV}{k:List LV->Option β}:uR b x k=opt (sL b x) k:=by
 cases b
 ·simp only[uR,sL];cases zX x<;>rfl
 ·rfl
def sM {c:CV}(h:cY c=true):c.cells=[c]:=by cases c<;>first|rfl|(simp[cY]at h;done)
def zY {c:CV}(h:cY c=true):iH c=true:=by cases c<;>first|exact h|(simp[cY]at h;done)
def To {α:Type}{b:Bool}{n:Nat}{c:CV}{k:LV->Option α}{r:α}(h:oM b n c k=some r):bB (Nat.beq c.cells.length n) (k (.cv (.view c.cells)))=some r:=by
 cases b with
 |true=>exact h|false=>simp only[oM]at h;obtain⟨h1,h⟩:=bM.1 h;rw[sM h1];exact h
def oJ {b:Bool}{x:LV}{cs:List LV}(h:sL b x=some cs):x.cells=some cs:=by
 cases b with
 |true=>exact h|false=>
  simp only[sL]at h;split at h<;>simp only[bJ,reduceCtorEq]at h;rename_i hs;subst h;cases x with|cv c=>simp only[zX]at hs;simp only[LV.cells,zY hs,sM hs,dQ,iC]|ltup xs=>simp[zX]at hs|_=>rfl
def xo {b:Bool}{c:CV}(h:s7 b c=true):iH c=true/\oG b c=c.cells:=by
 cases b with|true=>exact⟨h,rfl⟩|false=>exact⟨zY h,(sM h).symm⟩
def CB {β:Type}{ag:Nat->Bool}{place:Nat->Option (Nat×Nat)}{ev:Operand->LV}: ∀(l:List (Nat×Operand)) (cs:List CV) (k:List CV->Option β),DH ag place ev cs l k=opt (p9 ag place ev cs l) k
 |[],cs,k=>rfl|q::r,cs,k=>by simp only[DH,p9,kF,DM,CB r]
def rZ {β:Type}{b:Bool}{sz:Nat}{ev:Operand->LV}: ∀(l:List (Nat×Operand)) (n:Nat) (k:List CV->Option β),QA b sz ev n l k=opt (rf b sz ev n l) k
 |[],n,k=>rfl|q::r,n,k=>by simp only[QA,rf,kF,DM,rZ r];rfl
def tQ {β:Type}{P:Program}{t:TypeId}{ev:Operand->LV}{l:List (Nat×Operand)}{k:CV->Option β}:Dw P t ev l k=opt (oF P t ev l) k:=by
 unfold Dw oF;simp only[kF];congr;funext z;split
 ·simp only[kF,CB];rfl
 ·simp only[kF,CB];rfl
 ·rfl
def Br {ag:Nat->Bool}{place:Nat->Option (Nat×Nat)}{ev ev':Operand->LV}: ∀{l:List (Nat×Operand)} {cs:List CV},(∀q∈l,ev' q.2=ev q.2)->p9 ag place ev' cs l=p9 ag place ev cs l
 |[],cs,_=>rfl|q::r,cs,h=>by simp only[p9];rw[h q bG];simp only[Br (l:=r) λx hx=>h x (gj _ hx)]
def w8 {b:Bool}{sz:Nat}{ev ev':Operand->LV}: ∀{l:List (Nat×Operand)} {n:Nat},(∀q∈l,ev' q.2=ev q.2)->rf b sz ev' n l=rf b sz ev n l
 |[],n,_=>rfl|q::r,n,h=>by simp only[rf];rw[h q bG];simp only[w8 (l:=r) λx hx=>h x (gj _ hx)]
def IK {P:Program}{t:TypeId}{ev ev':Operand->LV}{l:List (Nat×Operand)}(h: ∀q∈l,ev' q.2=ev q.2):oF P t ev' l=oF P t ev l:=by unfold oF;simp only[Br h]
def y5 {ag:Nat->Bool}{place:Nat->Option (Nat×Nat)}{ev:Operand->LV}: ∀{l:List (Nat×Operand)} {cs out:List CV},p9 ag place ev cs l=some out-> ∃ps,kG ev l=some ps/\oN place cs ps=some out
 |[],cs,out,h=>⟨[],rfl,h⟩|q::r,cs,out,h=>by
  simp only[p9]at h;obtain⟨p,h1,h⟩:=bz.1 h;obtain⟨c,h2,h⟩:=bz.1 h;obtain⟨h3,h⟩:=bM.1 h;obtain⟨h4,h⟩:=bM.1 h;obtain⟨e1,e2⟩:=xo h3;rw[e2]at h4 h;obtain⟨ps,h5,h6⟩:=y5 h;refine⟨(q.1,c)::ps,?_,?_⟩
  ·simp only[kG];exact bz.2 ⟨c,h2,bM.2 ⟨e1,bz.2 ⟨ps,h5,rfl⟩⟩⟩
  ·simp only[oN,h1];grind
def JD {b:Bool}{sz:Nat}{ev:Operand->LV}: ∀{l:List (Nat×Operand)} {n:Nat} {xs:List CV},rf b sz ev n l=some xs-> ∃ps,kG ev l=some ps/\zm sz n ps=some xs
 |[],n,xs,h=>⟨[],rfl,h⟩|q::r,n,xs,h=>by
  simp only[rf]at h;obtain⟨c,h2,h⟩:=bz.1 h;obtain⟨h3,h⟩:=bM.1 h;obtain⟨h4,h⟩:=bM.1 h;obtain⟨l,h5,h⟩:=bz.1 h;obtain⟨e1,e2⟩:=xo h3;rw[e2]at h4;obtain⟨ps,h6,h7⟩:=JD h5;refine⟨(q.1,c)::ps,?_,?_⟩
  ·simp only[kG];exact bz.2 ⟨c,h2,bM.2 ⟨e1,bz.2 ⟨ps,h6,rfl⟩⟩⟩
  ·simp only[zm];simp_all
def PU {P:Program}{t:TypeId}{ev:Operand->LV}{l:List (Nat×Operand)}{c:CV}(h:oF P t ev l=some c): ∃ps,kG ev l=some ps/\Dv P t ps=some c:=by
 unfold oF at h;obtain⟨z,h1,h⟩:=bz.1 h;split at h
 ·rename_i fs hu;obtain⟨pl,h2,h⟩:=bz.1 h;obtain⟨cs,h3,h⟩:=bz.1 h;obtain⟨ps,h4,h5⟩:=y5 h3;refine⟨ps,h4,?_⟩;unfold Dv;refine bz.2 ⟨z,h1,?_⟩;rw[hu];exact bz.2 ⟨pl,h2,bz.2 ⟨cs,h5,h⟩⟩
 ·rename_i e n hu;obtain⟨sz,h2,h⟩:=bz.1 h;obtain⟨cs,h3,h⟩:=bz.1 h;obtain⟨ps,h4,h5⟩:=y5 h3;refine⟨ps,h4,?_⟩;unfold Dv;refine bz.2 ⟨z,h1,?_⟩;rw[hu];exact bz.2 ⟨sz,h2,bz.2 ⟨cs,h5,h⟩⟩
 ·cases h
def qg {α:Type}{P:Program}{t:TypeId}{o:Ob}{off:Nat}{v:LV}{k:Ob->Option α}:pR P t o off v k=opt (du P t o off v) k:=by
 cases o with
 |arr sz cs=>
  simp only[pR,du];cases cx v with
  |none=>rfl|some c=>
   simp only[opt];cases d4 P t with|none=>rfl|some n=>simp only[];cases (ga n c&&Nat.ble (off+n) cs.length)<;>rfl
 |cells cs=>
  simp only[pR,du,oI];cases sL (dz P t) v with
  |none=>rfl|some vs=>
   simp only[opt];cases d4 P t with|none=>rfl|some n=>simp only[];cases (Nat.beq vs.length n&&Nat.ble (off+n) cs.length)<;>rfl
 |dead=>rfl|map ks vs=>rfl
end
section
variable {G:Gh}{w:World}{L nl:Nat}{P:Program}
def Wo {op:BinOp}{t:TypeId}{k k':IntKind}{a b:Int}{c:CV}(h:sQ op k a k' b=some c):
 ∃v,(binOp op t (.int k a) (.int k' b)).run P w= .ok v w/\c= .v v:=by
 by_cases hs:op= .shl\/op= .shr
 ·rcases hs with rfl|rfl<;>unfold sQ at h<;>simp only[]at h<;>
   (cases hb : decide (b < 0) <;> simp only [hb, bJ, reduceCtorEq] at h
    have hb': ¬b<0:=by simpa using hb
    exact⟨_,by simp only[binOp,Op.shift,bE hb'];rfl,h.symm⟩)
 ·have hk:decide (k=k')=true:=by
   cases hk:decide (k=k')with|true=>rfl|false=>exfalso;unfold sQ at h;cases op<;>simp_all
  simp only[dn]at hk;subst hk;unfold sQ at h;cases op<;>simp only[g0]at h
  case quo=>
   cases hb:decide (b=0)<;>simp only[hb,bJ,reduceCtorEq]at h;have hb': ¬b=0:=by simpa using hb
   exact⟨_,by simp only[binOp,ne_eq,vG,dG,Op.intDiv,bE hb'];rfl,h.symm⟩
  case rem=>
   cases hb:decide (b=0)<;>simp only[hb,bJ,reduceCtorEq]at h;have hb': ¬b=0:=by simpa using hb
   exact⟨_,by simp only[binOp,ne_eq,vG,dG,Op.intDiv,bE hb'];rfl,h.symm⟩
  case shl=>exact absurd (.inl rfl) hs
  case shr=>exact absurd (.inr rfl) hs
  all_goals
   simp only[bJ]at h;exact⟨_,by simp only[binOp,ne_eq,vG,dG];rfl,h.symm⟩
def xN (a b:ByteArray):(a.toList == b.toList)=decide (a.data.toList=b.data.toList):=by rw[Gf,Gf];grind
theorem Hl (a:ByteArray):a.size=a.data.toList.length:=rfl
theorem Ub (a b:ByteArray):a++b=⟨⟨a.data.toList++b.data.toList⟩⟩:=by rfl
def Xw {op:BinOp}{t:TypeId}{a b:ByteArray}{c:CV}(h:K8 op a.data.toList b.data.toList=some c):
 ∃v,(binOp op t (.string a) (.string b)).run P w= .ok v w/\c= .v v:=by
 unfold K8 at h;have hb:binOp op t (.string a) (.string b)=Op.stringOp op a b:=by cases op<;>rfl
 rw[hb];cases op<;>simp only[bJ,reduceCtorEq]at h
 ·cases hs:small (a.data.toList.length+b.data.toList.length)<;>simp only[hs,bJ,reduceCtorEq]at h;simp only[small,dn]at hs;refine⟨_,?_,h.symm⟩;have: ¬((a.size+b.size:Nat):Int)>IntKind.i64.max:=by rw[Hl,Hl];simp only[IntKind.max,IntKind.bits,IntKind.signed];omega
  simp only[Op.stringOp,bE this,eW,Ub]
 all_goals
  refine⟨_,rfl,?_⟩;rw[<-h];simp only[CV.bool]
  (try rw[xN])
  (try simp only[Gf])
def PY {d:TypeDesc}{c c':CV}{b:Bool}(h:IR c c'=some b): ∃v v',c= .v v/\c'= .v v'/\
 ((∃k m n,v= .int k m/\v'= .int k n/\b=decide (m=n))\/(∃m n,v= .bool m/\v'= .bool n/\b=(m == n))\/(∃m n,v= .string m/\v'= .string n/\b=decide (m.data.toList=n.data.toList))):=by
 unfold IR at h;grind
def fY: ∀{cs:List CV} {vs:List Value},VRL G w cs vs->cs.length=vs.length/\ ∀(j:Nat) c,cs[j]? =some c-> ∃v,vs[j]? =some v/\VR G w c v
 |[],vs,h=>by simp only[VRL]at h;subst h;exact⟨rfl,λj c hc=>by simp at hc⟩|c::cs,vs,h=>by simp only[VRL]at h;obtain⟨v,r,rfl,h1,h2⟩:=h;obtain⟨e,hg⟩:=fY h2;grind
def vV: ∀{cs:List LV} {vs:List Value},dV G w L nl cs vs->cs.length=vs.length/\ ∀(j:Nat) c,cs[j]? =some c-> ∃v,vs[j]? =some v/\LVR G w L nl c v/\tX c=false
 |[],vs,h=>by simp only[dV]at h;subst h;exact⟨rfl,λj c hc=>by simp at hc⟩|c::cs,vs,h=>by simp only[dV]at h;obtain⟨v,r,rfl,h0,h1,h2⟩:=h;obtain⟨e,hg⟩:=vV h2;grind
def ZT {op:UnOp}{x:LV}{v:Value}{c:CV}(h:unA op x=some c)(hv:LVR G w L nl x v):
 ∃u,(Op.unary op v).run P w= .ok u w/\c= .v u:=by
 unfold unA at h;split at h
 ·simp only[LVR,VR]at hv;subst hv;cases op<;>simp only[bJ,reduceCtorEq]at h;exact⟨_,rfl,h.symm⟩
 ·simp only[LVR,VR]at hv;subst hv;cases op<;>simp only[bJ,reduceCtorEq]at h
  ·exact⟨_,by simp[Op.unary,Op.intArith],h.symm⟩
  ·exact⟨_,by simp[Op.unary,Op.intBits],h.symm⟩
 ·simp at h
def UP {t:Bool}{x y:LV}{u v:Value}(hx:LVR G w L nl x u)(hy:LVR G w L nl y v):
 LVR G w L nl (En t x y) (if t=true then u else v)/\ ∀b,bZ (En t x y) (if t=true then u else v) b->bZ x u b\/bZ y v b:=by
 unfold En;grind
end
section
variable {G:Gh}{w:World}{L nl:Nat}{P:Program}
def Nf {t:TypeId}{d:TypeDesc}(h:P.underlying t=some d)(hs: ∀fs,d≠ .struct fs)(ha: ∀n e,d≠ .array n e){cs:Array Value}{off:Nat}{v:Value}(hv:cs[off]? =some v):
 (part t cs off).run P w= .ok v w:=by
 simp only[part,isAgg,dc,c8 h,df];simp_all
def y3 {xs ys:Array Value}{d:Nat}: ∀(fs:List Field) (k:Nat) (ms ns:List CV) (r:Bool),
 (fs.zipIdx k).all (λq=>q.1.offset == q.2&&q.1.name != "_" &&(match P.underlying q.1.type with|some (.int _)=>true|some .bool=>true|some .string=>true|_=>false))=true->
 mQ (fs.map λf=>(P.underlying f.type).getD .invalid) ms=true->mQ (fs.map λf=>(P.underlying f.type).getD .invalid) ns=true->
 (∀j u,ms[j]? =some (.v u)->xs[k+j]? =some u)->(∀j u,ns[j]? =some (.v u)->ys[k+j]? =some u)->uQ ms ns=some r->
 (Op.eqFields (d+1) xs ys fs).run P w= .ok r w
 |[],k,ms,ns,r,h1,h2,h3,h4,h5,h6=>by cases ms<;>cases ns<;>simp[mQ,uQ]at h2 h3 h6;subst h6;rfl|f::fs,k,ms,ns,r,h1,h2,h3,h4,h5,h6=>by
  cases ms with
  |nil=>simp[mQ]at h2|cons m ms=>
   cases ns with
   |nil=>simp[mQ]at h3|cons n ns=>
    simp only[dQ,mQ,cM]at h2 h3;simp only[List.zipIdx_cons,A5,cM,beq_iff_eq,bne_iff_ne]at h1;obtain⟨⟨⟨ho,hn⟩,hk⟩,hr⟩:=h1;simp only[uQ]at h6;obtain⟨b,hb,h6⟩:=bz.1 h6;obtain⟨b2,hb2,h6⟩:=bz.1 h6;simp only[bJ]at h6;have ih:=y3 (d:=d) (xs:=xs) (ys:=ys) fs (k+1) ms ns b2 (by simpa[cM]using hr) h2.2 h3.2 (λj u hu=>by have:=h4 (j+1) u (by simpa using hu);rw[<-this];congr 1;omega)
     (λj u hu=>by have:=h5 (j+1) u (by simpa using hu);rw[<-this];congr 1;omega) hb2
    obtain⟨u,v,rfl,rfl,hc⟩:=PY (d:= .bool) hb;have hx:=h4 0 u rfl;have hy:=h5 0 v rfl;simp only[lH]at hx hy;have hrun:(Op.equalIn (d+1) f.type u v).run P w= .ok b w:=by
     rcases hc with⟨kk,m,n,rfl,rfl,rfl⟩|⟨m,n,rfl,rfl,rfl⟩|⟨m,n,rfl,rfl,rfl⟩
     ·have: ∃k',P.underlying f.type=some (.int k'):=by have h2':=h2.1;split at hk<;>rename_i hu<;>simp only[hu,gB,DU]at h2'<;>first|exact⟨_,hu⟩|simp at h2'|simp at hk
      obtain⟨k',hu⟩:=this;rw[run_equalIn_int w d f.type kk k' m n hu];rfl
     ·have:P.underlying f.type=some .bool:=by have h2':=h2.1;split at hk<;>rename_i hu<;>simp only[hu,gB,DU]at h2'<;>first|exact hu|simp at h2'|simp at hk
      rw[run_equalIn_bool' w d f.type m n this]
     ·have:P.underlying f.type=some .string:=by have h2':=h2.1;split at hk<;>rename_i hu<;>simp only[hu,gB,DU]at h2'<;>first|exact hu|simp at h2'|simp at hk
      rw[run_equalIn_string w d f.type m n this,xN]
    have hp: ∀{cs:Array Value} {v:Value},cs[k]? =some v->(part f.type cs f.offset).run P w= .ok v w:=by intro cs v hv;rw[ho];split at hk<;>rename_i hu<;>first|exact Nf hu bG bG hv|simp at hk
    simp only[Op.eqFields,hn,ne_eq,not_false_eq_true,cX,dc,hp hx,hp hy,df,hrun];cases b
    all_goals simp_all
def xA {x:CV}{xs:List CV}{u:Value}(h:VR G w (.sl (x::xs)) u): ∃A n c,u= .slice (some A) (n+1) c:=by simp only[VR]at h;grind
def Al (P:Program)(w:World)(t:TypeId)(u cn:Value)(r:Bool):Prop:=
 (∀op o,(eqGuard op t o (.const cn) u cn).run P w= .ok () w/\(eqGuard op t (.const cn) o cn u).run P w= .ok () w)/\
 (binOp .eql t u cn).run P w= .ok (.bool r) w/\(binOp .neq t u cn).run P w= .ok (.bool (!r)) w/\(binOp .eql t cn u).run P w= .ok (.bool r) w/\(binOp .neq t cn u).run P w= .ok (.bool (!r)) w
def Ji {t e:TypeId}(hd:P.underlying t=some (.pointer e))(d:Nat)(A:Option Addr):
 (Op.equalIn (d+1) t (.pointer A) (.pointer none)).run P w= .ok A.isNone w/\(Op.equalIn (d+1) t (.pointer none) (.pointer A)).run P w= .ok A.isNone w:=by
 cases A<;>simp[Op.equalIn,c8 hd]
def OI {t:TypeId}{ms:Array (String×TypeId)}(hd:P.underlying t=some (.interface ms))(d:Nat):(Op.equalIn (d+1) t .nilIface .nilIface).run P w= .ok true w:=by simp[Op.equalIn,c8 hd]
def Jh {t k:TypeId}{v:Value}{ms:Array (String×TypeId)}(hd:P.underlying t=some (.interface ms))(d:Nat):
 (Op.equalIn (d+1) t (.iface k v) .nilIface).run P w= .ok false w/\(Op.equalIn (d+1) t .nilIface (.iface k v)).run P w= .ok false w:=by
 simp[Op.equalIn,c8 hd]
def OJ {t e:TypeId}(hd:P.underlying t=some (.slice e))(d:Nat)(A:Option Addr)(n c:Nat)(h:A=none->n=0/\c=0):
 (Op.equalIn (d+1) t (.slice A n c) (.slice none 0 0)).run P w= .ok A.isNone w/\(Op.equalIn (d+1) t (.slice none 0 0) (.slice A n c)).run P w= .ok A.isNone w:=by
 cases A with
 |none=>obtain⟨rfl,rfl⟩:=h rfl;simp[Op.equalIn,c8 hd]
 |some a=>simp[Op.equalIn,c8 hd]
def Ee {t:TypeId}{u cn:Value}{r:Bool}(h1: ∀d,(Op.equalIn (d+1) t u cn).run P w= .ok r w)(h2: ∀d,(Op.equalIn (d+1) t cn u).run P w= .ok r w)
 (hg: ∀op o,(eqGuard op t o (.const cn) u cn).run P w= .ok () w/\(eqGuard op t (.const cn) o cn u).run P w= .ok () w)
 (hb:binOp .eql t u cn=(do pure (.bool (<-Op.equal t u cn)))/\binOp .neq t u cn=(do pure (.bool (!(<-Op.equal t u cn))))/\binOp .eql t cn u=(do pure (.bool (<-Op.equal t cn u)))/\binOp .neq t cn u=(do pure (.bool (!(<-Op.equal t cn u))))):
 Al P w t u cn r:=by
 have e1:(Op.equal t u cn).run P w= .ok r w:=h1 9999;have e2:(Op.equal t cn u).run P w= .ok r w:=h2 9999;refine⟨hg,?_,?_,?_,?_⟩
 all_goals simp_all
def AE {t e:TypeId}(hd:P.underlying t=some (.pointer e))(A:Option Addr):Al P w t (.pointer A) (.pointer none) A.isNone:=
 Ee (λd=>(Ji hd d A).1) (λd=>(Ji hd d A).2) (λop o=>by cases op<;>exact⟨rfl,rfl⟩) ⟨rfl,rfl,rfl,rfl⟩
def aa2 {t:TypeId}{ms:Array (String×TypeId)}(hd:P.underlying t=some (.interface ms)):Al P w t .nilIface .nilIface true:=
 Ee (λd=>OI hd d) (λd=>OI hd d) (λop o=>by cases op<;>cases o<;>exact⟨rfl,rfl⟩) ⟨rfl,rfl,rfl,rfl⟩
def Zz {t k:TypeId}{v:Value}{ms:Array (String×TypeId)}(hd:P.underlying t=some (.interface ms)):Al P w t (.iface k v) .nilIface false:=
 Ee (λd=>(Jh hd d).1) (λd=>(Jh hd d).2) (λop o=>by cases op<;>exact⟨rfl,rfl⟩) ⟨rfl,rfl,rfl,rfl⟩
def KC {t e:TypeId}(hd:P.underlying t=some (.slice e))(A:Option Addr)(n c:Nat)(h:A=none->n=0/\c=0):Al P w t (.slice A n c) (.slice none 0 0) A.isNone:=
 Ee (λd=>(OJ hd d A n c h).1) (λd=>(OJ hd d A n c h).2) (λop o=>by cases op<;>exact⟨rfl,rfl⟩) ⟨rfl,rfl,rfl,rfl⟩
def GG {t:TypeId}{d:TypeDesc}{u cn:Value}{r:Bool}{x:LV}(hd:P.underlying t=some d)(hx:zD d cn x=some r)(hv:LVR G w L nl x u):Al P w t u cn r:=by
 unfold zD at hx;split at hx
 ·unfold jl at hx;split at hx<;>simp only[bJ,reduceCtorEq]at hx<;>subst hx
  ·simp only[LVR,VR]at hv;subst hv;exact AE hd _
  ·simp only[LVR,VR]at hv;obtain⟨b,off,rfl,_⟩:=hv;exact AE hd _
  ·simp only[LVR,VR]at hv;obtain⟨_,rfl⟩:=hv;exact AE hd _
  ·simp only[LVR]at hv;obtain⟨_,rfl⟩:=hv;exact AE hd _
 ·unfold HW at hx;split at hx<;>simp only[bJ,reduceCtorEq]at hx<;>subst hx
  ·simp only[LVR,VR]at hv;subst hv;exact aa2 hd
  ·simp only[LVR,VR]at hv;obtain⟨v,rfl,_⟩:=hv;exact Zz hd
 ·unfold Ye at hx;split at hx<;>simp only[bJ,reduceCtorEq]at hx<;>subst hx
  ·simp only[LVR,VR]at hv;subst hv;exact KC hd none 0 0 bG
  ·simp only[LVR]at hv;obtain⟨A,n,c,rfl⟩:=xA hv;exact KC hd (some A) _ _ bG
  ·simp only[LVR]at hv;obtain⟨A,n,c,rfl⟩:=xA (kZ hv);exact KC hd (some A) _ _ bG
 ·simp at hx
def LG {op:BinOp}{t:TypeId}{x y:Operand}{k k':IntKind}{m n:Int}:(eqGuard op t x y (.int k m) (.int k' n)).run P w= .ok () w:=by cases op<;>rfl
def LH {op:BinOp}{t:TypeId}{x y:Operand}{m n:ByteArray}:(eqGuard op t x y (.string m) (.string n)).run P w= .ok () w:=by cases op<;>rfl
def y4 {op:BinOp}{t:TypeId}{x y:Operand}{m n:Bool}:(eqGuard op t x y (.bool m) (.bool n)).run P w= .ok () w:=by cases op<;>rfl
def NG {t:TypeId}(hd:P.underlying t=some .bool)(m n:Bool):(Op.equal t (.bool m) (.bool n)).run P w= .ok (m == n) w:=run_equalIn_bool' w 9999 t m n hd
def DC {x:Operand}{c:Value}(h:nY x=some c):x= .const c:=by cases x<;>simp[nY]at h |-; exact h
def VM {op:BinOp}{t:TypeId}{x y:Operand}{a b:LV}{c:CV}{u v:Value}(h:wF P op t x y a b=some c)(ha:LVR G w L nl a u)(hb:LVR G w L nl b v)
 (hx: ∀cc,x= .const cc->u=cc) (hy: ∀cc,y= .const cc->v=cc):
 ∃cv,(do eqGuard op t x y u v;binOp op t u v:Sem Value).run P w= .ok cv w/\c= .v cv:=by
 unfold wF at h;split at h
 ·simp only[LVR,VR]at ha hb;subst ha;subst hb;obtain⟨cv,h1,h2⟩:=Wo (P:=P) (w:=w) (t:=t) h;exact⟨cv,by simp only[dc,LG,df];exact h1,h2⟩
 ·simp only[LVR,VR]at ha hb;subst ha;subst hb;obtain⟨cv,h1,h2⟩:=Xw (P:=P) (w:=w) (t:=t) h;exact⟨cv,by simp only[dc,LH,df];exact h1,h2⟩
 ·simp only[LVR,VR]at ha hb;subst ha;subst hb;rename_i m n;split at h<;>simp only[bJ,reduceCtorEq]at h
  ·rename_i ht;refine⟨.bool (m == n),?_,h.symm⟩;simp only[dc,y4,df];show ((do pure (Value.bool (<-Op.equal t (.bool m) (.bool n))):Sem Value).run P w)=_;rw[dc,NG ht];rfl
  ·rename_i ht;refine⟨.bool (!(m == n)),?_,h.symm⟩;simp only[dc,y4,df];show ((do pure (Value.bool (!(<-Op.equal t (.bool m) (.bool n)))):Sem Value).run P w)=_;rw[dc,NG ht];rfl
 ·rename_i m n;obtain⟨ds,h1,ha1⟩:=bz.1 h;obtain⟨h2,ha2⟩:=bM.1 ha1;obtain⟨h3,ha3⟩:=bM.1 ha2;obtain⟨r,h4,hfin⟩:=bz.1 ha3;clear h ha1 ha2 ha3;unfold BN at h1;split at h1<;>try(simp at h1;done)
  rename_i fs ht;split at h1<;>simp only[bJ,reduceCtorEq]at h1;rename_i hc;simp only[cM,jv]at hc;subst h1;have hf:P.fieldsOf t=fs:=by simp[Program.fieldsOf,ht]
  simp only[LVR,VR]at ha hb;obtain⟨xs,rfl,hxs⟩:=ha;obtain⟨ys,rfl,hys⟩:=hb;have hg:(Op.equalIn 10000 t (.agg xs) (.agg ys)).run P w= .ok r w:=by
   rw[run_equalIn_struct w 9999 t xs ys (by rw[hf];exact ht) hc.1.2,hf];refine y3 fs.toList 0 m n r hc.1.1 h2 h3 (λj u hu=> ?_) (λj u hu=> ?_) h4
   ·obtain⟨v,hv,hr⟩:=(fY hxs).2 j _ hu;simp only[VR]at hr;subst hr;simpa using hv
   ·obtain⟨v,hv,hr⟩:=(fY hys).2 j _ hu;simp only[VR]at hr;subst hr;simpa using hv
  cases op<;>simp only[bJ,reduceCtorEq]at hfin
  ·exact⟨_,by simp only[dc,run_eqGuard_agg w _ t x y xs ys hc.2,df,run_eql_struct,hg],hfin.symm⟩
  ·exact⟨_,by simp only[dc,run_eqGuard_agg w _ t x y xs ys hc.2,df,run_neq_struct,hg],hfin.symm⟩
 ·obtain⟨d,hd,hb1⟩:=bz.1 h;clear h;simp only[]at hb1;split at hb1
  ·rename_i cc hcc;have hyc:=DC hcc;obtain⟨r,hr,hfin⟩:=bz.1 hb1;clear hb1;have hv:=hy cc hyc;subst hv;obtain⟨hG,e1,e2,_,_⟩:=GG (P:=P) hd hr ha;subst hyc;cases op<;>simp only[bJ,reduceCtorEq]at hfin
   ·exact⟨_,by simp only[dc,(hG .eql x).1,df,e1],hfin.symm⟩
   ·exact⟨_,by simp only[dc,(hG .neq x).1,df,e2],hfin.symm⟩
  ·obtain⟨cc,hcc,hb2⟩:=bz.1 hb1;have hxc:=DC hcc;obtain⟨r,hr,hfin⟩:=bz.1 hb2;clear hb1 hb2;have hu:=hx cc hxc;subst hu;obtain⟨hG,_,_,e1,e2⟩:=GG (P:=P) hd hr hb;subst hxc;cases op<;>simp only[bJ,reduceCtorEq]at hfin
   ·exact⟨_,by simp only[dc,(hG .eql y).2,df,e1],hfin.symm⟩
   ·exact⟨_,by simp only[dc,(hG .neq y).2,df,e2],hfin.symm⟩
end
def gE (b off j:Nat):(⟨b,off,none⟩:Addr).add j=⟨b,off+j,none⟩:=by unfold Addr.add;split<;>simp_all
section
variable {G:Gh}{w:World}{L nl:Nat}{P:Program}
def Id {b:Nat}: ∀{off:Nat} {cs:List CV},CL G w b off cs-> ∀(j:Nat) c,cs[j]? =some c-> ∃v,w.cell? ⟨b,off+j,none⟩=some v/\off+j<G.O b/\VR G w c v
 |off,[],h,j,c,hc=>by simp at hc|off,x::r,h,j,c,hc=>by
  simp only[CL]at h;cases j with|zero=>simp_all|succ j=>have:=Id h.2 j c (by simpa using hc);grind
def uB {b:Nat}: ∀{off:Nat} {cs:List CV} (n:Nat),CL G w b off cs->CL G w b (off+n) (cs.drop n)
 |off,cs,0,h=>by simpa using h|off,[],n+1,h=>by simp[CL]|off,x::r,n+1,h=>by simp only[CL]at h;rw[show off+(n+1)=off+1+n by omega];exact uB n h.2
def EU {b:Nat}: ∀{off:Nat} {cs:List CV} (n:Nat),CL G w b off cs->CL G w b off (cs.take n)
 |off,cs,0,h=>by simp[CL]|off,[],n+1,h=>by simp[CL]|off,x::r,n+1,h=>by simp only[CL,Ge]at h |-;exact⟨h.1,EU n h.2⟩
def EW {b:Nat}: ∀{off:Nat} {cs:List CV},CL G w b off cs-> ∃vs,VRL G w cs vs/\ ∀(j:Nat) v,vs[j]? =some v->w.cell? ⟨b,off+j,none⟩=some v
 |off,[],h=>⟨[],by simp[VRL],λj v hv=>by simp at hv⟩|off,x::r,h=>by simp only[CL]at h;obtain⟨⟨v,h1,h2,h3⟩,h4⟩:=h;obtain⟨vs,h5,h6⟩:=EW h4;refine⟨v::vs,by simp only[VRL];exact⟨v,vs,rfl,h3,h5⟩,λj u hu=> ?_⟩;grind
def Bu {t:TypeId}(h:dz P t=true):(isAgg t).run P w= .ok true w:=by unfold dz at h;split at h<;>first|(rename_i hu;simp[isAgg,c8 hu];done)|simp at h
def ze {t:TypeId}{d:TypeDesc}(hd:P.underlying t=some d)(h:dz P t=false):(isAgg t).run P w= .ok false w:=by unfold dz at h;simp only[isAgg,dc,c8 hd,df];rw[hd]at h;cases d<;>simp at h |-
def fB {t:TypeId}{n:Nat}(h:d4 P t=some n):(sizeOf t).run P w= .ok n w:=by unfold d4 at h;split at h<;>simp only[bJ,reduceCtorEq]at h;rename_i i hi;simp[sizeOf,typeInfo,hi,h]
def Ex {t:TypeId}{n:Nat}(h:d4 P t=some n): ∃i,P.info? t=some i/\i.size=n:=by unfold d4 at h;grind
def mj {t:TypeId}{b off:Nat}{vs:List Value}(hv: ∀(j:Nat) v,vs[j]? =some v->w.cell? ⟨b,off+j,none⟩=some v)
 (hd: ∃d,P.underlying t=some d):
 (dz P t=true-> ∀n,d4 P t=some n->vs.length=n->(Instr.loadAt t (.pointer (some ⟨b,off,none⟩))).run P w= .ok (.agg vs.toArray) w)/\
 (dz P t=false-> ∀v,vs[0]? =some v->(Instr.loadAt t (.pointer (some ⟨b,off,none⟩))).run P w= .ok v w):=by
 refine⟨λh n hn hl=> ?_,λh v h0=> ?_⟩
 ·simp only[Instr.loadAt,Instr.sureAddr,loadVar,dc,eW,df,Bu h,cX,fB hn];rw[<-hl,run_loadCells_list (P:=P) w ⟨b,off,none⟩ vs (λj v hjv=>by rw[gE];exact hv j v hjv)];simp
 ·obtain⟨d,hd⟩:=hd;have hc:=hv 0 v h0;simp only[lH]at hc;simp[Instr.loadAt,Instr.sureAddr,loadVar,ze hd h,hc]
def La {t:TypeId}{b off k:Nat}{cs:List CV}{c:CV}(h:jq P t cs k=some c)(hd: ∃d,P.underlying t=some d)(hc:CL G w b off cs):
 ∃v,(Instr.loadAt t (.pointer (some ⟨b,off+k,none⟩))).run P w= .ok v w/\VR G w c v:=by
 unfold jq at h;split at h
 ·rename_i ha;obtain⟨n,hn,h⟩:=bz.1 h;split at h<;>simp only[bJ,reduceCtorEq]at h;rename_i hle;have hle:=fO hle;subst h;obtain⟨vs,h1,h2⟩:=EW (EU n (uB k hc));refine⟨_,(mj h2 hd).1 ha n hn ?_,?_⟩
  ·rw[<-(fY h1).1];grind
  ·simp only[VR];simp_all
 ·rename_i ha;obtain⟨v,h1,h2,h3⟩:=Id hc k c h;refine⟨v,(mj (vs:=[v]) (λj u hu=> ?_) hd).2 (by simpa using ha) v rfl,h3⟩;grind
def B6: ∀(n:Nat) {cs:List CV} {vs:List Value},VRL G w cs vs->VRL G w (cs.take n) (vs.take n)
 |0,cs,vs,h=>by simp[VRL]|n+1,[],vs,h=>by simp only[VRL]at h;subst h;simp[VRL]|n+1,c::cs,vs,h=>by simp only[VRL]at h;obtain⟨v,r,rfl,h1,h2⟩:=h;simp only[Ge,VRL];exact⟨v,_,rfl,h1,B6 n h2⟩
def B5: ∀(n:Nat) {cs:List CV} {vs:List Value},VRL G w cs vs->VRL G w (cs.drop n) (vs.drop n)
 |0,cs,vs,h=>by simpa using h|n+1,[],vs,h=>by simp only[VRL]at h;subst h;simp[VRL]|n+1,c::cs,vs,h=>by simp only[VRL]at h;obtain⟨v,r,rfl,h1,h2⟩:=h;simpa using B5 n h2
def z6 {t:TypeId}{k:Nat}{cs:List CV}{c:CV}{vs:Array Value}(h:jq P t cs k=some c)(hd: ∃d,P.underlying t=some d)(hc:VRL G w cs vs.toList):
 ∃v,(part t vs k).run P w= .ok v w/\VR G w c v:=by
 unfold jq at h;obtain⟨hl,hg⟩:=fY hc;split at h
 ·rename_i ha;obtain⟨n,hn,h⟩:=bz.1 h;split at h<;>simp only[bJ,reduceCtorEq]at h;subst h;refine⟨_,by simp only[part,dc,Bu ha,df,cX,fB hn];rfl,?_⟩;simp only[VR];refine⟨_,rfl,?_⟩;have:(vs.extract k (k+n)).toList=(vs.toList.drop k).take n:=by simp[List.take_drop]
  rw[this];exact B6 n (B5 k hc)
 ·rename_i ha;obtain⟨d,hd⟩:=hd;obtain⟨v,h1,h2⟩:=hg k c h;have h1':vs[k]? =some v:=by simpa using h1
  exact⟨v,by simp[part,ze hd (by simpa using ha),h1'],h2⟩
def xF {s:TypeId}{f:Nat}{q:Nat×TypeId}(h:pI P s f=some q):
 ∃fs fd n,P.underlying s=some (.struct fs)/\fs[f]? =some fd/\d4 P fd.type=some (n+1)/\q=(fd.offset,fd.type):=by
 unfold pI at h;grind
def LI {s:TypeId}{f:Nat}{q:Nat×TypeId}(h:pI P s f=some q)(b off:Nat):
 (Instr.fieldAt s (.pointer (some ⟨b,off,none⟩)) f).run P w= .ok (.pointer (some ⟨b,off+q.1,none⟩)) w:=by
 obtain⟨fs,fd,n,hu,hf,hs,rfl⟩:=xF h;simp[Instr.fieldAt,c8 hu,hf,Instr.sureAddr,fieldPlace,fB hs,gE]
def Tq {s:TypeId}{f:Nat}{q:Nat×TypeId}{cs:List CV}{c:CV}{vs:Array Value}(h:pI P s f=some q)(ht:jq P q.2 cs q.1=some c)(hd: ∃d,P.underlying q.2=some d)(hc:VRL G w cs vs.toList):
 ∃v,(Instr.field s (.agg vs) f).run P w= .ok v w/\VR G w c v:=by
 obtain⟨fs,fd,n,hu,hf,hs,rfl⟩:=xF h;obtain⟨v,h1,h2⟩:=z6 ht hd hc;exact⟨v,by simp[Instr.field,c8 hu,hf,asAgg,h1],h2⟩
def Vh {t:TypeId}{s:ByteArray}{k:IntKind}{i:Int}{b:UInt8}(ht:P.underlying t=some .string)(h:km s.data.toList i=some b):
 (Instr.index t (.string s) (.int k i)).run P w= .ok (.int .u8 (b.toNat:Int)) w:=by
 unfold km at h;split at h<;>try(simp at h;done)
 rename_i h0;simp only[dn]at h0;obtain⟨hl,hg⟩:=dm.1 h;have hs:i.toNat<s.size:=hl;have:s[i.toNat]? =some b:=by rw[ByteArray.getElem?_lt' s _ hs];exact m6 some hg
 simp[Instr.index,asIntOf,c8 ht,h0,this]
def GE {α:Type}{xs r:List α}{lo hi:Int}(h:ku xs lo hi=some r):0<=lo/\lo<=hi/\hi<=(xs.length:Int)/\r=(xs.drop lo.toNat).take (hi-lo).toNat:=by unfold ku at h;grind
def Lu {α:Type}{ev:Operand->LV}{x:Option Operand}{d:Int}{k:Int->Option α}{r:α}(h:fl ev x d k=some r):
 (x=none/\k d=some r)\/ ∃o kd n,x=some o/\ev o= .cv (.v (.int kd n))/\k n=some r:=by
 unfold fl at h;cases x with
 |none=>exact .inl ⟨rfl,h⟩|some o=>obtain⟨n,h1,h2⟩:=bz.1 h;obtain⟨kd,e⟩:=qB h1;grind
def po (x:Option Value)(d n:Int):Prop:=(x=none/\n=d)\/ ∃k,x=some (.int k n)
def lT {isS:Bool}{len cap:Nat}{lo hi:Option Value}{a b:Int}(hlc:len<=cap)(h0:0<=a)(h1:a<=b)(h2:b<=(len:Int))(hlo:po lo 0 a)(hhi:po hi (len:Int) b):
 (Instr.sliceBounds isS len cap lo hi none).run P w= .ok (a.toNat,b.toNat,cap) w:=by
 have hb:b<=(cap:Int):=bu;have hb0:0<=b:=bu;have hab:a<=(b.toNat:Int):=bu;rcases hhi with⟨rfl,rfl⟩|⟨k,rfl⟩<;>rcases hlo with⟨rfl,rfl⟩|⟨k',rfl⟩<;>
  simp[Instr.sliceBounds,Instr.sliceBound,asIntOf,h0,hb0,hb]<;>omega
def K7 {t:TypeId}{s:ByteArray}{lo hi:Option Value}{a b:Int}{r:List UInt8}(ht:P.underlying t=some .string)(h:ku s.data.toList a b=some r)
 (hlo:po lo 0 a) (hhi:po hi (s.data.toList.length:Int) b):(Instr.sliceAt t (.string s) lo hi none).run P w= .ok (.string ⟨⟨r⟩⟩) w:=by
 obtain⟨h0,h1,h2,rfl⟩:=GE h;have hb:=lT (P:=P) (w:=w) (isS:=false) (len:=s.size) (cap:=s.size) (cw _) h0 h1 h2 hlo hhi;have he:s.extract a.toNat b.toNat=⟨⟨(s.data.toList.drop a.toNat).take (b-a).toNat⟩⟩:=by apply ByteArray.ext;apply Array.ext';simp only[ByteArray.data_extract,Array.toList_extract,List.extract_eq_take_drop];congr 1;omega
 simp[Instr.sliceAt,c8 ht,Instr.slice,hb,he]
def EX {b s:Nat}: ∀{off:Nat} {xs:List CV} (n:Nat),EL G w b s off xs->EL G w b s (off+n*s) (xs.drop n)
 |off,xs,0,h=>by simpa using h|off,[],n+1,h=>by simp[EL]|off,x::r,n+1,h=>by
  have h2:EL G w b s (off+s) r:=by cases x<;>simp only[EL]at h<;>exact h.2
  rw[show off+(n+1)*s=off+s+n*s by rw[pm];omega];exact EX n h2
def Nw {b s:Nat}: ∀{off:Nat} {xs:List CV} (n:Nat),EL G w b s off xs->EL G w b s off (xs.take n)
 |off,xs,0,h=>by simp[EL]|off,[],n+1,h=>by simp[EL]|off,x::r,n+1,h=>by cases x<;>simp only[EL,Ge]at h |- <;>exact⟨h.1,Nw n h.2⟩
def Nl {t e:TypeId}{xs r:List CV}{v:Value}{lo hi:Option Value}{a b:Int}{n:Nat}(ht:P.underlying t=some (.slice e))(hsz:d4 P e=some n)(hv:VR G w (.sl xs) v)
 (h:ku xs a b=some r) (hu:vo n a xs=true) (hlo:po lo 0 a) (hhi:po hi (xs.length:Int) b):
 ∃u,(Instr.sliceAt t v lo hi none).run P w= .ok u w/\VR G w (.sl r) u:=by
 obtain⟨h0,h1,h2,rfl⟩:=GE h;simp only[VR]at hv;obtain⟨A,len,cap,rfl,rfl,hc,hx⟩:=hv;have hb:=lT (P:=P) (w:=w) (isS:=true) hc h0 h1 h2 hlo hhi;refine⟨.slice (if cap=a.toNat then A else A.map (·.add (a.toNat*n))) (b.toNat-a.toNat) (cap-a.toNat),?_,?_⟩
 ·simp[Instr.sliceAt,c8 ht,Instr.slice,hb,fB hsz]
 ·simp only[VR];refine⟨_,_,_,rfl,?_,bu,?_⟩
  ·simp only[nu,gZ];omega
  ·rcases hx with hx|⟨bl,off,s,rfl,hs,hl⟩
   ·left;omega
   ·by_cases hab:b.toNat-a.toNat=0
    ·omega
    ·right;have hne:cap≠a.toNat:=bu;have hsn:a.toNat*n=a.toNat*s:=by
      unfold vo at hu;split at hu
      ·simp_all
      ·cases xs with
       |nil=>simp at h2;omega|cons x r=>
        simp only[ee]at hu;split at hu<;>try(simp at hu;done)
        rename_i he;simp only[ga,cM]at he;simp_all
     refine⟨bl,off+a.toNat*s,s,by simp[hne,gE,hsn],λx hx=>hs x (List.mem_of_mem_drop (List.mem_of_mem_take hx)),Nw _ (EX _ hl)⟩
end
section
variable {G:Gh}{w:World}{L nl:Nat}{P:Program}
def EB {c:CV}{v:Value}(h:cY c=true)(hv:VR G w c v):v.oneCell'=true:=by
 cases c<;>simp only[cY,eD,VR]at h hv
 ·simp_all
 ·obtain⟨_,_,_,rfl,_⟩:=hv;rfl
 ·obtain⟨_,_,rfl,_⟩:=hv;rfl
 ·obtain⟨_,rfl⟩:=hv;rfl
 ·obtain⟨_,_,_,_,_,rfl,_⟩:=hv;rfl
 ·obtain⟨_,rfl,_⟩:=hv;rfl
 ·obtain⟨_,rfl,_⟩:=hv;rfl
 ·obtain⟨_,_,_,rfl,_⟩:=hv;rfl
 ·obtain⟨_,rfl⟩:=hv;rfl
 ·obtain⟨_,rfl,_⟩:=hv;rfl
def G8 {v:Value}(h:v.oneCell'=true):v.cells= #[v]:=by cases v<;>simp[Value.oneCell',Value.cells]at h |-
def rP: ∀{cs:List CV} {vs:List Value},fD cs=true->VRL G w cs vs-> ∀v∈vs,v.oneCell'=true
 |[],vs,_,h=>by simp only[VRL]at h;subst h;simp|c::cs,vs,hs,h=>by
  simp only[VRL]at h;obtain⟨v,r,rfl,h1,h2⟩:=h;simp only[fD]at hs;split at hs<;>try(simp at hs;done)
  rename_i h1s;intro u hu;rcases eE.1 hu with rfl|hu
  ·exact EB h1s h1
  ·exact rP hs h2 u hu
def lP {c:CV}{v:Value}(h:iH c=true)(hv:VR G w c v):VRL G w c.cells v.cells.toList/\ ∀u∈v.cells.toList,u.oneCell'=true:=by
 unfold iH at h;split at h
 ·rename_i cs;simp only[VR]at hv;obtain⟨vs,rfl,hl⟩:=hv;exact⟨hl,rP h hl⟩
 ·rename_i hne;have h1:=EB h hv;rw[G8 h1];have:c.cells=[c]:=by cases c<;>simp[CV.cells,cY]at hne h |-
  rw[this];exact⟨by simp only[VRL];exact⟨v,[],rfl,hv,rfl⟩,by simpa using h1⟩
def VRL_len {cs:List CV}{vs:List Value}(h:VRL G w cs vs):cs.length=vs.length:=(fY h).1
def lE {t:TypeId}{cs:List CV}(h:zeroCells P t=some cs): ∃z i,P.info? t=some i/\i.zero=some z/\(zeroValue t).run P w= .ok z w/\VRL G w cs z.cells.toList:=by
 unfold zeroCells at h;split at h<;>try(simp at h;done)
 rename_i i hi;split at h<;>try(simp at h;done)
 rename_i z hz;refine⟨z,i,hi,hz,by simp[zeroValue,typeInfo,hi,hz],?_⟩;split at h<;>simp only[bJ]at h<;>subst h
 ·exact XQ _
 ·rename_i hne;have:z.cells= #[z]:=by cases z<;>simp[Value.cells]at hne |-
  rw[this];simp only[VRL];exact⟨z,[],rfl,by simp[VR],rfl⟩
def dO:Array Value->Nat->List Value->Array Value
 |a,_,[]=>a|a,off,v::r=>dO (a.setIfInBounds off v) (off+1) r
def y8 (off:Nat): ∀(l:List Value) (k:Nat) (a:Array Value),(l.zipIdx k).foldl (λcs q=>cs.setIfInBounds (off+q.2) q.1) a=dO a (off+k) l
 |[],k,a=>rfl|v::r,k,a=>by simp only[List.zipIdx_cons,List.foldl_cons,dO];rw[y8 off r (k+1)];rfl
def fe: ∀(l:List Value) (off:Nat) (a:Array Value),(dO a off l).size=a.size
 |[],off,a=>rfl|v::r,off,a=>by simp[dO,fe r]
def o8: ∀(l:List Value) (off:Nat) (a:Array Value) (j:Nat),j<off->(dO a off l)[j]? =a[j]?
 |[],off,a,j,h=>rfl|v::r,off,a,j,h=>by simp only[dO];rw[o8 r (off+1) _ j bu,Ps bu]
def sY: ∀(l:List Value) (off:Nat) (a:Array Value) (j:Nat),off+l.length<=j->(dO a off l)[j]? =a[j]?
 |[],off,a,j,h=>rfl|v::r,off,a,j,h=>by simp only[dO,cB]at h |-;rw[sY r (off+1) _ j bu,Ps bu]
def zN: ∀(l:List Value) (off:Nat) (a:Array Value) (j:Nat),off+l.length<=a.size->j<l.length->(dO a off l)[off+j]? =l[j]?
 |[],off,a,j,h,hj=>by simp at hj|v::r,off,a,j,h,hj=>by
  simp only[dO,cB]at h hj |-;cases j with|zero=>rw[o8 r (off+1) _ _ bu];grind|succ j=>have:=zN r (off+1) (a.setIfInBounds off v) j cr bu;grind
def pe {α:Type}: ∀(l:List α) (cs:List α) (off:Nat),(dh cs off l).length=cs.length
 |[],cs,off=>rfl|v::r,cs,off=>by simp[dh,pe r]
def je {α:Type}: ∀(l:List α) (off:Nat) (a:List α) (j:Nat),j<off->(dh a off l)[j]? =a[j]?
 |[],off,a,j,h=>rfl|v::r,off,a,j,h=>by simp only[dh];rw[je r (off+1) _ j bu,vC bu]
def kI {α:Type}: ∀(l:List α) (off:Nat) (a:List α) (j:Nat),off+l.length<=j->(dh a off l)[j]? =a[j]?
 |[],off,a,j,h=>rfl|v::r,off,a,j,h=>by simp only[dh,cB]at h |-;rw[kI r (off+1) _ j bu,vC bu]
def ni {α:Type}: ∀(l:List α) (off:Nat) (a:List α) (j:Nat),off+l.length<=a.length->j<l.length->(dh a off l)[off+j]? =l[j]?
 |[],off,a,j,h,hj=>by simp at hj|v::r,off,a,j,h,hj=>by
  simp only[dh,cB]at h hj |-;cases j with|zero=>rw[je r (off+1) _ _ bu];grind|succ j=>have:=ni r (off+1) (a.set off v) j cr bu;grind
def iP: ∀{cs:List CV} {vs:List Value},cs.length=vs.length->(∀(j:Nat) c v,cs[j]? =some c->vs[j]? =some v->VR G w c v)->VRL G w cs vs
 |[],[],_,_=>by simp[VRL]|[],_::_,h,_=>by simp at h|_::_,[],h,_=>by simp at h|c::cs,v::vs,h,hg=>by simp only[VRL];exact⟨v,vs,rfl,hg 0 c v rfl rfl,iP (by simpa using h) λj c v hc hv=>hg (j+1) c v (by simpa using hc) (by simpa using hv)⟩
def ID {cs:List CV}{a:Array Value}{off:Nat}{ds:List CV}{us:List Value}(h:VRL G w cs a.toList)(hd:VRL G w ds us)(hle:off+ds.length<=cs.length):
 VRL G w (dh cs off ds) (dO a off us).toList:=by
 have hl:=VRL_len h;have hl2:=VRL_len hd;refine iP (by rw[pe,hl];simp[fe]) λj c v hc hv=> ?_;have hv':(dO a off us)[j]? =some v:=by simpa using hv
 have has:a.toList.length=a.size:=bG;by_cases h1:j<off
 ·rw[je _ _ _ _ h1]at hc;rw[o8 _ _ _ _ h1]at hv';obtain⟨u,hu,hr⟩:=(fY h).2 j c hc;simp_all
 ·by_cases h2:off+ds.length<=j
  ·rw[kI _ _ _ _ h2]at hc;rw[sY _ _ _ _ bu]at hv';obtain⟨u,hu,hr⟩:=(fY h).2 j c hc;simp_all
  ·obtain⟨k,rfl⟩: ∃k,j=off+k:=⟨j-off,bu⟩;rw[ni _ _ _ _ hle bu]at hc;rw[zN _ _ _ _ bu bu]at hv';obtain⟨u,hu,hr⟩:=(fY hd).2 k c hc;simp_all
inductive PartsR (G:Gh) (w:World):List (Nat×CV)->List (Nat×Value)->Prop
 |nil:PartsR G w [] []|cons {i c v r s} (h:VR G w c v) (hs:iH c=true) (t:PartsR G w r s):PartsR G w ((i,c)::r) ((i,v)::s)
def wN {place:Nat->Option (Nat×Nat)}: ∀{ps:List (Nat×CV)} {qs:List (Nat×Value)} {cs out:List CV} {a:Array Value},
 PartsR G w ps qs->VRL G w cs a.toList->oN place cs ps=some out-> ∃b,Instr.fill place a qs=some b/\VRL G w out b.toList/\b.size=a.size
 |_,_,cs,out,a,.nil,h,hf=>by simp only[oN,bJ]at hf;subst hf;exact⟨a,rfl,h,rfl⟩|_,_,cs,out,a,.cons (i:=i) (c:=c) (v:=v) (r:=r) (s:=s) hv hs t,h,hf=>by
  simp only[oN]at hf;split at hf<;>try(simp at hf;done)
  rename_i q hq;split at hf<;>try(simp at hf;done)
  rename_i hc;simp only[cM]at hc;have h1:=eC hc.1;have h2:=fO hc.2;obtain⟨hcl,_⟩:=lP hs hv;have hlen:=VRL_len hcl;have hl:=VRL_len h;have hsz:v.cells.size=q.2:=by rw[<-h1,hlen];simp
  obtain⟨b,hb,hr,hbs⟩:=wN (a:=dO a q.1 v.cells.toList) t (ID h hcl bu) hf;refine⟨b,?_,hr,by rw[hbs,fe]⟩;obtain⟨o,z⟩:=q;simp only at hsz h1 h2 hb;simp only[Instr.fill,hq];have has:a.toList.length=a.size:=bG;have hcond:(decide (v.cells.size≠z)||decide (o+v.cells.size>a.size))=false:=by simp_all
  rw[bE (by rw[hcond];simp)];rw[<-Array.foldl_toList,Array.toList_zipIdx];have:=y8 o v.cells.toList 0 a;simp_all
def uw {s:S}{μ:Mu}{a:Act}(R:Rel G L s μ a.tmps w)(h:OpHint): ∀{l:List (Nat×Operand)} {ps:List (Nat×CV)},kG (evA h s.fr) l=some ps->
 PartsR G w ps (l.map λq=>(q.1,a.eval q.2))
 |[],ps,hp=>by simp only[kG,bJ]at hp;subst hp;exact .nil|q::r,ps,hp=>by simp only[kG]at hp;obtain⟨c,h1,h2⟩:=bz.1 hp;obtain⟨h3,h4⟩:=bM.1 h2;obtain⟨l,h5,h6⟩:=bz.1 h4;simp only[bJ]at h6;subst h6;exact .cons (it h1 (cI R h q.2).1) h3 (uw R h h5)
end
def Gh.setO (G:Gh)(b n:Nat):Gh:={G with O:=λx=>if x=b then n else G.O x}
def fh {G:Gh}{b n:Nat}:(G.setO b n).O b=n:=by simp[Gh.setO]
def dU {G:Gh}{b n x:Nat}(h:x≠b):(G.setO b n).O x=G.O x:=by simp[Gh.setO,h]
section
variable {G:Gh}{w:World}{L:Nat}{P:Program}
def Fl {a:Addr}{v:Value}(h:w.cell? a=some v):a.block<w.heap.size:=block_lt_of_cell h
def mO {b:Nat}{o:Obj}(h:w.heap[b]? =some o):b<w.heap.size:=(qZ.1 h).1
def oz {x:LV}{v:Value}{b nl:Nat}(h:LVR G w L nl x v)(ho:bZ x v b):b<w.heap.size:=by
 cases x<;>simp only[bZ]at ho
 ·simp only[LVR]at h;rcases h with⟨rfl,rfl⟩|⟨b',cap,cur,e,s,rfl,hb,_⟩
  ·simp at ho
  grind
 ·simp only[LVR]at h;rcases h with⟨rfl,rfl⟩|⟨b',cap,cur,e,rfl,hb,_⟩
  ·simp at ho
  grind
def ld {l:Lam}{i:Nat}(h:b6 (bQ l i)):i<l.length:=by
 by_cases hi:i<l.length
 ·exact hi
 ·simp only[bQ]at h;rw[fq bu]at h;exact h.elim
def e8 {s:S}{μ:Mu}(hL:μ.length=L){lev i:Nat}(h:b6 (bP (μ++[s.lam]) lev i)):(lev<L/\bP (μ++[s.lam]) lev i=b7 μ lev i)\/(lev=L/\i<s.lam.length/\bP (μ++[s.lam]) lev i=bQ s.lam i):=by
 rcases q8 lev L with h1|h1|h1
 ·exact .inl ⟨h1,cS bu⟩
 ·subst h1;rw[<-hL]at h |-;have e:bP (μ++[s.lam]) μ.length i=bQ s.lam i:=cV;rw[e]at h;exact .inr ⟨rfl,ld h,e⟩
 ·rw[<-hL]at h1;simp only[bP,mW h1]at h;exact h.elim
def Se {nl b sz:Nat}{o:Ob}(h:ObR G w L nl b sz o)(hl:b6 o):b<w.heap.size:=by
 cases o with
 |dead=>exact hl.elim|cells cs=>obtain⟨cur,e,fz,h1,_⟩:=h;exact mO h1
 |arr k cs=>obtain⟨_,cur,e,fz,h1,_⟩:=h;exact mO h1
 |map ks vs=>obtain⟨es,clk,h1,_⟩:=h;exact mO h1
def Rel.touch_lt {s:S}{μ:Mu}{tm:Array Value}(R:Rel G L s μ tm w){b:Nat}(h:jz G w s.fr tm (μ++[s.lam]) b):b<w.heap.size:=by
 rcases h with⟨l,h⟩|⟨lev,i,hl,rfl⟩
 ·cases l with
  |fr t=>exact oz (R.fr t) h|ob lev i k=>
   simp only[bF]at h;split at h<;>try(exact h.elim)
   rename_i cs hcs;split at h<;>try(exact h.elim)
   rename_i x hx;obtain⟨cur,e,fz,hb,ho⟩:=h;have hlive:b6 (bP (μ++[s.lam]) lev i):=by rw[hcs];trivial
   rcases e8 R.lev hlive with⟨h1,h2⟩|⟨rfl,h1,h2⟩
   ·have:=R.mu lev i h1;rw[<-h2,hcs]at this;simp only[ObR]at this;obtain⟨cur',e',fz',hb',_,_,_,h5⟩:=this;rw[hb]at hb';obtain⟨rfl,_⟩:=(j4 ..).mp (gY hb');exact oz (h5 k x hx) ho
   ·have:=R.lam i;rw[<-h2,hcs]at this;simp only[ObR]at this;obtain⟨cur',e',fz',hb',_,_,_,h5⟩:=this;rw[hb]at hb';obtain⟨rfl,_⟩:=(j4 ..).mp (gY hb');exact oz (h5 k x hx) ho
 ·rcases e8 R.lev hl with⟨h1,h2⟩|⟨rfl,h1,h2⟩
  ·rw[h2]at hl;exact Se (R.mu lev i h1) hl
  ·rw[h2]at hl;exact Se (R.lam i) hl
def pE {o:Obj}{b off:Nat}(h:b<w.heap.size):(w.alloc o).cell? ⟨b,off,none⟩=w.cell? ⟨b,off,none⟩:=World.cell?_alloc_lt w o _ h
def vX (o:Obj)(n:Nat):Le G w (G.setO w.heap.size n) (w.alloc o):=by
 refine⟨λb es clk h hb=> ?_,λ_ _ h=>⟨h,rfl,rfl⟩,λb off v h hc=> ?_,λb cur e fz h=> ?_⟩
 ·have hlt:b<w.heap.size:=mO hb;rw[dU bu,iN w o hlt];simp_all
 ·have hb:b<w.heap.size:=Fl hc;rw[dU bu,pE hb];simp_all
 ·exact⟨cur,fz,by rw[iN w o (mO h)];exact h,rfl⟩
def Rel.alloc {s:S}{μ:Mu}{tm:Array Value}(R:Rel G L s μ tm w)(o:Obj)(n:Nat):
 Rel (G.setO w.heap.size n) L s μ tm (w.alloc o)/\
 (∀l b,bF (G.setO w.heap.size n) (w.alloc o) s.fr tm (μ++[s.lam]) l b->bF G w s.fr tm (μ++[s.lam]) l b):=
 R.frame (vX o n) (λb hb=>⟨iN w o (R.touch_lt hb),dU (by have:=R.touch_lt hb;omega)⟩) (λ_ _ _=>⟨rfl,rfl⟩) rfl
def Ext.alloc {T T':Nat->Prop}(o:Obj)(n:Nat)(h: ∀b,T' b->T b\/w.heap.size<=b):Ext L T G w (G.setO w.heap.size n) (w.alloc o) T':=
 ⟨vX o n,rfl,rfl,rfl,bG,λb hb _=>⟨iN w o hb,dU bu⟩,h,λ_ _=>⟨λ_=>⟨rfl,rfl⟩,rfl⟩⟩
def Rel.drew {s:S}{μ:Mu}{tm:Array Value}(R:Rel G L s μ tm w):Rel G L s μ tm w.drew/\(∀l b,bF G w.drew s.fr tm (μ++[s.lam]) l b->bF G w s.fr tm (μ++[s.lam]) l b):=
 R.frame ⟨λ_ _ _ h hb=>⟨h,hb⟩,λ_ _ h=>⟨h,rfl,rfl⟩,λ_ _ _ h hc=>⟨h,hc⟩,λb cur e fz h=>⟨cur,fz,h,rfl⟩⟩ (λ_ _=>⟨rfl,rfl⟩) (λ_ _ _=>⟨rfl,rfl⟩) rfl
def EL_of {b s:Nat}: ∀{xs:List CV} {off:Nat} {vs:List Value},(∀x∈xs,x.cells.length=s)->VRL G w (xs.flatMap CV.cells) vs->
 (∀(j:Nat) v,vs[j]? =some v->w.cell? ⟨b,off+j,none⟩=some v/\off+j<G.O b)->EL G w b s off xs
 |[],off,vs,_,_,_=>by simp[EL]|x::r,off,vs,hs,h,hc=>by
  have hx:=hs x bG;have key: ∀(cs:List CV) (off:Nat) (vs:List Value),VRL G w cs vs->(∀(j:Nat) v,vs[j]? =some v->w.cell? ⟨b,off+j,none⟩=some v/\off+j<G.O b)->CL G w b off cs:=by
   intro cs
   induction cs with
   |nil=>intro off vs _ _;simp[CL]|cons c cs ih=>intro off vs h hc;simp only[VRL]at h;obtain⟨v,q,rfl,h1,h2⟩:=h;simp only[CL];refine⟨⟨v,(hc 0 v rfl).1,(hc 0 v rfl).2,h1⟩,ih (off+1) q h2 λj u hu=> ?_⟩;have:=hc (j+1) u (by simpa using hu);grind
  have split: ∃us ws,vs=us++ws/\us.length=s/\VRL G w x.cells us/\VRL G w (r.flatMap CV.cells) ws:=by
   simp only[tu]at h;refine⟨vs.take s,vs.drop s,(Pq s vs).symm,?_,?_,?_⟩
   ·have:=VRL_len h;grind
   ·have:=B6 s h;simp_all
   ·have:=B5 s h;simp_all
  obtain⟨us,ws,rfl,hul,h1,h2⟩:=split;have hcl:=key x.cells off us h1 λj v hv=>hc j v (by rw[fN (dm.1 hv).1];exact hv);have hel:EL G w b s (off+s) r:=EL_of (λy hy=>hs y (by simp[hy])) h2 λj v hv=>by have:=hc (s+j) v (by rw[ju bu];rw[<-hv];congr 1;omega);grind
  cases x<;>simp only[EL,CV.cells,CL,j6]at hcl |- <;>exact⟨hcl,hel⟩
def flat_len {xs:List CV}{s:Nat}(h: ∀x∈xs,x.cells.length=s):(xs.flatMap CV.cells).length=xs.length*s:=by
 induction xs with|nil=>simp|cons x r ih=>grind
def lJ {sz:Nat}: ∀{xs:List CV},ee sz xs=true->(∀x∈xs,x.cells.length=sz/\iH x=true)
 |[],_=>by simp|x::r,h=>by
  simp only[ee]at h;split at h<;>try(simp at h;done)
  rename_i he;simp only[ga,cM]at he;intro y hy;rcases eE.1 hy with rfl|hy
  ·simp_all
  ·exact lJ h y hy
end
end Go.Abs
