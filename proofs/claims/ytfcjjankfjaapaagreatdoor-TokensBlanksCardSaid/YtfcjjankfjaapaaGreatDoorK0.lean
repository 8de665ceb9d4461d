/-
  The statement TokensBlanksCardSaid, proved; part 1 of 8 of its proof.
  An abstract interpreter for loaded Go code: values (slices and pointees by their content), a local heap for a function's own variables, an outer heap for what came in by pointer. Definitions only; what it says of the machine is proved in the texts behind it.
  What the abstract interpreter's values say of the machine's values and memory, and that it stays said while the machine goes on.
  How a relation between abstract and concrete state is carried over a step: what is set, what is stripped, what is new.
  Operands, and operations that only compute.
  Values read by their kind: what is read is what was there.
  Operations on numbers, bools, strings and structs by value.
  '==' and '!=' of structs, and of anything against nil.
  Reading what never changes: loads, fields, elements, parts of strings and slices.
  Values of several cells: zeros, structs and slices built out of parts.
  New blocks: what was known stays known, and the new block is known.
  New variables of the call's own.
  An object is turned: a store into a variable, or its right to append taken out.
  A variable that nobody writes any more is known by its content from there on.
  One operation: what the interpreter does, the machine does. Operations that turn no memory.
  One operation: those that turn no memory.
-/
import Derived.Orders
import Derived.LoopN
import Derived.Laws.Sem
import Derived.Laws.World
import Derived.Laws.AppendOwn
import Derived.WalkKit
set_option linter.all false
set_option linter.unusedSectionVars false
set_option linter.unusedVariables false
namespace Go.Abs
open Go
inductive CV where
 |undef
 |v (x:Value)
 |agg (cs:List CV)
 |sl (xs:List CV)
 |view (cs:List CV)
 |ref (lev i off:Nat)
 |msl (lev i off len:Nat)
 |clo (f:FuncId) (caps:List CV)
 |iface (t:TypeId) (x:CV)
 |mview (ks:List Value) (vs:List CV)
 |mref (lev i:Nat)
 |tref (lev i:Nat) (t:TypeId) (n:Nat)
 deriving Inhabited
inductive LV where
 |cv (c:CV)
 |osl (xs:List CV)
 |loc (i off:Nat)
 |lsl (i off len:Nat)
 |lclo (f:FuncId) (caps:List LV)
 |ltup (xs:List LV)
 |mloc (i:Nat)
 |tloc (i:Nat) (t:TypeId) (n:Nat)
 deriving Inhabited
inductive Ob where
 |cells (cs:List LV)
 |arr (sz:Nat) (cs:List CV)
 |dead
 |map (ks:List Value) (vs:List CV)
 deriving Inhabited
abbrev Lam:=List Ob
abbrev Mu:=List Lam
inductive Out where
 |ret (v:LV) (μ:Mu)
 |panic (v:CV) (μ:Mu)
abbrev Fr:=Nat→LV
structure S where
 fr:Fr
 lam:Lam
 pushed:Bool
inductive St where
 |norm (s:S) (μ:Mu)
 |exit (id:Nat) (s:S) (μ:Mu)
 |ret (s:S) (μ:Mu)
 |panic (v:CV) (s:S) (μ:Mu)
structure OpHint where
 take:List Nat:=[]
 freeze:List Nat:=[]
 fza:List (Nat×TypeId):=[]
 cell:Bool:=false
 arr:Bool:=false
 outer:Bool:=false
 push:Bool:=false
 own:Bool:=false
structure Hints where
 ops:List ((Nat×Nat)×OpHint):=[]
 live:List (Nat×List (Nat×Nat)×List (Nat×Nat)):=[]
 cuts:List (Nat×List (Nat×Nat)×List (Nat×Nat)):=[]
 objs:List (Nat×List (Nat×List Nat)):=[]
 res:List (Nat×Nat):=[]
 pan:List (Nat×Nat):=[]
 dfr:Option Nat:=none
 deriving Inhabited
@[reducible] def CV.int (k:IntKind) (n:Int):CV:= .v (.int k n)
@[reducible] def CV.bool (b:Bool):CV:= .v (.bool b)
@[reducible] def CV.str (l:List UInt8):CV:= .v (.string ⟨⟨l⟩⟩)
@[reducible] def LV.int (k:IntKind) (n:Int):LV:= .cv (.v (.int k n))
@[reducible] def LV.bool (b:Bool):LV:= .cv (.v (.bool b))
@[reducible] def LV.str (l:List UInt8):LV:= .cv (.v (.string ⟨⟨l⟩⟩))
def opt {α β:Type}(x:Option α)(k:α→Option β):Option β:=match x with|some a=>k a|none=>none
def ay {β:Type}(b:Bool)(k:Option β):Option β:=cond b k none
def bn (n:Nat):Bool:=decide (n≤1099511627776)
def upd (g:Fr)(t:Nat)(v:LV):Fr:=fun u=>match Nat.beq u t with|true=>v|false=>g u
def dL:List (Nat×LV)→Fr
 |[],_=> .cv .undef
 |(s,v)::r,t=>match Nat.beq s t with|true=>v|false=>dL r t
def nS:List Nat→Nat→Bool
 |[],_=>false
 |a::r,t=>match Nat.beq a t with|true=>true|false=>nS r t
def strip1:LV→LV
 | .cv c=> .cv c
 | .osl xs=> .cv (.sl xs)
 | .loc i off=> .loc i off
 | .lsl i off len=> .lsl i off len
 | .lclo f caps=> .lclo f caps
 | .mloc i=> .mloc i
 | .tloc i t n=> .tloc i t n
 | .ltup _=> .cv .undef
def strip:LV→LV
 | .cv c=> .cv c
 | .osl xs=> .cv (.sl xs)
 | .loc i off=> .loc i off
 | .lsl i off len=> .lsl i off len
 | .lclo f caps=> .lclo f caps
 | .mloc i=> .mloc i
 | .tloc i t n=> .tloc i t n
 | .ltup xs=> .ltup (xs.map strip1)
def S.set (s:S)(t:Nat)(v:LV):S:={s with fr:=upd s.fr t v}
def S.put (s:S)(dst:Option Nat)(v:LV):S:=match dst with|some t=>s.set t v|none=>s
def ac:List Nat→S→S
 |[],s=>s
 |t::r,s=>ac r (s.set t (strip (s.fr t)))
def f9:Value→LV
 | .agg cs=> .cv (.agg (cs.toList.map .v))
 | .tuple cs=> .ltup (cs.toList.map fun c=> .cv (.v c))
 |x=> .cv (.v x)
def evA (h:OpHint)(fr:Fr):Operand→LV
 | .tmp t=>match nS h.take t with|true=>fr t|false=>strip (fr t)
 | .const c=>f9 c
 | .global _=> .cv .undef
 | .func f=> .cv (.clo f [])
def CV.cells:CV→List CV
 | .agg cs=>cs
 |c=>[c]
def oK:CV→Bool
 | .undef=>false
 | .agg _=>false
 | .v x=>x.oneCell'
 |_=>true
def gn:List CV→Bool
 |[]=>true
 |c::r=>match oK c with|true=>gn r|false=>false
def gG:CV→Bool
 | .agg cs=>gn cs
 |c=>oK c
def LV.cells:LV→Option (List LV)
 | .cv c=>match gG c with|true=>some (c.cells.map .cv)|false=>none
 | .ltup _=>none
 |x=>some [x]
def aI (k:IntKind):LV→Option Int
 | .cv (.v (.int k' n))=>match decide (k=k')with|true=>some n|false=>none
 |_=>none
def aQ:LV→Option Bool
 | .cv (.v (.bool b))=>some b
 |_=>none
def aN:LV→Option (List UInt8)
 | .cv (.v (.string s))=>some s.data.toList
 |_=>none
def cF:LV→Option (List CV)
 | .cv (.sl xs)=>some xs
 | .cv (.v (.slice none 0 0))=>some []
 | .osl xs=>some xs
 |_=>none
def fG:LV→Option (List CV)
 | .osl xs=>some xs
 | .cv (.v (.slice none 0 0))=>some []
 |_=>none
def d8:LV→Option CV
 | .cv c=>some c
 | .osl xs=>some (.sl xs)
 |_=>none
def li:LV→Option (List CV)
 | .cv (.agg cs)=>some cs
 |_=>none
def aX:LV→Option (List LV)
 | .ltup xs=>some xs
 |_=>none
def aB {α:Type}:List α→Option (α×List α)
 |a::r=>some (a,r)
 |[]=>none
def aS {α:Type}:List α→Option Unit
 |[]=>some ()
 |_::_=>none
def iU {β:Type}(d:TypeDesc)(c:LV)(k:CV→Option β):Option β:=
 match d with
 | .int ik=>opt (aI ik c) fun n=>k (.v (.int ik n))
 | .bool=>opt (aQ c) fun b=>k (.v (.bool b))
 | .string=>opt (aN c) fun l=>k (.v (.string ⟨⟨l⟩⟩))
 | .slice _=>opt (cF c) fun xs=>k (.sl xs)
 |_=>opt (d8 c) k
def fc {β:Type}:List TypeDesc→List CV→(List CV→Option β)→Option β
 |[],cs,k=>opt (aS cs) fun _=>k []
 |d::ds,cs,k=>opt (aB cs) fun q=>iU d (.cv q.1) fun c=>fc ds q.2 fun r=>k (c::r)
def yT (P:Program):(depth:Nat)→TypeId→List TypeDesc
 |0,_=>[]
 |d+1,t=>match P.underlying t with
  |some (.struct fs)=>fs.toList.flatMap fun f=>yT P d f.type
  |some (.array n e)=>(List.replicate n ()).flatMap fun _=>yT P d e
  |some x=>[x]
  |none=>[]
def ef (P:Program)(t:TypeId):Bool:=
 match P.underlying t with
 |some (.struct _)=>true
 |some (.array _ _)=>true
 |_=>false
def hZ {β:Type}(P:Program)(t:TypeId)(v:LV)(k:CV→Option β):Option β:=
 match ef P t with
 |true=>opt (li v) fun cs=>fc (yT P 8 t) cs fun cs=>k (.agg cs)
 |false=>match P.underlying t with
  |some d=>iU d v k
  |none=>none
def fO {β:Type}(P:Program)(t:TypeId)(c:CV)(k:CV→Option β):Option β:=hZ P t (.cv c) k
def iR {β:Type}(P:Program)(own:Bool)(t:TypeId)(v:LV)(k:LV→Option β):Option β:=
 match own with
 |true=>opt (fG v) fun xs=>k (.osl xs)
 |false=>hZ P t v fun c=>k (.cv c)
def d5 {β:Type}(P:Program):List TypeId→List LV→(List LV→Option β)→Option β
 |[],vs,k=>opt (aS vs) fun _=>k []
 |t::ts,vs,k=>opt (aB vs) fun q=>iR P false t q.1 fun x=>d5 P ts q.2 fun r=>k (x::r)
def dv {β:Type}(P:Program)(own:Bool)(t:TypeId)(v:LV)(k:LV→Option β):Option β:=
 match P.underlying t with
 |some (.tuple ts)=>opt (aX v) fun xs=>d5 P ts.toList xs fun xs=>k (.ltup xs)
 |_=>iR P own t v k
def mK (op:BinOp)(k:IntKind)(a:Int)(k':IntKind)(b:Int):Option CV:=
 match op with
 | .shl| .shr=>match decide (b<0)with
  |true=>none
  |false=>match op with
   | .shl=>some (.int k (k.wrap (a*2^(min b.toNat k.bits))))
   |_=>some (.int k (a.fdiv (2^(min b.toNat k.bits))))
 |_=>match decide (k=k')with
  |false=>none
  |true=>match op with
   | .add=>some (.int k (k.wrap (a+b)))
   | .sub=>some (.int k (k.wrap (a-b)))
   | .mul=>some (.int k (k.wrap (a*b)))
   | .quo=>match decide (b=0)with|true=>none|false=>some (.int k (k.wrap (a.tdiv b)))
   | .rem=>match decide (b=0)with|true=>none|false=>some (.int k (a.tmod b))
   | .and=>some (.int k (k.wrap (BitVec.ofInt k.bits a &&& BitVec.ofInt k.bits b).toNat))
   | .or=>some (.int k (k.wrap (BitVec.ofInt k.bits a ||| BitVec.ofInt k.bits b).toNat))
   | .xor=>some (.int k (k.wrap (BitVec.ofInt k.bits a ^^^ BitVec.ofInt k.bits b).toNat))
   | .andNot=>some (.int k (k.wrap (BitVec.ofInt k.bits a &&& ~~~BitVec.ofInt k.bits b).toNat))
   | .eql=>some (.bool (decide (a=b)))
   | .neq=>some (.bool (!decide (a=b)))
   | .lss=>some (.bool (decide (a<b)))
   | .leq=>some (.bool (decide (a≤b)))
   | .gtr=>some (.bool (decide (b<a)))
   | .geq=>some (.bool (decide (b≤a)))
   |_=>none
def Bw (op:BinOp)(a b:List UInt8):Option CV:=
 match op with
 | .add=>match bn (a.length+b.length)with|true=>some (.str (a++b))|false=>none
 | .eql=>some (.bool (decide (a=b)))
 | .neq=>some (.bool (!decide (a=b)))
 | .lss=>some (.bool (Op.bytesLess a b))
 | .leq=>some (.bool (Op.bytesLess a b||decide (a=b)))
 | .gtr=>some (.bool (!(Op.bytesLess a b||decide (a=b))))
 | .geq=>some (.bool (!Op.bytesLess a b))
 |_=>none
def zT:CV→CV→Option Bool
 | .v (.int k a),.v (.int k' b)=>match decide (k=k')with|true=>some (decide (a=b))|false=>none
 | .v (.bool a),.v (.bool b)=>some (a == b)
 | .v (.string a),.v (.string b)=>some (decide (a.data.toList=b.data.toList))
 |_,_=>none
def ol:List CV→List CV→Option Bool
 |[],[]=>some true
 |a::as,b::bs=>opt (zT a b) fun x=>opt (ol as bs) fun y=>some (x&&y)
 |_,_=>none
def tA (P:Program)(t:TypeId):Option (List TypeDesc):=
 match P.underlying t with
 |some (.struct fs)=>
  match (fs.toList.zipIdx.all fun q => q.1.offset == q.2 && q.1.name != "_" &&
    (match P.underlying q.1.type with|some (.int _)=>true|some .bool=>true|some .string=>true|_=>false))&& !P.stoodInHeld t&& !P.eqGuardType P.depth t with
  |true=>some (fs.toList.map fun f=>(P.underlying f.type).getD .invalid)
  |false=>none
 |_=>none
def vF:TypeDesc→CV→Bool
 | .int k,.v (.int k' _)=>decide (k=k')
 | .bool,.v (.bool _)=>true
 | .string,.v (.string _)=>true
 |_,_=>false
def io:List TypeDesc→List CV→Bool
 |[],[]=>true
 |d::ds,c::cs=>vF d c&&io ds cs
 |_,_=>false
def oz:LV→Option Bool
 | .cv (.v (.pointer none))=>some true
 | .cv (.view _)=>some false
 | .cv (.ref _ _ _)=>some false
 | .cv (.clo _ _)=>some false
 | .cv (.iface _ _)=>some false
 | .loc _ _=>some false
 | .lclo _ _=>some false
 | .tloc _ _ _=>some false
 | .cv (.tref _ _ _ _)=>some false
 |_=>none
def sQ:CV→CV
 | .tref lev i _ _=> .ref lev i 0
 |c=>c
def oT:LV→LV
 | .tloc i _ _=> .loc i 0
 | .cv c=> .cv (sQ c)
 |x=>x
def q7 (typed:Bool)(i:Nat)(t:TypeId)(n:Nat):LV:=match typed with|true=> .tloc i t n|false=> .loc i 0
def J8:LV→Option Bool
 | .cv (.v (.pointer none))=>some true
 | .cv (.view _)=>some false
 | .cv (.ref _ _ _)=>some false
 | .loc _ _=>some false
 |_=>none
def yZ:LV→Option Bool
 | .cv (.v .nilIface)=>some true
 | .cv (.iface _ _)=>some false
 |_=>none
def NG:LV→Option Bool
 | .cv (.v (.slice none 0 0))=>some true
 | .cv (.sl (_::_))=>some false
 | .osl (_::_)=>some false
 |_=>none
def rF (d:TypeDesc)(c:Value)(a:LV):Option Bool:=
 match d,c with
 | .pointer _,.pointer none=>J8 a
 | .interface _,.nilIface=>yZ a
 | .slice _,.slice none 0 0=>NG a
 |_,_=>none
def jh:Operand→Option Value
 | .const c=>some c
 |_=>none
def pB (P:Program)(op:BinOp)(t:TypeId)(x y:Operand)(a b:LV):Option CV:=
 match a,b with
 | .cv (.v (.int k m)),.cv (.v (.int k' n))=>mK op k m k' n
 | .cv (.v (.string m)),.cv (.v (.string n))=>Bw op m.data.toList n.data.toList
 | .cv (.v (.bool m)),.cv (.v (.bool n))=>match op,P.underlying t with
  | .eql,some .bool=>some (.bool (m == n))
  | .neq,some .bool=>some (.bool (!(m == n)))
  |_,_=>none
 | .cv (.agg m),.cv (.agg n)=>
  opt (tA P t) fun ds => ay (io ds m) (ay (io ds n) (opt (ol m n) fun r => match op with
  | .eql=>some (.bool r)
  | .neq=>some (.bool (!r))
  |_=>none))
 |a,b=>opt (P.underlying t) fun d=>
  let go (r:Bool):Option CV:=match op with
   | .eql=>some (.bool r)
   | .neq=>some (.bool (!r))
   |_=>none
  match jh y with
  |some c=>opt (rF d c a) go
  |none=>opt (jh x) fun c=>opt (rF d c b) go
def uF (op:BinOp)(k:IntKind)(a:Int)(k':IntKind)(b:Int):Option CV:=
 match op with
 | .shl=>some (.int k (k.wrap (a*2^(min b.toNat k.bits))))
 | .shr=>some (.int k (a.fdiv (2^(min b.toNat k.bits))))
 |_=>match decide (k=k')with
  |false=>none
  |true=>match op with
   | .quo=>some (.int k (k.wrap (a.tdiv b)))
   | .rem=>some (.int k (a.tmod b))
   |_=>mK op k a k' b
def xf:Operand→Option Value
 | .const .nilIface=>some .nilIface
 | .const (.pointer none)=>some (.pointer none)
 | .const (.slice none 0 0)=>some (.slice none 0 0)
 |_=>none
def FJ (op:BinOp)(r:Bool):Option CV:=
 match op with
 | .eql=>some (.bool r)
 | .neq=>some (.bool (!r))
 |_=>none
def kC (op:BinOp)(a b:LV):Bool:=
 match a,b with
 | .cv (.v (.int _ _)),.cv (.v (.int _ n))=>match op with
  | .quo=> !decide (n=0)
  | .rem=> !decide (n=0)
  | .shl=> !decide (n<0)
  | .shr=> !decide (n<0)
  |_=>true
 | .cv (.v (.string m)),.cv (.v (.string n))=>match op with
  | .add=>bn (m.data.toList.length+n.data.toList.length)
  |_=>true
 |_,_=>true
def vk (P:Program)(op:BinOp)(t:TypeId)(x y:Operand)(a b:LV):Option CV:=
 match a,b with
 | .cv (.v (.int k m)),.cv (.v (.int k' n))=>uF op k m k' n
 | .cv (.v (.string m)),.cv (.v (.string n))=>match op with
  | .add=>some (.str (m.data.toList++n.data.toList))
  |_=>Bw op m.data.toList n.data.toList
 |a,b=>pB P op t x y a b
def EH (x y:Operand)(a b:LV):Option (Value×LV):=
 match xf y with
 |some c=>some (c,a)
 |none=>match jh y with
  |some _=>none
  |none=>match xf x with
   |some c=>some (c,b)
   |none=>none
def nM {β:Type}(P:Program)(op:BinOp)(t:TypeId)(x y:Operand)(a b:LV)(f:CV→Option β):Option β:=
 match EH x y a b with
 |some q=>opt (P.underlying t) fun d=>opt (rF d q.1 q.2) fun r=>opt (FJ op r) f
 |none=>ay (kC op a b) (opt (vk P op t x y a b) f)
theorem Jv {op:BinOp}{k k':IntKind}{a b:Int}{c:CV}(hg:kC op (.cv (.v (.int k a))) (.cv (.v (.int k' b)))=true)(h:uF op k a k' b=some c):mK op k a k' b=some c:=by
 cases op
 case shl=>simp only[kC,Bool.not_eq_true']at hg;simp only[uF]at h;simp only[mK,hg];exact h
 case shr=>simp only[kC,Bool.not_eq_true']at hg;simp only[uF]at h;simp only[mK,hg];exact h
 case quo=>
  simp only[kC,Bool.not_eq_true']at hg
  simp only[uF]at h
  simp only[mK,hg]
  exact h
 case rem=>
  simp only[kC,Bool.not_eq_true']at hg
  simp only[uF]at h
  simp only[mK,hg]
  exact h
 all_goals
  simp only[uF]at h
  split at h
  ·cases h
  ·exact h
theorem Fw {P:Program}{op:BinOp}{t:TypeId}{x y:Operand}{a b:LV}{c:CV}(hg:kC op a b=true)(h:vk P op t x y a b=some c):pB P op t x y a b=some c:=by
 unfold vk at h
 split at h
 ·exact Jv hg h
 ·split at h
  ·simp only[kC]at hg
   simp only[pB,Bw,hg]
   exact h
  ·exact h
 ·exact h
theorem vR {x:Operand}{c:Value}(h:xf x=some c):x= .const c∧(c= .nilIface∨c= .pointer none∨c= .slice none 0 0):=by
 unfold xf at h
 split at h<;>first|(cases h;done)|(simp only[Option.some.injEq]at h;subst h;exact⟨rfl,by simp⟩)
theorem In {β:Type}{P:Program}{op:BinOp}{t:TypeId}{x y:Operand}{a b:LV}{f:CV→Option β}{r:β}(hx: ∀v,x= .const v→a=f9 v)(hy: ∀v,y= .const v→b=f9 v)(h:nM P op t x y a b f=some r):
  ∃c,pB P op t x y a b=some c∧f c=some r:=by
 have key: ∀{n:Value} {l:LV},(opt (P.underlying t) fun d=>opt (rF d n l) fun r=>opt (FJ op r) f)=some r→ ∃c,(opt (P.underlying t) fun d=>opt (rF d n l) (FJ op))=some c∧f c=some r:=by
  intro n l h
  cases hu:P.underlying t with
  |none=>rw[hu]at h;cases h
  |some d=>
   rw[hu]at h
   simp only[opt]at h ⊢
   cases hn:rF d n l with
   |none=>rw[hn]at h;cases h
   |some b=>
    rw[hn]at h
    simp only at h ⊢
    cases he:FJ op b with
    |none=>rw[he]at h;cases h
    |some c=>rw[he]at h;exact⟨c,rfl,h⟩
 unfold nM EH at h
 cases hny:xf y with
 |some n=>
  rw[hny]at h
  obtain⟨rfl,hc⟩:=vR hny
  have hb:=hy n rfl
  subst hb
  obtain⟨c,h1,h2⟩:=key h
  refine⟨c,?_,h2⟩
  unfold pB
  split
  ·rename_i e;rcases hc with rfl|rfl|rfl<;>simp[f9]at e
  ·rename_i e;rcases hc with rfl|rfl|rfl<;>simp[f9]at e
  ·rename_i e;rcases hc with rfl|rfl|rfl<;>simp[f9]at e
  ·rename_i e;rcases hc with rfl|rfl|rfl<;>simp[f9]at e
  ·simp only[jh]
   exact h1
 |none=>
  rw[hny]at h
  have plain:ay (kC op a b) (opt (vk P op t x y a b) f)=some r→ ∃c,pB P op t x y a b=some c∧f c=some r:=by
   intro h
   unfold ay at h
   cases hg:kC op a b with
   |false=>rw[hg]at h;cases h
   |true=>
    rw[hg]at h
    simp only[cond_true]at h
    cases hb:vk P op t x y a b with
    |none=>rw[hb]at h;cases h
    |some c=>rw[hb]at h;exact⟨c,Fw hg hb,h⟩
  cases hcy:jh y with
  |some cy=>rw[hcy]at h;exact plain h
  |none=>
   rw[hcy]at h
   cases hnx:xf x with
   |none=>rw[hnx]at h;exact plain h
   |some n=>
    rw[hnx]at h
    obtain⟨rfl,hc⟩:=vR hnx
    have ha:=hx n rfl
    subst ha
    obtain⟨c,h1,h2⟩:=key h
    refine⟨c,?_,h2⟩
    unfold pB
    split
    ·rename_i e;rcases hc with rfl|rfl|rfl<;>simp[f9]at e
    ·rename_i e;rcases hc with rfl|rfl|rfl<;>simp[f9]at e
    ·rename_i e;rcases hc with rfl|rfl|rfl<;>simp[f9]at e
    ·rename_i e;rcases hc with rfl|rfl|rfl<;>simp[f9]at e
    ·rw[hcy]
     simp only[jh,opt]
     exact h1
def unA (op:UnOp):LV→Option CV
 | .cv (.v (.bool b))=>match op with| .not=>some (.bool (!b))|_=>none
 | .cv (.v (.int k n))=>match op with
  | .neg=>some (.int k (k.wrap (0-n)))
  | .xor=>some (.int k (k.wrap (BitVec.ofInt k.bits (if k.signed then -1 else k.max) ^^^ BitVec.ofInt k.bits n).toNat))
  |_=>none
 |_=>none
def vY (t:Bool)(a b:LV):LV:=
 match a,b with
 | .cv (.v (.bool x)),.cv (.v (.bool y))=> .cv (.v (.bool (cond t x y)))
 |a,b=>match t with|true=>a|false=>b
def bo (l:List UInt8)(i:Int):Option UInt8:=match decide (0≤i)with|true=>l[i.toNat]? |false=>none
def bZ (xs:List CV)(i:Int):Option CV:=match decide (0≤i)with|true=>xs[i.toNat]? |false=>none
def di {α:Type}(xs:List α)(lo hi:Int):Option (List α):=
 match decide (0≤lo)&&decide (lo≤hi)&&decide (hi≤(xs.length:Int))with
 |true=>some ((xs.drop lo.toNat).take (hi-lo).toNat)
 |false=>none
def bi:List CV→Option (List UInt8)
 |[]=>some []
 | .v (.int .u8 n)::r=>match decide (0≤n)&&decide (n<256)with
  |true=>opt (bi r) fun l=>some (UInt8.ofNat n.toNat::l)
  |false=>none
 |_::_=>none
def noB:CV→Bool
 | .v (.int .u8 _)=>false
 |_=>true
def lj:List CV→Bool
 |[]=>true
 |y::_=>noB y
def NF:LV→Option Int
 | .cv (.sl xs)=>some (xs.length:Int)
 | .cv (.v (.slice none 0 0))=>some 0
 | .osl xs=>some (xs.length:Int)
 | .lsl _ _ len=>some (len:Int)
 | .cv (.msl _ _ _ len)=>some (len:Int)
 |_=>none
def F2 (P:Program)(t:TypeId)(x:LV):Option Int:=
 match P.underlying t with
 |some .string=>opt (aN x) fun l=>some (l.length:Int)
 |some (.slice _)=>NF x
 |_=>none
def zeroCells (P:Program)(t:TypeId):Option (List CV):=
 match P.info? t with
 |some i=>match i.zero with
  |some z=>match z with
   | .agg cs=>some (cs.toList.map .v)
   |x=>some [.v x]
  |none=>none
 |none=>none
def cL (P:Program)(t:TypeId):Option Nat:=match P.info? t with|some i=>some i.size|none=>none
def me (P:Program)(t:TypeId):Bool:=match P.info? t with|some i=>Nat.ble i.bytes 128&&Nat.ble 1 i.size|none=>false
def cP {α:Type}:List α→Nat→List α→List α
 |cs,_,[]=>cs
 |cs,off,v::r=>cP (cs.set off v) (off+1) r
def lU (place:Nat→Option (Nat×Nat)):List CV→List (Nat×CV)→Option (List CV)
 |cs,[]=>some cs
 |cs,(i,c)::r=>
  match place i with
  |none=>none
  |some q=>match Nat.beq c.cells.length q.2&&Nat.ble (q.1+q.2) cs.length with
   |true=>lU place (cP cs q.1 c.cells) r
   |false=>none
def iN (P:Program):List Field→Option (List (Nat×Nat))
 |[]=>some []
 |f::r=>opt (cL P f.type) fun n=>opt (iN P r) fun l=>some ((f.offset,n)::l)
def dq (ev:Operand→LV):List (Nat×Operand)→Option (List (Nat×CV))
 |[]=>some []
 |q::r=>opt (d8 (ev q.2)) fun c=>ay (gG c) (opt (dq ev r) fun l=>some ((q.1,c)::l))
def zN (P:Program)(t:TypeId)(parts:List (Nat×CV)):Option CV:=
 opt (zeroCells P t) fun z=>
 match P.underlying t with
 |some (.struct fs)=>opt (iN P fs.toList) fun pl=>opt (lU (fun i=>pl[i]?) z parts) fun cs=>some (.agg cs)
 |some (.array _ e)=>opt (cL P e) fun n=>opt (lU (fun i=>some (i*n,n)) z parts) fun cs=>some (.agg cs)
 |_=>none
def uI (sz:Nat):Nat→List (Nat×CV)→Option (List CV)
 |_,[]=>some []
 |n,(i,c)::r=>match Nat.beq i n&&Nat.beq c.cells.length sz with
  |true=>opt (uI sz (n+1) r) fun l=>some (c::l)
  |false=>none
def ke (P:Program)(s:TypeId)(f:Nat):Option (Nat×TypeId):=
 match P.underlying s with
 |some (.struct fs)=>match fs[f]? with
  |some f=>match cL P f.type with
   |some (_+1)=>some (f.offset,f.type)
   |_=>none
  |none=>none
 |_=>none
def gf (P:Program)(t:TypeId)(cs:List CV)(off:Nat):Option CV:=
 match ef P t with
 |true=>opt (cL P t) fun n=>match Nat.ble (off+n) cs.length with
  |true=>some (.agg ((cs.drop off).take n))
  |false=>none
 |false=>cs[off]?
def oM (P:Program)(t:TypeId)(cs:List CV)(off:Nat):Option CV:=opt (P.underlying t) fun _=>gf P t cs off
def fg (sz:Nat)(c:CV):Bool:=Nat.beq c.cells.length sz&&gG c
def gD (sz:Nat):List CV→Bool
 |[]=>true
 |c::r=>match fg sz c with|true=>gD sz r|false=>false
def qb:List LV→Option (List CV)
 |[]=>some []
 |x::r=>opt (d8 x) fun c=>opt (qb r) fun l=>some (c::l)
def bb (μ:Mu)(lev i:Nat):Ob:=
 match μ[lev]? with
 |some l=>match l[i]? with|some o=>o|none=> .dead
 |none=> .dead
def aG (l:Lam)(i:Nat):Ob:=match l[i]? with|some o=>o|none=> .dead
def ci (μ:Mu)(lev i:Nat)(o:Ob):Mu:=
 match μ[lev]? with
 |some l=>μ.set lev (l.set i o)
 |none=>μ
def oG (P:Program)(t:TypeId)(o:Ob)(off:Nat):Option LV:=
 match o with
 | .cells cs=>match ef P t with
  |true=>opt (cL P t) fun n=>match Nat.ble (off+n) cs.length with
   |true=>opt (qb ((cs.drop off).take n)) fun l=>some (.cv (.agg l))
   |false=>none
  |false=>match cs[off]? with
   |some x=>some (strip x)
   |none=>none
 | .arr _ cs=>opt (gf P t cs off) fun c=>some (.cv c)
 | .dead=>none
 | .map _ _=>none
def bH (P:Program)(t:TypeId)(o:Ob)(off:Nat):Option LV:=opt (P.underlying t) fun _=>oG P t o off
def lp (P:Program)(t:TypeId)(o:Ob)(off:Nat):Option (LV×Ob):=opt (P.underlying t) fun _=>
 match ef P t with
 |true=>none
 |false=>match o with
  | .cells cs=>match cs[off]? with
   |some x=>some (x,.cells (cs.set off (strip x)))
   |none=>none
  |_=>none
def bP (P:Program)(t:TypeId)(o:Ob)(off:Nat)(v:LV):Option Ob:=
 match o with
 | .cells cs=>opt v.cells fun vs=>opt (cL P t) fun n=>match Nat.beq vs.length n&&Nat.ble (off+n) cs.length with
  |true=>some (.cells (cP cs off vs))
  |false=>none
 | .arr sz cs=>opt (d8 v) fun c=>opt (cL P t) fun n=>match fg n c&&Nat.ble (off+n) cs.length with
  |true=>some (.arr sz (cP cs off c.cells))
  |false=>none
 | .dead=>none
 | .map _ _=>none
mutual
def below (n:Nat):CV→Bool
 | .undef=>true
 | .v _=>true
 | .agg cs=>ck n cs
 | .sl cs=>ck n cs
 | .view cs=>ck n cs
 | .ref lev _ _=>decide (lev<n)
 | .msl lev _ _ _=>decide (lev<n)
 | .clo _ cs=>ck n cs
 | .iface _ c=>below n c
 | .mview _ vs=>ck n vs
 | .mref lev _=>decide (lev<n)
 | .tref lev _ _ _=>decide (lev<n)
def ck (n:Nat):List CV→Bool
 |[]=>true
 |c::r=>match below n c with|true=>ck n r|false=>false
end
def xi (lev:Nat):LV→Bool
 | .cv c=>below (lev+1) c
 | .osl xs=>ck (lev+1) xs
 |_=>false
def nG (L:Nat):LV→Option CV
 | .cv c=>some c
 | .osl xs=>some (.sl xs)
 | .loc i off=>some (.ref L i off)
 | .lsl i off len=>some (.msl L i off len)
 | .mloc i=>some (.mref L i)
 | .tloc i t n=>some (.tref L i t n)
 |_=>none
def jY (L:Nat):List LV→Option (List CV)
 |[]=>some []
 |x::r=>opt (nG L x) fun c=>opt (jY L r) fun l=>some (c::l)
def sO (L:Nat):LV→Option LV
 | .osl xs=>some (.osl xs)
 | .lclo f caps=>opt (jY L caps) fun cs=>some (.cv (.clo f cs))
 |x=>opt (nG L x) fun c=>some (.cv c)
def fw (L:Nat):List LV→Option (List LV)
 |[]=>some []
 |x::r=>opt (sO L x) fun c=>opt (fw L r) fun l=>some (c::l)
def dM (L:Nat):Lam→Option Lam
 |[]=>some []
 | .dead::r=>opt (dM L r) fun l=>some (.dead::l)
 | .arr sz cs::r=>opt (dM L r) fun l=>some (.arr sz cs::l)
 | .map ks vs::r=>opt (dM L r) fun l=>some (.map ks vs::l)
 | .cells cs::r=>opt (fw L cs) fun cs=>opt (dM L r) fun l=>some (.cells cs::l)
def g0:LV→Bool
 | .cv _=>true
 | .osl _=>true
 |_=>false
def fk:List LV→Bool
 |[]=>true
 |x::r=>match g0 x with|true=>fk r|false=>false
def ov:LV→Bool
 | .cv _=>true
 | .osl _=>true
 | .ltup xs=>fk xs
 |_=>false
def lf (n:Nat):LV→Bool
 | .cv c=>below n c
 | .osl xs=>ck n xs
 |_=>false
def fq (n:Nat):LV→Bool
 | .ltup xs=>xs.all (lf n)
 |x=>lf n x
structure Rho where
 call:FuncId→List LV→Mu→Option Out
 loop:Hints→List (Nat×Nat)→Code→S→Mu→Option St
 seg:Hints→List (Nat×Nat)→Code→S→Mu→Option St
 dcall:FuncId→Option CV→List LV→Mu→Option Mu
section
variable (P:Program)(ρ:Rho)
variable {α:Type}
def callK (r:Option Out)(k:LV→Mu→Option α)(p:CV→Mu→Option α):Option α:=
 opt r fun
  | .ret v μ=>k v μ
  | .panic v μ=>p v μ
def iu (μ:Mu):Option (Mu×Lam):=match μ.reverse with|l::r=>some (r.reverse,l)|[]=>none
def kf:LV→Option (List CV)
 | .cv (.view cs)=>some cs
 |_=>none
def oy:LV→Option (Nat×Nat×Nat)
 | .cv (.ref lev i off)=>some (lev,i,off)
 |_=>none
def Aw:LV→Option (Nat×Nat×Nat×Nat)
 | .cv (.msl lev i off len)=>some (lev,i,off,len)
 |_=>none
def js {β:Type}(P:Program)(b:Bool)(t:TypeId)(v:LV)(k:LV→Option β):Option β:=match b with|true=>dv P false t v k|false=>k v
def f8 (h:OpHint)(t:TypeId)(a:LV)(s:S)(μ:Mu)(k:LV→S→Mu→Option α):Option α:=
 match a with
 | .loc i off=>match h.outer with
  |true=>none
  |false=>match h.cell with
   |false=>opt (bH P t (aG s.lam i) off) fun v=>js P h.arr t v fun v=>k v s μ
   |true=>opt (lp P t (aG s.lam i) off) fun q=>k q.1 {s with lam:=s.lam.set i q.2} μ
 | .cv _=>match h.outer with
  |false=>opt (kf a) fun cs=>opt (oM P t cs 0) fun c=>k (.cv c) s μ
  |true=>opt (oy a) fun q=>match h.cell with
   |false=>opt (bH P t (bb μ q.1 q.2.1) q.2.2) fun v=>dv P false t v fun v=>k v s μ
   |true=>opt (lp P t (bb μ q.1 q.2.1) q.2.2) fun r=>dv P true t r.1 fun v=>k v s (ci μ q.1 q.2.1 r.2)
 |_=>none
def uN (t:TypeId)(o:Ob)(off:Nat)(v:LV)(k:Ob→Option α):Option α:=
 match o with
 | .arr sz cs=>opt (d8 v) fun c=>opt (cL P t) fun n=>ay (fg n c&&Nat.ble (off+n) cs.length) (k (.arr sz (cP cs off c.cells)))
 |o=>opt (bP P t o off v) k
def gp (h:OpHint)(t:TypeId)(a v:LV)(s:S)(μ:Mu)(k:LV→S→Mu→Option α):Option α:=
 match a with
 | .loc i off=>match h.outer with
  |true=>none
  |false=>uN P t (aG s.lam i) off v fun o=>k (.cv .undef) {s with lam:=s.lam.set i o} μ
 | .cv _=>match h.outer with
  |false=>none
  |true=>opt (oy a) fun q=>ay (xi q.1 v) (opt (bP P t (bb μ q.1 q.2.1) q.2.2 v) fun o=>k (.cv .undef) s (ci μ q.1 q.2.1 o))
 |_=>none
def eB (h:OpHint)(s:TypeId)(a:LV)(f:Nat)(k:LV→Option α):Option α:=
 opt (ke P s f) fun q=>match a with
 | .loc i off=>k (.loc i (off+q.1))
 | .cv _=>match h.outer with
  |false=>opt (kf a) fun cs=>fc (yT P 8 s) cs fun cs=>ay (Nat.ble q.1 cs.length) (k (.cv (.view (cs.drop q.1))))
  |true=>opt (oy a) fun r=>k (.cv (.ref r.1 r.2.1 (r.2.2+q.1)))
 |_=>none
def At (s:TypeId)(x:LV)(f:Nat):Option LV:=
 opt (ke P s f) fun q=>opt (li x) fun cs=>opt (oM P q.2 cs q.1) fun c=>some (.cv c)
def en (i:Int)(len:Nat):Bool:=decide (0≤i)&&decide (i<(len:Int))
def eD (h:OpHint)(t:TypeId)(x:LV)(i:Int)(k:LV→Option α):Option α:=
 match P.underlying t with
 |some (.slice e)=>opt (cL P e) fun n=>match x with
  | .lsl id off len=>ay (en i len) (k (.loc id (off+i.toNat*n)))
  | .osl xs=>opt (bZ xs i) fun c=>fO P e c fun c=>ay (Nat.beq c.cells.length n) (k (.cv (.view c.cells)))
  | .cv _=>match h.outer with
   |false=>opt (cF x) fun xs=>opt (bZ xs i) fun c=>fO P e c fun c=>ay (Nat.beq c.cells.length n) (k (.cv (.view c.cells)))
   |true=>opt (Aw x) fun q=>ay (en i q.2.2.2) (k (.cv (.ref q.1 q.2.1 (q.2.2.1+i.toNat*n))))
  |_=>none
 |some (.array len e)=>opt (cL P e) fun n=>match x with
  | .loc id off=>ay (en i len) (k (.loc id (off+i.toNat*n)))
  | .cv _=>match h.outer with
   |false=>opt (kf x) fun cs=>ay (en i len) (ay (Nat.ble (i.toNat*n) cs.length) (k (.cv (.view (cs.drop (i.toNat*n))))))
   |true=>opt (oy x) fun q=>ay (en i len) (k (.cv (.ref q.1 q.2.1 (q.2.2+i.toNat*n))))
  |_=>none
 |_=>none
def jG (t:TypeId)(x:LV)(i:Int)(k:LV→Option α):Option α:=
 match P.underlying t with
 |some .string=>opt (aN x) fun l=>opt (bo l i) fun b=>k (.cv (.v (.int .u8 (b.toNat:Int))))
 |some (.array len e)=>match x with
  | .cv _=>opt (li x) fun cs=>opt (cL P e) fun n=>ay (en i len) (opt (oM P e cs (i.toNat*n)) fun c=>fO P e c fun c=>k (.cv c))
  |_=>none
 |_=>none
def lc:LV→Option Int
 | .cv (.v (.int _ n))=>some n
 |_=>none
def db (ev:Operand→LV)(x:Option Operand)(d:Int)(k:Int→Option α):Option α:=
 match x with
 |none=>k d
 |some x=>opt (lc (ev x)) k
def oJ (n:Nat)(a:Int)(xs:List CV):Bool:=match decide (a=0)with|true=>true|false=>gD n xs
def gm (t:TypeId)(x:LV)(lo hi:Option Operand)(ev:Operand→LV)(k:LV→Option α):Option α:=
 match P.underlying t with
 |some .string=>opt (aN x) fun l=>db ev lo 0 fun a=>db ev hi (l.length:Int) fun b=>opt (di l a b) fun r=>k (.cv (.v (.string ⟨⟨r⟩⟩)))
 |some (.slice e)=>opt (cL P e) fun n=>match x with
  | .cv _=>opt (cF x) fun xs=>db ev lo 0 fun a=>db ev hi (xs.length:Int) fun b=>ay (oJ n a xs) (opt (di xs a b) fun r=>k (.cv (.sl r)))
  | .osl xs=>db ev lo 0 fun a=>db ev hi (xs.length:Int) fun b=>ay (oJ n a xs) (opt (di xs a b) fun r=>k (.cv (.sl r)))
  | .lsl id off len=>db ev lo 0 fun a=>db ev hi (len:Int) fun b=>
   ay (decide (a=0)&&decide (0≤b)&&decide (b≤(len:Int))) (k (.lsl id off b.toNat))
  |_=>none
 |_=>none
def jC (isAgg:Bool)(sz:Nat):Nat→List CV→List CV
 |0,_=>[]
 |n+1,cs=>(match isAgg with|false=>cs.headD .undef|true=> .agg (cs.take sz))::jC isAgg sz n (cs.drop sz)
def gE (sz:Nat)(xs ys:List CV):Bool:=bn (xs.length+ys.length)&&gD sz xs&&gD sz ys
def eY (h:OpHint)(t:TypeId)(xt:Option TypeId)(x y:LV)(s:S)(μ:Mu)(k:LV→S→Mu→Option α):Option α:=
 match P.underlying t with
 | some (.slice e) => opt (cL P e) fun sz => ay (me P e) (opt (zeroCells P e) fun z => ay (Nat.beq z.length sz) (match xt with
  |none=>none
  |some xt=>opt (fG x) fun xs=>match P.underlying xt with
   |some .string=>opt (aN y) fun l=>ay (Nat.beq e 5&&(Nat.beq sz 1&&bn (xs.length+l.length)&&gD 1 xs)) (k (.osl (xs++l.map fun b=> .v (.int .u8 (b.toNat:Int)))) s μ)
   |some (.slice _)=>opt (cF y) fun ys=>ay ((Nat.beq e 5||lj ys)&&gE sz xs ys) (k (.osl (xs++ys)) s μ)
   |_=>none))
 |_=>none
def cV (h:OpHint)(src dst:TypeId)(x:LV)(s:S)(μ:Mu)(k:LV→S→Mu→Option α):Option α:=
 match P.underlying dst with
 |some (.int ik)=>match P.underlying src with
  |some (.int _)=>opt (lc x) fun n=>k (.cv (.v (.int ik (ik.wrap n)))) s μ
  |_=>none
 |some .string=>match P.underlying src with
  |some .string=>opt (aN x) fun l=>k (.cv (.v (.string ⟨⟨l⟩⟩))) s μ
  |some (.slice e)=>match P.underlying e with
   |some (.int .u8)=>match x with
    | .lsl id off len=>match aG s.lam id with
     | .arr _ cs=>ay (Nat.ble (off+len) cs.length) (opt (bi ((cs.drop off).take len)) fun l=>k (.cv (.v (.string ⟨⟨l⟩⟩))) s μ)
     |_=>none
    |_=>opt (cF x) fun xs=>opt (bi xs) fun l=>k (.cv (.v (.string ⟨⟨l⟩⟩))) s μ
   |_=>none
  |_=>none
 |some (.slice e)=>match P.underlying src with
  |some .string=>match P.underlying e with
   | some (.int .u8) => opt (aN x) fun l => ay (bn l.length) (match h.arr with
    |true=>k (.lsl s.lam.length 0 l.length) {s with lam:=s.lam++[.arr 1 (l.map fun b=> .v (.int .u8 (b.toNat:Int)))]} μ
    |false=>k (.cv (.sl (l.map fun b=> .v (.int .u8 (b.toNat:Int))))) s μ)
   |_=>none
  |_=>none
 |_=>none
def wZ (t:Nat)(s:S):Option S:=
 match s.fr t with
 | .loc i off=>match decide (off=0)with
  |true=>match aG s.lam i with
   | .cells cs=>opt (qb cs) fun l=>some {s with fr:=upd s.fr t (.cv (.view l)),lam:=s.lam.set i .dead}
   |_=>none
  |false=>none
 | .mloc i=>match aG s.lam i with
  | .map ks vs=>some {s with fr:=upd s.fr t (.cv (.mview ks vs)),lam:=s.lam.set i .dead}
  |_=>none
 |_=>none
def ow:List Nat→S→Option S
 |[],s=>some s
 |t::r,s=>opt (wZ t s) fun s=>ow r s
def rl (t:Nat)(e:TypeId)(s:S):Option S:=
 match s.fr t with
 | .lsl i off len=>match decide (off=0)with
  |true=>match aG s.lam i with
   | .arr sz cs=>opt (cL P e) fun n=>ay (Nat.beq sz n) (ay ((ef P e||(Nat.beq n 1&&gn cs))&&Nat.ble (len*n) cs.length) (some {s with fr:=upd s.fr t (.cv (.sl (jC (ef P e) n len cs))),lam:=s.lam.set i .dead}))
   |_=>none
  |false=>none
 |_=>none
def jE:List (Nat×TypeId)→S→Option S
 |[],s=>some s
 |q::r,s=>opt (rl P q.1 q.2 s) fun s=>jE r s
def optE {α β:Type}(x:Option α)(f:α→Option β)(g:Option β):Option β:=match x with|some a=>f a|none=>g
def FW (d:TypeDesc)(v:LV):Option Value:=
 match d with
 | .int k=>opt (aI k v) fun n=>some (.int k n)
 | .string=>opt (aN v) fun l=>some (.string ⟨⟨l⟩⟩)
 | .bool=>opt (aQ v) fun b=>some (.bool b)
 |_=>none
def Az:TypeDesc→Value→Bool
 | .bool,.bool _=>true
 | .int k,.int k' _=>decide (k'=k)
 | .string,.string _=>true
 |_,_=>false
def jK (d:TypeDesc):List Value→Bool
 |[]=>true
 |x::r=>match Az d x with|true=>jK d r|false=>false
def pM:Value→Value→Bool
 | .int _ a,.int _ b=>decide (a=b)
 | .string a,.string b=>decide (a.data.toList=b.data.toList)
 | .bool a,.bool b=>a == b
 |_,_=>false
def jJ:List Value→Value→Option Nat
 |[],_=>none
 |x::r,k=>match pM k x with|true=>some 0|false=>opt (jJ r k) fun n=>some (n+1)
def fI:List Value→List CV→Value→Option CV
 |x::ks,c::vs,k=>match pM k x with|true=>some c|false=>fI ks vs k
 |_,_,_=>none
def kg (ks:List Value)(k:Value):List Value:=match jJ ks k with|some _=>ks|none=>ks++[k]
def kh (ks:List Value)(vs:List CV)(k:Value)(c:CV):List CV:=match jJ ks k with|some i=>vs.set i c|none=>vs++[c]
def wA (P:Program)(t:TypeId):Option CV:=
 match P.info? t with
 |some i=>match i.zero with
  |some z=>match z with
   | .agg cs=>some (.agg (cs.toList.map .v))
   |x=>some (.v x)
  |none=>none
 |none=>none
def yS (P:Program)(t:TypeId):Option (TypeDesc×TypeId):=
 match P.underlying t with
 |some (.map k e)=>opt (P.underlying k) fun d=>some (d,e)
 |_=>none
def gt (t:TypeId)(m x y:LV)(s:S)(μ:Mu)(k:LV→S→Mu→Option α):Option α:=
 opt (yS P t) fun q=>opt (FW q.1 x) fun kv=>opt (d8 y) fun c=>match m with
  | .mloc i=>match aG s.lam i with
   | .map ks vs=>ay (jK q.1 ks) (k (.cv .undef) {s with lam:=s.lam.set i (.map (kg ks kv) (kh ks vs kv c))} μ)
   |_=>none
  | .cv (.mref lev i)=>match bb μ lev i with
   | .map ks vs=>ay (jK q.1 ks&&below (lev+1) c) (k (.cv .undef) s (ci μ lev i (.map (kg ks kv) (kh ks vs kv c))))
   |_=>none
  |_=>none
def sC (m:LV)(s:S)(μ:Mu):Option (List Value×List CV):=
 match m with
 | .cv (.mview ks vs)=>some (ks,vs)
 | .cv (.v (.map none))=>some ([],[])
 | .mloc i=>match aG s.lam i with| .map ks vs=>some (ks,vs)|_=>none
 | .cv (.mref lev i)=>match bb μ lev i with| .map ks vs=>some (ks,vs)|_=>none
 |_=>none
def ip (t:TypeId)(m x:LV)(ok:Bool)(s:S)(μ:Mu)(k:LV→Option α):Option α:=
 opt (yS P t) fun q => opt (FW q.1 x) fun kv => opt (sC m s μ) fun p => ay (jK q.1 p.1) (
  optE (fI p.1 p.2 kv)
   (fun c=>fO P q.2 c fun c=>match ok with|true=>k (.ltup [.cv c,.cv (.v (.bool true))])|false=>k (.cv c))
   (opt (wA P q.2) fun z=>match ok with|true=>k (.ltup [.cv z,.cv (.v (.bool false))])|false=>k (.cv z)))
def ii (x:LV)(t:TypeId)(ok:Bool)(k:LV→Option α):Option α:=
 match P.underlying t with
 |some (.interface _)=>none
 |some _=>match ok with
  |false=>none
  |true=>opt (wA P t) fun z=>match x with
   | .cv (.iface u c)=>match Nat.beq u t with
    |true=>k (.ltup [.cv c,.cv (.v (.bool true))])
    |false=>k (.ltup [.cv z,.cv (.v (.bool false))])
   | .cv (.v .nilIface)=>k (.ltup [.cv z,.cv (.v (.bool false))])
   |_=>none
 |none=>none
def fE (h:OpHint)(t:TypeId)(f:FuncId)(args:List LV)(s:S)(μ:Mu)(k:LV→S→Mu→Option α)(p:CV→S→Mu→Option α):Option α:=
 match h.push with
 | false => ay (!s.pushed && fk args) (
   callK (ρ.call f args μ) (fun v μ=>dv P h.own t v fun v=>k v s μ) (fun v μ=>p v s μ))
 |true=>opt (fw μ.length args) fun args=>opt (dM μ.length s.lam) fun l=>
   callK (ρ.call f args (μ++[l])) (fun v μ=>opt (iu μ) fun q=>dv P h.own t v fun v=>k v {s with lam:=q.2,pushed:=true} q.1)
    (fun v μ=>opt (iu μ) fun q=>p v {s with lam:=q.2,pushed:=true} q.1)
def uK (t:Nat):List Operand→Bool
 |[]=>false
 | .tmp u::r=>match Nat.beq u t with|true=>true|false=>uK t r
 |_::r=>uK t r
def ff:List Operand→Bool
 |[]=>true
 | .tmp t::r=>match uK t r with|true=>false|false=>ff r
 |_::r=>ff r
def cH (h:OpHint)(o:Oper)(s0:S)(μ:Mu)(k:LV→S→Mu→Option α)(p:CV→S→Mu→Option α):Option α:=
 let ev:=evA h s0.fr
 let s:=ac h.take s0
 match o.op with
 | .move x=>k (ev x) s μ
 | .assign x=>k (ev x) s μ
 | .pick c a b=>opt (aQ (ev c)) fun t=>k (vY t (ev a) (ev b)) s μ
 | .alloc e=>opt (zeroCells P e) fun cs=>k (q7 h.cell s.lam.length e cs.length) {s with lam:=s.lam++[.cells (cs.map .cv)]} μ
 | .box e x=>opt (ev x).cells fun cs=>k (.loc s.lam.length 0) {s with lam:=s.lam++[.cells cs]} μ
 | .build t parts=>opt (dq ev parts.toList) fun ps=>opt (zN P t ps) fun c=>k (.cv c) s μ
 | .buildSlice t len parts=>match P.underlying t with
  | some (.slice e) => opt (cL P e) fun sz => ay (me P e) (opt (zeroCells P e) fun _ => opt (dq ev parts.toList) fun ps => opt (uI sz 0 ps) fun xs =>
   ay (Nat.beq xs.length len) (ay ((Nat.beq e 5 || lj xs) && Nat.ble (len * sz) 10000) (match h.arr with
   |false=>k (.osl xs) s μ
   |true=>k (.lsl s.lam.length 0 len) {s with lam:=s.lam++[.arr sz (xs.flatMap CV.cells)]} μ)))
  |_=>none
 | .load t a=>f8 P h t (ev a) s μ k
 | .store t a v=>gp P h t (ev a) (ev v) s μ k
 | .nilCheck x=>opt (oz (ev x)) fun b=>ay (!b) (k (oT (ev x)) s μ)
 | .binOp op t x y _=>nM P op t x y (ev x) (ev y) fun c=>k (.cv c) s μ
 | .unOp op _ x=>opt (unA op (ev x)) fun c=>k (.cv c) s μ
 | .convert src dst x=>cV P h src dst (ev x) s μ k
 | .makeInterface t x=>match P.underlying t with
  |some (.interface _)=>none
  |some _=>opt (d8 (ev x)) fun c=>k (.cv (.iface t c)) s μ
  |none=>none
 | .makeFunc fn first captured=>match fn with
  | .func f=>match first.toList with
   |[]=>k (.lclo f (captured.toList.map fun x=>strip1 (ev x))) s μ
   |_::_=>none
  |_=>none
 | .slice t x lo hi mx=>match mx with
  |none=>gm P t (ev x) lo hi ev fun v=>k v s μ
  |some _=>none
 | .fieldAddr t x f=>eB P h t (ev x) f fun v=>k v s μ
 | .field t x f=>opt (At P t (ev x) f) fun v=>k v s μ
 | .indexAddr t x i=>opt (lc (ev i)) fun i=>eD P h t (ev x) i fun v=>k v s μ
 | .index t x i=>opt (lc (ev i)) fun i=>jG P t (ev x) i fun v=>k v s μ
 | .extract t i=>opt (aX (ev t)) fun xs=>opt (xs[i]?) fun v=>k v s μ
 | .panic x=>match ev x with
  | .cv (.iface t c)=>p (.iface t c) s μ
  |_=>none
 | .typeAssert x _ t ok=>ii P (ev x) t ok fun v=>k v s μ
 | .makeMap _ r=>match r with
  |some _=>none
  |none=>k (.mloc s.lam.length) {s with lam:=s.lam++[.map [] []]} μ
 | .insert t m x y=>gt P t (ev m) (ev x) (ev y) s μ k
 | .mapUpdate t m x y=>gt P t (ev m) (ev x) (ev y) s μ k
 | .lookup t m x ok=>ip P t (ev m) (ev x) ok s μ fun v=>k v s μ
 | .call c=>match c.callee with
  | .builtin b=>match b with
   | .len=>match c.args.toList,c.argTypes.toList with
    |[x],[t]=>opt (F2 P t (ev x)) fun n=>k (.cv (.v (.int .i64 n))) s μ
    |_,_=>none
   | .append=>match c.args.toList,c.argTypes.toList with
    |[x,y],[t,xt]=>eY P h t (some xt) (ev x) (ev y) s μ k
    |_,_=>none
   | .max=>match c.args.toList with
    |[x,y]=>opt (aI .i64 (ev x)) fun a=>opt (aI .i64 (ev y)) fun b=>k (.cv (.v (.int .i64 (max a b)))) s μ
    |_=>none
   | .min=>match c.args.toList with
    |[x,y]=>opt (aI .i64 (ev x)) fun a=>opt (aI .i64 (ev y)) fun b=>k (.cv (.v (.int .i64 (min a b)))) s μ
    |_=>none
   |_=>none
  | .value f => ay (ff c.args.toList) (match ev f with
   | .cv (.clo f caps)=>fE P ρ h o.type f (c.args.toList.map ev++caps.map .cv) s μ k p
   | .lclo f caps=>fE P ρ h o.type f (c.args.toList.map ev++caps) s μ k p
   |_=>none)
  | .invoke _ _=>none
 |_=>none
def opK (h:OpHint)(o:Oper)(s:S)(μ:Mu)(k:LV→S→Mu→Option α)(p:CV→S→Mu→Option α):Option α:=
 opt (ow h.freeze s) fun s=>opt (jE P h.fza s) fun s=>cH P ρ h o s μ k p
def Ju (r i:Nat):List ((Nat×Nat)×OpHint)→OpHint
 |[]=>{}
 |q::l=>match Nat.beq q.1.1 r&&Nat.beq q.1.2 i with|true=>q.2|false=>Ju r i l
def Hints.op (H:Hints)(r i:Nat):OpHint:=Ju r i H.ops
def lS (ops:Array Oper)(j:Nat):Option Nat:=match ops[j]? with|some o=>o.dst|none=>none
def fY:LV→Option (Option Bool)
 | .cv (.v (.bool b))=>some (some b)
 | .cv (.v (.tuple _))=>some none
 |_=>none
def eF (H:Hints)(r:Nat)(ops:Array Oper):List Nat→S→Mu→(S→Mu→Option α)→(CV→S→Mu→Option α)→Option α
 |[],s,μ,k,_=>k s μ
 |i::rest,s,μ,k,p=>match ops[i]? with
  |none=>none
  |some o=>match o.guard with
   |none=>opK P ρ (H.op r i) o s μ (fun v s μ=>eF H r ops rest (s.put o.dst v) μ k p) p
   |some g=>opt (lS ops g.1) fun d=>opt (fY (s.fr d)) fun q=>match q with
    |none=>eF H r ops rest (s.put o.dst (.cv (.v Go.undef))) μ k p
    |some b=>cond b
     (match g.2 with
     |true=>opK P ρ (H.op r i) o (s.set d (.cv (.v (.bool true)))) μ (fun v s μ=>eF H r ops rest (s.put o.dst v) μ k p) p
     |false=>eF H r ops rest ((s.set d (.cv (.v (.bool true)))).put o.dst (.cv (.v Go.undef))) μ k p)
     (match g.2 with
     |false=>opK P ρ (H.op r i) o (s.set d (.cv (.v (.bool false)))) μ (fun v s μ=>eF H r ops rest (s.put o.dst v) μ k p) p
     |true=>eF H r ops rest ((s.set d (.cv (.v (.bool false)))).put o.dst (.cv (.v Go.undef))) μ k p)
inductive Kind where
 |plain
 |rd
 |wr
 |ap
 |look
 |ou
 |all
def aV (h:OpHint)(o:Oper):Kind:=
 match o.op with
 | .load _ _=>match h.outer with
  |true=>match h.cell with|true=> .ou|false=> .look
  |false=>match h.cell with|true=> .wr|false=> .rd
 | .store _ _ _=>match h.outer with|true=> .ou|false=> .wr
 | .alloc _=> .ap
 | .box _ _=> .ap
 | .buildSlice _ _ _=>match h.arr with|true=> .ap|false=> .plain
 | .convert _ _ _=>match h.arr with|true=> .all|false=> .rd
 | .call c=>match c.callee with
  | .builtin _=> .plain
  |_=>match h.push with|true=> .all|false=> .ou
 | .panic _=> .all
 | .typeAssert _ _ _ _=> .all
 | .makeMap _ _=> .all
 | .insert _ _ _ _=> .all
 | .mapUpdate _ _ _ _=> .all
 | .lookup _ _ _ _=> .all
 |_=> .plain
def ew:Kind→Kind→Bool
 | .all,_=>false
 |_,.all=>false
 | .plain,_=>true
 |_,.plain=>true
 | .rd,.rd=>true
 | .rd,.ap=>true
 | .rd,.ou=>true
 | .ou,.rd=>true
 | .wr,.ou=>true
 | .ou,.wr=>true
 | .ap,.ou=>true
 | .ou,.ap=>true
 | .look,.look=>true
 | .look,.rd=>true
 | .rd,.look=>true
 | .look,.wr=>true
 | .wr,.look=>true
 | .look,.ap=>true
 | .ap,.look=>true
 |_,_=>false
def i6 (h:OpHint):Bool:=match h.freeze,h.fza with|[],[]=>true|_,_=>false
def gz (h:OpHint)(o:Oper):List Nat:=match o.dst with|some d=>d::h.take|none=>h.take
def wU:List Nat→List Nat→Bool
 |[],_=>true
 |a::r,l=>match nS l a with|true=>false|false=>wU r l
def sw (H:Hints)(r:Nat)(ops:Array Oper)(j i:Nat):Bool:=
 match ops[j]?,ops[i]? with
 |some x,some y=>wU (gz (H.op r j) x) (y.looksAt ops)&&wU (gz (H.op r j) x) (gz (H.op r i) y)&&wU (gz (H.op r i) y) (x.looksAt ops)&&
  ew (aV (H.op r j) x) (aV (H.op r i) y)
 |_,_=>false
def iv (ops:Array Oper)(i:Nat):List Nat:=
 match ops[i]? with
 |some o=>(o.after.toList.filter (Region.binds .any)).map fun e=>e.on
 |none=>[]
def wh (rows:List (List Nat)):List Nat→List Nat
 |[]=>[]
 |p::r=>p::(rows.getD p []++wh rows r)
def eN (ops:Array Oper):Nat→List (List Nat)
 |0=>[]
 |n+1=>eN ops n++[wh (eN ops n) (iv ops n)]
def zH (f:Nat→Bool):Nat→Bool
 |0=>true
 |n+1=>match f n with|true=>zH f n|false=>false
def ltB (i:Nat):List Nat→Bool
 |[]=>true
 |p::r=>match Nat.blt p i with|true=>ltB i r|false=>false
def Ak (H:Hints)(r:Nat)(ops:Array Oper):Bool:=
 zH (fun i=>ltB i (iv ops i)&&i6 (H.op r i)&&zH (fun j=>nS ((eN ops ops.size).getD i []) j||sw H r ops j i) i) ops.size
end
mutual
def P1:LV→List Nat
 | .loc i _=>[i]
 | .lsl i _ _=>[i]
 | .mloc i=>[i]
 | .tloc i _ _=>[i]
 | .lclo _ caps=>oB caps
 | .ltup xs=>oB xs
 | .cv _=>[]
 | .osl _=>[]
def oB:List LV→List Nat
 |[]=>[]
 |x::r=>P1 x++oB r
end
def nC (l:Lam):Nat→List Nat→List Nat→List Nat
 |0,_,acc=>acc
 |_+1,[],acc=>acc
 |n+1,i::todo,acc=>match nS acc i with
  |true=>nC l n todo acc
  |false=>match aG l i with
   | .cells cs=>nC l n (oB cs++todo) (acc++[i])
   |_=>nC l n todo (acc++[i])
def nu:List Nat→Nat→Nat→Option Nat
 |[],_,_=>none
 |a::r,n,i=>match Nat.beq a i with|true=>some n|false=>nu r (n+1) i
mutual
def eU (m:List Nat):LV→Option LV
 | .cv c=>some (.cv c)
 | .osl xs=>some (.osl xs)
 | .loc i off=>opt (nu m 0 i) fun j=>some (.loc j off)
 | .lsl i off len=>opt (nu m 0 i) fun j=>some (.lsl j off len)
 | .mloc i=>opt (nu m 0 i) fun j=>some (.mloc j)
 | .tloc i t n=>opt (nu m 0 i) fun j=>some (.tloc j t n)
 | .lclo f caps=>opt (dZ m caps) fun l=>some (.lclo f l)
 | .ltup xs=>opt (dZ m xs) fun l=>some (.ltup l)
def dZ (m:List Nat):List LV→Option (List LV)
 |[]=>some []
 |x::r=>opt (eU m x) fun y=>opt (dZ m r) fun l=>some (y::l)
end
def dT (m:List Nat):List Ob→Option (List Ob)
 |[]=>some []
 | .dead::r=>opt (dT m r) fun l=>some (.dead::l)
 | .arr sz cs::r=>opt (dT m r) fun l=>some (.arr sz cs::l)
 | .map ks vs::r=>opt (dT m r) fun l=>some (.map ks vs::l)
 | .cells cs::r=>opt (dZ m cs) fun cs=>opt (dT m r) fun l=>some (.cells cs::l)
def iF:List Nat→List LV→List (Nat×LV)
 |t::ts,v::vs=>(t,v)::iF ts vs
 |_,_=>[]
def yW (m:Nat)(v:LV):Option LV:=
 match m with
 |0=>some (strip v)
 |1=>opt (fG v) fun xs=>some (.osl xs)
 |_=>opt (cF v) fun xs=>some (.cv (.sl xs))
def ru (fr:Fr):List (Nat×Nat)→Option (List LV)
 |[]=>some []
 |q::r=>opt (yW q.2 (fr q.1)) fun v=>opt (ru fr r) fun l=>some (v::l)
def dF {α:Type}(live:List (Nat×Nat))(s:S)(k:S→Option α):Option α:=
 opt (ru s.fr live) fun vs=>
 match s.pushed with
 |true=>k {s with fr:=dL (iF (live.map Prod.fst) vs)}
 |false=>
  let m:=nC s.lam 1000 (oB vs) []
  opt (dZ m vs) fun vs=>opt (dT m (m.map (aG s.lam))) fun l=>k {fr:=dL (iF (live.map Prod.fst) vs),lam:=l,pushed:=false}
def ww (L m:Nat):CV→Bool
 | .ref lev i _=>match Nat.blt lev L with|true=>true|false=>Nat.blt i m
 | .tref lev i _ _=>match Nat.blt lev L with|true=>true|false=>Nat.blt i m
 |c=>below L c
mutual
def ia (L m:Nat):LV→Bool
 | .cv c=>ww L m c
 | .osl xs=>ck L xs
 | .loc i _=>Nat.blt i m
 | .lsl i _ _=>Nat.blt i m
 | .mloc i=>Nat.blt i m
 | .tloc i _ _=>Nat.blt i m
 | .lclo _ caps=>iS L m caps
 | .ltup _=>false
def iS (L m:Nat):List LV→Bool
 |[]=>true
 |x::r=>match ia L m x with|true=>iS L m r|false=>false
end
def xu (L m:Nat):Ob→Bool
 | .cells cs=>iS L m cs
 | .arr _ cs=>ck L cs
 | .map _ vs=>ck L vs
 | .dead=>true
def m3 (L m:Nat):List Ob→Bool
 |[]=>true
 |x::r=>match xu L m x with|true=>m3 L m r|false=>false
def Jx:List (Nat×Nat)→Option Nat
 |[]=>none
 |q::r=>match Nat.ble 1000000 q.1 with|true=>some (q.1-1000000)|false=>Jx r
def e8 (fr:Fr):List (Nat×Nat)→List (Nat×LV)
 |[]=>[]
 |q::r=>(q.1,fr q.1)::e8 fr r
def wy:List (Nat×LV)→List LV
 |[]=>[]
 |q::r=>q.2::wy r
def iQ {α:Type}(L:Nat)(live:List (Nat×Nat))(s:S)(k:S→Option α):Option α:=
 match Jx live with
 |none=>k s
 |some m=>ay (s.pushed&&Nat.ble m s.lam.length&&iS L m (wy (e8 s.fr live))&&m3 L m (s.lam.take m)) (k {fr:=dL (e8 s.fr live),lam:=s.lam.take m,pushed:=true})
def yQ {α:Type}(m:Nat)(v:LV)(k:LV→Option α):Option α:=
 match m with
 |0=>k v
 |1=>opt (fG v) fun xs=>k (.osl xs)
 |3=>opt (d8 v) fun c=>k (.cv c)
 |_=>opt (cF v) fun xs=>k (.cv (.sl xs))
def fC {α:Type}:List Nat→List LV→(List LV→Option α)→Option α
 |[],cs,k=>k cs
 |m::ms,c::cs,k=>yQ m c fun c=>fC ms cs fun r=>k (c::r)
 |_::_,[],_=>none
def kn {α:Type}:List (Nat×List Nat)→S→(S→Option α)→Option α
 |[],s,k=>k s
 |q::r,s,k=>match Nat.beq q.1 1000000 with
  |true=>kn r {s with pushed:=true} k
  |false=>match aG s.lam q.1 with
   | .cells cs=>fC q.2 cs fun cs=>kn r {s with lam:=s.lam.set q.1 (.cells cs)} k
   |_=>none
def sF (r:Nat):List (Nat×List (Nat×List Nat))→List (Nat×List Nat)
 |[]=>[]
 |q::l=>match Nat.beq q.1 r with|true=>q.2|false=>sF r l
def bJ:Code→Nat
 | .region id _ _=>id
 | .seq a b=>match bJ a with|0=>bJ b|n+1=>n+1
 | .cond _ a b=>match bJ a with|0=>bJ b|n+1=>n+1
 | .block _ c=>bJ c
 | .loop c=>bJ c
 |_=>0
def JN (r:Nat):List (Nat×List (Nat×Nat)×List (Nat×Nat))→List (Nat×Nat)×List (Nat×Nat)
 |[]=>([],[])
 |q::l=>match Nat.beq q.1 r with|true=>q.2|false=>JN r l
def FE (r:Nat):List (Nat×List (Nat×Nat)×List (Nat×Nat))→Option (List (Nat×Nat)×List (Nat×Nat))
 |[]=>none
 |q::l=>match Nat.beq q.1 r with|true=>some q.2|false=>FE r l
def Hints.lives (H:Hints)(r:Nat):List (Nat×Nat)×List (Nat×Nat):=JN r H.live
def FF (n:Nat)(kp:Option Nat)(d:Nat):Bool:=
 match Nat.blt d n with
 |true=>match kp with|some t=> !Nat.beq d t|none=>true
 |false=>false
def lq (n:Nat)(kp:Option Nat):List Oper→Bool
 |[]=>true
 |o::r=>match o.dst with
  |none=>lq n kp r
  |some d=>match FF n kp d with|true=>lq n kp r|false=>false
def dB (n:Nat)(kp:Option Nat):Code→Bool
 | .region _ ops _=>lq n kp ops.toList
 | .seq a b=>match dB n kp a with|true=>dB n kp b|false=>false
 | .cond _ x y=>match dB n kp x with|true=>dB n kp y|false=>false
 | .block _ c=>dB n kp c
 | .loop c=>dB n kp c
 |_=>true
def bM (P:Program)(ρ:Rho)(H:Hints){α:Type}:Code→S→Mu→(St→Option α)→Option α
 | .skip,s,μ,k=>k (.norm s μ)
 | .region id ops draw,s,μ,k=>match draw with
  |false=>eF P ρ H id ops (List.range ops.size) s μ (fun s μ=>k (.norm s μ)) fun v s μ=>k (.panic v s μ)
  |true=>ay (Ak H id ops) (eF P ρ H id ops (List.range ops.size) s μ (fun s μ=>k (.norm s μ)) fun _ _ _=>none)
 | .seq a b,s,μ,k=>bM P ρ H a s μ fun st=>match st with
  | .norm s μ=>match FE (bJ b) H.cuts with
   |none=>bM P ρ H b s μ k
   |some lv=>kn (sF (bJ b) H.objs) s fun s=>dF lv.1 s fun s=>iQ μ.length lv.1 s fun s=>opt (ρ.seg H lv.2 b s μ) k
  | .exit i s μ=>k (.exit i s μ)
  | .ret s μ=>k (.ret s μ)
  | .panic v s μ=>k (.panic v s μ)
 | .cond c x y,s,μ,k=>opt (aQ (evA {} s.fr c)) fun b=>cond b (bM P ρ H x s μ k) (bM P ρ H y s μ k)
 | .block id c,s,μ,k=>bM P ρ H c s μ fun st=>match st with
  | .exit i s μ=>match Nat.beq i id with|true=>k (.norm s μ)|false=>k (.exit i s μ)
  | .norm s μ=>k (.norm s μ)
  | .ret s μ=>k (.ret s μ)
  | .panic v s μ=>k (.panic v s μ)
 | .loop c,s,μ,k=>kn (sF (bJ c) H.objs) s fun s=>dF (H.lives (bJ c)).1 s fun s=>iQ μ.length (H.lives (bJ c)).1 s fun s=>opt (ρ.loop H (H.lives (bJ c)).2 c s μ) k
 | .exit id,s,μ,k=>k (.exit id s μ)
 | .ret,s,μ,k=>k (.ret s μ)
 |_,_,_,_=>none
def ls (P:Program)(ρ:Rho)(H:Hints)(lv:List (Nat×Nat))(c:Code)(s:S)(μ:Mu):Option St:=
 bM P ρ H c s μ fun st=>match st with
  | .norm s μ=>kn (sF (bJ c) H.objs) s fun s=>dF (H.lives (bJ c)).1 s fun s=>iQ μ.length (H.lives (bJ c)).1 s fun s=>ρ.loop H lv c s μ
  | .exit i s μ=>dF lv s fun s=>some (.exit i s μ)
  | .ret s μ=>dF H.res s fun s=>some (.ret s μ)
  | .panic v s μ=>dF H.pan s fun s=>some (.panic v s μ)
def rP (P:Program)(ρ:Rho)(H:Hints)(lv:List (Nat×Nat))(c:Code)(s:S)(μ:Mu):Option St:=
 bM P ρ H c s μ fun st=>match st with
  | .norm s μ=>dF lv s fun s=>some (.norm s μ)
  | .exit i s μ=>dF lv s fun s=>some (.exit i s μ)
  | .ret s μ=>dF H.res s fun s=>some (.ret s μ)
  | .panic v s μ=>dF H.pan s fun s=>some (.panic v s μ)
def jm:Nat→List LV→List (Nat×LV)
 |_,[]=>[]
 |n,v::r=>(n,v)::jm (n+1) r
def Hs (P:Program)(s:S):ResultVar→Option LV
 | .tmp t=>some (s.fr t)
 | .cell a t=>match s.fr a with
  | .loc i off=>bH P t (aG s.lam i) off
  |_=>none
def sL (P:Program)(s:S):List ResultVar→Option (List LV)
 |[]=>some []
 |x::r=>opt (Hs P s x) fun v=>opt (sL P s r) fun l=>some (v::l)
def eq (vs:List LV):LV:=
 match vs with
 |[v]=>v
 |vs=> .ltup (vs.map strip1)
def fF (P:Program)(rs:List ResultVar)(s:S)(μ:Mu):Option Out:=
 opt (sL P s rs) fun vs=>
 let v:=eq vs
 ay (ov v) (match s.pushed with
  |false=>some (.ret v μ)
  |true=>ay (fq μ.length v) (some (.ret v μ)))
def yP (P:Program)(ρ:Rho)(H:Hints)(fn:Func)(c:Code)(args:List LV)(μ:Mu):Option Out:=
 ay (Nat.ble args.length fn.ntmps && dB fn.ntmps none c && !(fn.name == "runtime.NumGoroutine")) (
 bM P ρ H c {fr:=dL (jm 0 args),lam:=[],pushed:=false} μ fun st=>match st with
  | .norm s μ=>fF P fn.results.toList s μ
  | .ret s μ=>fF P fn.results.toList s μ
  | .panic v _ μ=>ay (below μ.length v) (some (.panic v μ))
  | .exit _ _ _=>none)
def jD {α:Type}(ρ:Rho)(t:Nat)(pv:Option CV)(s:S)(μ:Mu)(k:S→Mu→Option α):Option α:=
 match s.fr t with
 | .lclo f caps=>opt (fw μ.length caps) fun args=>opt (dM μ.length s.lam) fun l=>
   opt (ρ.dcall f pv args (μ++[l])) fun μ2=>opt (iu μ2) fun q=>k {s with lam:=q.2,pushed:=true} q.1
 |_=>none
def wW (P:Program)(ρ:Rho)(t:Nat)(rs:List ResultVar)(st:St):Option Out:=
 match st with
 | .norm s μ=>jD ρ t none s μ fun s μ=>fF P rs s μ
 | .ret s μ=>jD ρ t none s μ fun s μ=>fF P rs s μ
 | .panic v s μ=>jD ρ t (some v) s μ fun s μ=>fF P rs s μ
 | .exit _ _ _=>none
def Nq:LV→Bool
 | .lclo _ _=>true
 |_=>false
def w5 (t:Nat)(o:Oper):Bool:=
 match o.guard,o.dst,o.op with
 |none,none,.defer c=>match c.callee with
  | .value (.tmp u)=>match c.args.toList with|[]=>Nat.beq u t|_=>false
  |_=>false
 |_,_,_=>false
def oh (P:Program)(ρ:Rho)(H:Hints)(fn:Func)(c:Code)(t:Nat)(args:List LV)(μ:Mu):Option Out:=
 match c with
 | .seq a (.seq (.region id ops draw) b)=>match draw with
  |true=>none
  |false=>match ops[ops.size-1]? with
   |none=>none
   | some o => ay (Nat.ble args.length fn.ntmps && dB fn.ntmps none a && lq fn.ntmps none ops.toList && dB fn.ntmps (some t) b && !(fn.name == "runtime.NumGoroutine") && w5 t o) (
    bM P ρ H a {fr:=dL (jm 0 args),lam:=[],pushed:=false} μ fun st=>match st with
     | .norm s μ=>eF P ρ H id ops (List.range (ops.size-1)) s μ (fun s μ=>ay (Nq (s.fr t)) (bM P ρ H b s μ (wW P ρ t fn.results.toList))) (fun _ _ _=>none)
     |_=>none)
 |_=>none
def ro (o:Oper):Bool:=
 match o.guard,o.op with
 |none,.call c=>match c.callee with| .builtin .recover=>true|_=>false
 |_,_=>false
def Bh (pv:Option CV):LV:=match pv with|some v=> .cv v|none=> .cv (.v .nilIface)
def om (P:Program)(ρ:Rho)(H:Hints)(fn:Func)(c:Code)(pv:Option CV)(args:List LV)(μ:Mu):Option Mu:=
 match c with
 | .seq (.region id ops draw) b=>match draw with
  |true=>none
  |false=>match ops[0]? with
   |none=>none
   | some o => ay (Nat.ble args.length fn.ntmps && lq fn.ntmps none ops.toList && dB fn.ntmps none b && !(fn.name == "runtime.NumGoroutine") && ro o && fn.results.isEmpty) (
    eF P ρ H id ops (List.range' 1 (ops.size-1)) (S.put {fr:=dL (jm 0 args),lam:=[],pushed:=false} o.dst (Bh pv)) μ
     (fun s μ => bM P ρ H b s μ fun st => match st with
      | .norm s μ=>some μ
      | .ret s μ=>some μ
      |_=>none) (fun _ _ _=>none))
 |_=>none
structure Env where
 P:Program
 hints:FuncId→Hints
 prim:FuncId→Option (List LV→Mu→Option Out)
def aH (E:Env)(ρ:Rho)(f:FuncId)(args:List LV)(μ:Mu):Option Out:=
 match E.prim f with
 |some g=>g args μ
 |none=>match E.P.funcs[f]? with
  |some fn=>match fn.body with
   |some c=>match(E.hints f).dfr with
    |none=>yP E.P ρ (E.hints f) fn c args μ
    |some t=>oh E.P ρ (E.hints f) fn c t args μ
   |none=>none
  |none=>none
def fR (E:Env)(ρ:Rho)(f:FuncId)(pv:Option CV)(args:List LV)(μ:Mu):Option Mu:=
 match E.P.funcs[f]? with
 |some fn=>match fn.body with
  |some c=>om E.P ρ (E.hints f) fn c pv args μ
  |none=>none
 |none=>none
def evn (E:Env):Nat→Rho
 |0=>{call:=fun _ _ _=>none,loop:=fun _ _ _ _ _=>none,seg:=fun _ _ _ _ _=>none,dcall:=fun _ _ _ _=>none}
 |n+1=>{call:=aH E (evn E n),loop:=fun H lv c s μ=>ls E.P (evn E n) H lv c s μ,seg:=fun H lv c s μ=>rP E.P (evn E n) H lv c s μ,dcall:=fR E (evn E n)}
end Go.Abs
set_option linter.unusedVariables false
namespace Go.Abs
open Go
structure Gh where
 O:Nat→Nat
 β:Nat→Nat→Nat
 n:Nat→Nat
 sz:Nat→Nat→Nat
section
variable (G:Gh)(w:World)
mutual
def VR:CV→Value→Prop
 | .undef,_=>True
 | .v x,c=>c=x
 | .agg cs,c=> ∃vs:Array Value,c= .agg vs∧VRL cs vs.toList
 | .sl xs,c=> ∃A len cap,c= .slice A len cap∧len=xs.length∧len≤cap∧(len=0∨ ∃b off s,A=some ⟨b,off,none⟩∧(∀x∈xs,x.cells.length=s)∧EL b s off xs)
 | .view cs,c=> ∃b off,c= .pointer (some ⟨b,off,none⟩)∧CL b off cs
 | .ref lev i off,c=>i<G.n lev∧c= .pointer (some ⟨G.β lev i,off,none⟩)
 | .msl lev i off len,c=>i<G.n lev∧ ∃cap cur e fz,c= .slice (some ⟨G.β lev i,off,none⟩) len cap∧len≤cap∧w.heap[G.β lev i]? =some (.cells cur e fz)∧off+cap*G.sz lev i≤cur.size
 | .clo f caps,c=> ∃vs:Array Value,c= .func (.func f) #[] vs∧VRL caps vs.toList
 | .iface t x,c=> ∃v,c= .iface t v∧VR x v
 | .mview ks vs,c=> ∃r es clk,c= .map (some r)∧w.heap[r]? =some (.map es clk)∧0<G.O r∧es.toList.map MapEntry.key=ks∧VRL vs (es.toList.map MapEntry.val)
 | .mref lev i,c=>i<G.n lev∧c= .map (some (G.β lev i))
 | .tref lev i t n,c=>i<G.n lev∧c= .pointer (some ⟨G.β lev i,0,none⟩)∧ ∃cur fz,w.heap[G.β lev i]? =some (.cells cur t fz)∧cur.size=n
def VRL:List CV→List Value→Prop
 |[],vs=>vs=[]
 |c::cs,vs=> ∃v r,vs=v::r∧VR c v∧VRL cs r
def CL (b:Nat):Nat→List CV→Prop
 |_,[]=>True
 |off,c::r=>(∃v,w.cell? ⟨b,off,none⟩=some v∧off<G.O b∧VR c v)∧CL b (off+1) r
def EL (b s:Nat):Nat→List CV→Prop
 |_,[]=>True
 | off, x :: r => (match x with
  | .agg cs=>CL b off cs
  |c=> ∃v,w.cell? ⟨b,off,none⟩=some v∧off<G.O b∧VR c v)∧EL b s (off+s) r
end
end
def kz (G:Gh)(w:World)(xs:List CV)(v:Value):Prop:=
 (xs=[]∧v= .slice none 0 0)∨
 ∃b cap cur e s,v= .slice (some ⟨b,0,none⟩) xs.length cap∧w.heap[b]? =some (.cells cur e (0,0))∧xs.length≤cap∧cap≤maxLen∧
  cap*s≤cur.size∧(∀x∈xs,x.cells.length=s)∧(xs=[]→cap=0)∧EL G w b s 0 xs∧G.O b=xs.length*s∧((bi xs).isSome=true→xs≠[]→e=5)
theorem xH {e:TypeId}{xs:List CV}(h:(Nat.beq e 5||lj xs)=true):(bi xs).isSome=true→xs≠[]→e=5:=by
 intro hb hne
 rw[Bool.or_eq_true]at h
 rcases h with h|h
 ·exact Nat.eq_of_beq_eq_true h
 ·exfalso
  cases xs with
  |nil=>exact hne rfl
  |cons y r=>
   simp only[lj]at h
   unfold noB at h
   split at h
   ·cases h
   ·rename_i hy
    unfold bi at hb
    split at hb
    ·rename_i heq;cases heq
    ·rename_i n r' heq
     injection heq with h1 h2
     exact hy n h1
    ·simp at hb
theorem qf: ∀(xs ys:List CV),(bi (xs++ys)).isSome=true→(bi xs).isSome=true
 |[],ys,_=>rfl
 |y::r,ys,h=>by
  rw[List.cons_append]at h
  unfold bi at h ⊢
  split at h
  ·rename_i heq;cases heq
  ·rename_i n r' heq
   injection heq with h1 h2
   subst h1 h2
   simp only
   split at h
   ·have:(bi (r++ys)).isSome=true:=by
     cases hx:bi (r++ys)with
     |none=>rw[hx]at h;simp[opt]at h
     |some l=>rfl
    have:=qf r ys this
    cases hx:bi r with
    |none=>rw[hx]at this;cases this
    |some l=>rfl
   ·cases h
  ·simp at h
theorem qg: ∀(xs ys:List CV),(bi (xs++ys)).isSome=true→(bi ys).isSome=true
 |[],ys,h=>h
 |y::r,ys,h=>by
  rw[List.cons_append]at h
  unfold bi at h
  split at h
  ·rename_i heq;cases heq
  ·rename_i n r' heq
   injection heq with h1 h2
   subst h2
   split at h
   ·refine qg r ys ?_
    cases hx:bi (r++ys)with
    |none=>rw[hx]at h;simp[opt]at h
    |some l=>rfl
   ·cases h
  ·simp at h
theorem B0 {e:TypeId}{xs ys:List CV}(h:(Nat.beq e 5||lj ys)=true)(hne:ys≠[]):(bi (xs++ys)).isSome=true→xs++ys≠[]→e=5:=
 fun h1 _=>xH h (qg xs ys h1) hne
mutual
def LVR (G:Gh)(w:World)(L nl:Nat):LV→Value→Prop
 | .cv c,v=>VR G w c v
 | .osl xs,v=>kz G w xs v
 | .loc i off,v=>i<nl∧v= .pointer (some ⟨G.β L i,off,none⟩)
 | .lsl i off len,v=>i<nl∧ ∃cap cur e fz,v= .slice (some ⟨G.β L i,off,none⟩) len cap∧len≤cap∧cap≤maxLen∧w.heap[G.β L i]? =some (.cells cur e fz)∧off+cap*G.sz L i≤cur.size
 | .lclo f caps,v=> ∃vs:Array Value,v= .func (.func f) #[] vs∧bR G w L nl caps vs.toList
 | .ltup xs,v=> ∃vs:Array Value,v= .tuple vs∧bR G w L nl xs vs.toList
 | .mloc i,v=>i<nl∧v= .map (some (G.β L i))
 | .tloc i t n,v=>i<nl∧v= .pointer (some ⟨G.β L i,0,none⟩)∧ ∃cur fz,w.heap[G.β L i]? =some (.cells cur t fz)∧cur.size=n
def bR (G:Gh)(w:World)(L nl:Nat):List LV→List Value→Prop
 |[],vs=>vs=[]
 |c::cs,vs=> ∃v r,vs=v::r∧(∀xs,c≠ .osl xs)∧LVR G w L nl c v∧bR G w L nl cs r
end
def dX (cur:Array Value)(fz:Nat×Nat):Prop:= ∀j,j<cur.size→ ¬(fz.1≤j∧j<fz.2)
def qA (G:Gh)(w:World)(ks:List Value)(vs:List CV)(es:Array MapEntry):Prop:=es.toList.map MapEntry.key=ks∧VRL G w vs (es.toList.map MapEntry.val)
def ObR (G:Gh)(w:World)(L nl:Nat)(b sz:Nat):Ob→Prop
 | .dead=>True
 | .cells cs=> ∃cur e fz,w.heap[b]? =some (.cells cur e fz)∧dX cur fz∧G.O b=0∧cs.length≤cur.size∧ ∀j x,cs[j]? =some x→LVR G w L nl x (cur.getD j undef)
 | .arr k cs=>k=sz∧ ∃cur e fz,w.heap[b]? =some (.cells cur e fz)∧dX cur fz∧G.O b=0∧cs.length≤cur.size∧ ∀j x,cs[j]? =some x→VR G w x (cur.getD j undef)
 | .map ks vs=> ∃es clk,w.heap[b]? =some (.map es clk)∧G.O b=0∧qA G w ks vs es
def aD:LV→Value→Nat→Prop
 | .osl _,.slice (some a) _ _,b=>a.block=b
 |_,_,_=>False
inductive Loc where
 |fr (t:Nat)
 |ob (lev i k:Nat)
def Gh.below (G:Gh)(lev:Nat):Gh:={G with n:=fun l=>if l≤lev then G.n l else 0}
def aC (H:Mu)(lev i:Nat):Ob:=bb H lev i
def aw (G:Gh)(w:World)(fr:Fr)(tm:Array Value)(H:Mu):Loc→Nat→Prop
 | .fr t,b=>aD (fr t) (tm.getD t undef) b
 | .ob lev i k,b=>match aC H lev i with
  | .cells cs=>match cs[k]? with
   |some x=> ∃cur e fz,w.heap[G.β lev i]? =some (.cells cur e fz)∧aD x (cur.getD k undef) b
   |none=>False
  |_=>False
def aK:Ob→Prop
 | .dead=>False
 |_=>True
def fb (G:Gh)(w:World)(fr:Fr)(tm:Array Value)(H:Mu)(b:Nat):Prop:=
 (∃l,aw G w fr tm H l b)∨ ∃lev i,aK (aC H lev i)∧G.β lev i=b
structure Rel (G:Gh) (L:Nat) (s:S) (μ:Mu) (tm:Array Value) (w:World):Prop where
 lev:μ.length=L
 fr: ∀t,LVR G w L s.lam.length (s.fr t) (tm.getD t undef)
 lam: ∀i,ObR G w L s.lam.length (G.β L i) (G.sz L i) (aG s.lam i)
 mu: ∀lev i,lev<L→ObR (G.below lev) w lev 0 (G.β lev i) (G.sz lev i) (bb μ lev i)
 inj: ∀lev i lev' i',aK (aC (μ++[s.lam]) lev i)→aK (aC (μ++[s.lam]) lev' i')→G.β lev i=G.β lev' i'→lev=lev'∧i=i'
 own: ∀l l' b,aw G w s.fr tm (μ++[s.lam]) l b→aw G w s.fr tm (μ++[s.lam]) l' b→l=l'
 apart: ∀l b lev i,aw G w s.fr tm (μ++[s.lam]) l b→aK (aC (μ++[s.lam]) lev i)→G.β lev i≠b
 nlt: ∀lev,lev<L→G.n lev=(μ.getD lev []).length
 nL:G.n L=if s.pushed then s.lam.length else 0
 ngt: ∀lev,L<lev→G.n lev=0
structure Le (G:Gh) (w:World) (G':Gh) (w':World):Prop where
 map: ∀(b:Nat) (es:Array MapEntry) (clk:Nat),0<G.O b→w.heap[b]? =some (.map es clk)→0<G'.O b∧w'.heap[b]? =some (.map es clk)
 ref: ∀lev i,i<G.n lev→i<G'.n lev∧G'.β lev i=G.β lev i∧G'.sz lev i=G.sz lev i
 imm: ∀(b off:Nat) (v:Value),off<G.O b→w.cell? ⟨b,off,none⟩=some v→off<G'.O b∧w'.cell? ⟨b,off,none⟩=some v
 blk: ∀(b:Nat) (cur:Array Value) (e:TypeId) (fz:Nat×Nat),w.heap[b]? =some (.cells cur e fz)→ ∃(cur':Array Value) (fz':Nat×Nat),w'.heap[b]? =some (.cells cur' e fz')∧cur'.size=cur.size
theorem Le.refl (G:Gh)(w:World):Le G w G w:=⟨fun _ _ _ h hb=>⟨h,hb⟩,fun _ _ h=>⟨h,rfl,rfl⟩,fun _ _ _ h hc=>⟨h,hc⟩,fun b cur e fz h=>⟨cur,fz,h,rfl⟩⟩
theorem Le.trans {G G1 G2:Gh}{w w1 w2:World}(a:Le G w G1 w1)(b:Le G1 w1 G2 w2):Le G w G2 w2:=by
 refine⟨fun bl es clk h hb=> ?_,fun lev i h=> ?_,fun bl off v h hc=> ?_,fun bl cur e fz h=> ?_⟩
 ·obtain⟨h1,h2⟩:=a.map bl es clk h hb
  exact b.map bl es clk h1 h2
 ·obtain⟨h1,h2,h3⟩:=a.ref lev i h
  obtain⟨k1,k2,k3⟩:=b.ref lev i h1
  exact⟨k1,k2.trans h2,k3.trans h3⟩
 ·obtain⟨h1,h2⟩:=a.imm bl off v h hc
  exact b.imm bl off v h1 h2
 ·obtain⟨c1,f1,h1,e1⟩:=a.blk bl cur e fz h
  obtain⟨c2,f2,h2,e2⟩:=b.blk bl c1 e f1 h1
  exact⟨c2,f2,h2,e2.trans e1⟩
section
variable {G G':Gh}{w w':World}(h:Le G w G' w')
include h
mutual
theorem bk: ∀(c:CV) (v:Value),VR G w c v→VR G' w' c v
 | .undef,v,_=>by simp[VR]
 | .v x,v,hv=>by simpa[VR]using hv
 | .agg cs,v,hv=>by
  simp only[VR]at hv ⊢
  obtain⟨vs,e,hl⟩:=hv
  exact⟨vs,e,fW cs _ hl⟩
 | .sl xs,v,hv=>by
  simp only[VR]at hv ⊢
  obtain⟨A,len,cap,e,h1,h2,h3⟩:=hv
  refine⟨A,len,cap,e,h1,h2,h3.imp id ?_⟩
  rintro⟨b,off,s,e1,hs,hl⟩
  exact⟨b,off,s,e1,hs,dW b s off xs hl⟩
 | .view cs,v,hv=>by
  simp only[VR]at hv ⊢
  obtain⟨b,off,e,hl⟩:=hv
  exact⟨b,off,e,wC b off cs hl⟩
 | .ref lev i off,v,hv=>by
  simp only[VR]at hv ⊢
  obtain⟨h1,e⟩:=hv
  obtain⟨a,b,_⟩:=h.ref lev i h1
  exact⟨a,by rw[b];exact e⟩
 | .msl lev i off len,v,hv=>by
  simp only[VR]at hv ⊢
  obtain⟨h1,cap,cur,e,fz,hv,hc,hb,hs⟩:=hv
  obtain⟨a,b,c⟩:=h.ref lev i h1
  obtain⟨cur',fz',hb',hs'⟩:=h.blk _ _ _ _ hb
  exact⟨a,cap,cur',e,fz',by rw[b];exact hv,hc,by rw[b];exact hb',by rw[hs',c];exact hs⟩
 | .clo f caps,v,hv=>by
  simp only[VR]at hv ⊢
  obtain⟨vs,e,hl⟩:=hv
  exact⟨vs,e,fW caps _ hl⟩
 | .iface t x,v,hv=>by
  simp only[VR]at hv ⊢
  obtain⟨u,e,hl⟩:=hv
  exact⟨u,e,bk x u hl⟩
 | .mview ks vs,v,hv=>by
  simp only[VR]at hv ⊢
  obtain⟨r,es,clk,e,h1,h2,h3,h4⟩:=hv
  obtain⟨k1,k2⟩:=h.map r es clk h2 h1
  exact⟨r,es,clk,e,k2,k1,h3,fW vs _ h4⟩
 | .mref lev i,v,hv=>by
  simp only[VR]at hv ⊢
  obtain⟨h1,e⟩:=hv
  obtain⟨a,b,_⟩:=h.ref lev i h1
  exact⟨a,by rw[b];exact e⟩
 | .tref lev i t n,v,hv=>by
  simp only[VR]at hv ⊢
  obtain⟨h1,e,cur,fz,h2,h3⟩:=hv
  obtain⟨a,b,_⟩:=h.ref lev i h1
  obtain⟨cur',fz',hb',hs'⟩:=h.blk _ _ _ _ h2
  exact⟨a,by rw[b];exact e,cur',fz',by rw[b];exact hb',by rw[hs',h3]⟩
theorem fW: ∀(cs:List CV) (vs:List Value),VRL G w cs vs→VRL G' w' cs vs
 |[],vs,hv=>by simpa[VRL]using hv
 |c::cs,vs,hv=>by
  simp only[VRL]at hv ⊢
  obtain⟨v,r,e,h1,h2⟩:=hv
  exact⟨v,r,e,bk c v h1,fW cs r h2⟩
theorem wC (b:Nat): ∀(off:Nat) (cs:List CV),CL G w b off cs→CL G' w' b off cs
 |_,[],_=>by simp[CL]
 |off,c::cs,hv=>by
  simp only[CL]at hv ⊢
  obtain⟨⟨v,hc,ho,h1⟩,h2⟩:=hv
  obtain⟨a,b⟩:=h.imm _ _ _ ho hc
  exact⟨⟨v,b,a,bk c v h1⟩,wC _ (off+1) cs h2⟩
theorem dW (b s:Nat): ∀(off:Nat) (cs:List CV),EL G w b s off cs→EL G' w' b s off cs
 |_,[],_=>by simp[EL]
 |off,.agg cs::r,hv=>by
  simp only[EL]at hv ⊢
  exact⟨wC b off cs hv.1,dW b s (off+s) r hv.2⟩
 |off,.undef::r,hv=>by
  simp only[EL]at hv ⊢
  obtain⟨⟨v,hc,ho,h1⟩,h2⟩:=hv
  obtain⟨a,b⟩:=h.imm _ _ _ ho hc
  exact⟨⟨v,b,a,by simp[VR]⟩,dW _ s (off+s) r h2⟩
 |off,.v x::r,hv=>by
  simp only[EL]at hv ⊢
  obtain⟨⟨v,hc,ho,h1⟩,h2⟩:=hv
  obtain⟨a,b⟩:=h.imm _ _ _ ho hc
  exact⟨⟨v,b,a,bk (.v x) v h1⟩,dW _ s (off+s) r h2⟩
 |off,.sl x::r,hv=>by
  simp only[EL]at hv ⊢
  obtain⟨⟨v,hc,ho,h1⟩,h2⟩:=hv
  obtain⟨a,b⟩:=h.imm _ _ _ ho hc
  exact⟨⟨v,b,a,bk (.sl x) v h1⟩,dW _ s (off+s) r h2⟩
 |off,.view x::r,hv=>by
  simp only[EL]at hv ⊢
  obtain⟨⟨v,hc,ho,h1⟩,h2⟩:=hv
  obtain⟨a,b⟩:=h.imm _ _ _ ho hc
  exact⟨⟨v,b,a,bk (.view x) v h1⟩,dW _ s (off+s) r h2⟩
 |off,.ref x y z::r,hv=>by
  simp only[EL]at hv ⊢
  obtain⟨⟨v,hc,ho,h1⟩,h2⟩:=hv
  obtain⟨a,b⟩:=h.imm _ _ _ ho hc
  exact⟨⟨v,b,a,bk (.ref x y z) v h1⟩,dW _ s (off+s) r h2⟩
 |off,.msl x y z l::r,hv=>by
  simp only[EL]at hv ⊢
  obtain⟨⟨v,hc,ho,h1⟩,h2⟩:=hv
  obtain⟨a,b⟩:=h.imm _ _ _ ho hc
  exact⟨⟨v,b,a,bk (.msl x y z l) v h1⟩,dW _ s (off+s) r h2⟩
 |off,.clo f x::r,hv=>by
  simp only[EL]at hv ⊢
  obtain⟨⟨v,hc,ho,h1⟩,h2⟩:=hv
  obtain⟨a,b⟩:=h.imm _ _ _ ho hc
  exact⟨⟨v,b,a,bk (.clo f x) v h1⟩,dW _ s (off+s) r h2⟩
 |off,.iface t x::r,hv=>by
  simp only[EL]at hv ⊢
  obtain⟨⟨v,hc,ho,h1⟩,h2⟩:=hv
  obtain⟨a,b⟩:=h.imm _ _ _ ho hc
  exact⟨⟨v,b,a,bk (.iface t x) v h1⟩,dW _ s (off+s) r h2⟩
 |off,.mview x y::r,hv=>by
  simp only[EL]at hv ⊢
  obtain⟨⟨v,hc,ho,h1⟩,h2⟩:=hv
  obtain⟨a,b⟩:=h.imm _ _ _ ho hc
  exact⟨⟨v,b,a,bk (.mview x y) v h1⟩,dW _ s (off+s) r h2⟩
 |off,.mref x y::r,hv=>by
  simp only[EL]at hv ⊢
  obtain⟨⟨v,hc,ho,h1⟩,h2⟩:=hv
  obtain⟨a,b⟩:=h.imm _ _ _ ho hc
  exact⟨⟨v,b,a,bk (.mref x y) v h1⟩,dW _ s (off+s) r h2⟩
 |off,.tref x y t n::r,hv=>by
  simp only[EL]at hv ⊢
  obtain⟨⟨v,hc,ho,h1⟩,h2⟩:=hv
  obtain⟨a,b⟩:=h.imm _ _ _ ho hc
  exact⟨⟨v,b,a,bk (.tref x y t n) v h1⟩,dW _ s (off+s) r h2⟩
end
theorem kT {ks:List Value}{vs:List CV}{es:Array MapEntry}(hm:qA G w ks vs es):qA G' w' ks vs es:=⟨hm.1,fW h vs _ hm.2⟩
end
end Go.Abs
set_option linter.unusedVariables false
namespace Go.Abs
open Go
structure Ext (L:Nat) (T:Nat→Prop) (G:Gh) (w:World) (G':Gh) (w':World) (T':Nat→Prop):Prop where
 le:Le G w G' w'
 os:w'.os=w.os
 tape:w'.tape=w.tape
 output:w'.output=w.output
 size:w.heap.size≤w'.heap.size
 keep: ∀b,b<w.heap.size→ ¬T b→w'.heap[b]? =w.heap[b]? ∧G'.O b=G.O b
 grow: ∀b,T' b→T b∨w.heap.size≤b
 lev: ∀l,l<L→(∀i,G'.β l i=G.β l i∧G'.sz l i=G.sz l i)∧G'.n l=G.n l
theorem Ext.refl {L:Nat}{T T':Nat→Prop}(G:Gh)(w:World)(h: ∀b,T' b→T b):Ext L T G w G w T':=
 ⟨Le.refl G w,rfl,rfl,rfl,Nat.le_refl _,fun _ _ _=>⟨rfl,rfl⟩,fun b hb=> .inl (h b hb),fun _ _=>⟨fun _=>⟨rfl,rfl⟩,rfl⟩⟩
theorem Ext.trans {L:Nat}{T T1 T2:Nat→Prop}{G G1 G2:Gh}{w w1 w2:World}(a:Ext L T G w G1 w1 T1)(b:Ext L T1 G1 w1 G2 w2 T2):Ext L T G w G2 w2 T2:=by
 refine⟨a.le.trans b.le,b.os.trans a.os,b.tape.trans a.tape,b.output.trans a.output,Nat.le_trans a.size b.size,fun x hx hT=> ?_,fun x hx=> ?_,fun l hl=> ?_⟩
 ·obtain⟨h1,h2⟩:=a.keep x hx hT
  have h3: ¬T1 x:=fun h=>by
   rcases a.grow x h with h|h
   ·exact hT h
   ·omega
  obtain⟨h4,h5⟩:=b.keep x (Nat.lt_of_lt_of_le hx a.size) h3
  exact⟨h4.trans h1,h5.trans h2⟩
 ·rcases b.grow x hx with h|h
  ·exact a.grow x h
  ·exact .inr (Nat.le_trans a.size h)
 ·obtain⟨h1,h2⟩:=a.lev l hl
  obtain⟨h3,h4⟩:=b.lev l hl
  exact⟨fun i=>⟨(h3 i).1.trans (h1 i).1,(h3 i).2.trans (h1 i).2⟩,h4.trans h2⟩
theorem Ext.drew {L:Nat}{T T':Nat→Prop}{G G':Gh}{w w':World}(h:Ext L T G w G' w' T'):Ext L T G w G' w'.drew T':=
 ⟨⟨h.le.map,h.le.ref,h.le.imm,h.le.blk⟩,h.os,h.tape,h.output,h.size,h.keep,h.grow,h.lev⟩
theorem Ext.weaken {L:Nat}{T T1 T' T1':Nat→Prop}{G G':Gh}{w w':World}(h:Ext L T G w G' w' T')(h1: ∀b,T b→T1 b)(h2: ∀b,T1' b→T' b):Ext L T1 G w G' w' T1':=
 ⟨h.le,h.os,h.tape,h.output,h.size,fun b hb hn=>h.keep b hb fun ht=>hn (h1 b ht),fun b hb=>(h.grow b (h2 b hb)).imp (h1 b) id,h.lev⟩
section
variable {G G':Gh}{w w':World}{L nl nl':Nat}
theorem jw (h:Le G w G' w'){xs:List CV}{v:Value}(ho: ∀a n c,v= .slice (some a) n c→w'.heap[a.block]? =w.heap[a.block]? ∧G'.O a.block=G.O a.block)(hv:kz G w xs v):kz G' w' xs v:=by
 rcases hv with hv|⟨b,cap,cur,e,s,rfl,hb,h1,h2,h3,h4,h5,h6,h7,h8⟩
 ·exact .inl hv
 ·obtain⟨k1,k2⟩:=ho _ _ _ rfl
  exact .inr ⟨b,cap,cur,e,s,rfl,k1.trans hb,h1,h2,h3,h4,h5,dW h b s 0 xs h6,k2.trans h7,h8⟩
theorem mr {x:LV}{v:Value}{b:Nat}(h: ∀xs,x≠ .osl xs): ¬aD x v b:=by
 cases x<;>simp[aD]at h ⊢
mutual
theorem df (h:Le G w G' w')(hn:nl≤nl')(hβ: ∀i,i<nl→G'.β L i=G.β L i∧G'.sz L i=G.sz L i): ∀(x:LV) (v:Value),
  (∀b,aD x v b→w'.heap[b]? =w.heap[b]? ∧G'.O b=G.O b)→LVR G w L nl x v→LVR G' w' L nl' x v
 | .cv c,v,ho,hv=>by simp only[LVR]at hv ⊢; exact bk h c v hv
 | .osl xs,v,ho,hv=>by
  simp only[LVR]at hv ⊢
  exact jw h (fun a n c e=>ho a.block (by subst e;simp[aD])) hv
 | .loc i off,v,ho,hv=>by
  simp only[LVR]at hv ⊢
  exact⟨by omega,by rw[(hβ i hv.1).1];exact hv.2⟩
 | .lsl i off len,v,ho,hv=>by
  simp only[LVR]at hv ⊢
  obtain⟨h0,cap,cur,e,fz,h1,h2,h2',h3,h4⟩:=hv
  obtain⟨cur',fz',hb',hs'⟩:=h.blk _ _ _ _ h3
  refine⟨by omega,cap,cur',e,fz',by rw[(hβ i h0).1];exact h1,h2,h2',by rw[(hβ i h0).1];exact hb',by rw[hs',(hβ i h0).2];exact h4⟩
 | .lclo f caps,v,ho,hv=>by
  simp only[LVR]at hv ⊢
  obtain⟨vs,e,hl⟩:=hv
  exact⟨vs,e,qx h hn hβ caps _ hl⟩
 | .ltup xs,v,ho,hv=>by
  simp only[LVR]at hv ⊢
  obtain⟨vs,e,hl⟩:=hv
  exact⟨vs,e,qx h hn hβ xs _ hl⟩
 | .mloc i,v,ho,hv=>by
  simp only[LVR]at hv ⊢
  exact⟨by omega,by rw[(hβ i hv.1).1];exact hv.2⟩
 | .tloc i t n,v,ho,hv=>by
  simp only[LVR]at hv ⊢
  obtain⟨h0,e,cur,fz,h2,h3⟩:=hv
  obtain⟨cur',fz',hb',hs'⟩:=h.blk _ _ _ _ h2
  exact⟨by omega,by rw[(hβ i h0).1];exact e,cur',fz',by rw[(hβ i h0).1];exact hb',by rw[hs',h3]⟩
theorem qx (h:Le G w G' w')(hn:nl≤nl')(hβ: ∀i,i<nl→G'.β L i=G.β L i∧G'.sz L i=G.sz L i): ∀(xs:List LV) (vs:List Value),
  bR G w L nl xs vs→bR G' w' L nl' xs vs
 |[],vs,hv=>by simpa[bR]using hv
 |x::xs,vs,hv=>by
  simp only[bR]at hv ⊢
  obtain⟨v,r,e,h0,h1,h2⟩:=hv
  exact⟨v,r,e,h0,df h hn hβ x v (fun b hb=>absurd hb (mr h0)) h1,qx h hn hβ xs r h2⟩
end
theorem cU (h:Le G w G' w')(hn:nl≤nl')(hβ: ∀i,i<nl→G'.β L i=G.β L i∧G'.sz L i=G.sz L i){b sz:Nat}{o:Ob}
  (hb:aK o→w'.heap[b]? =w.heap[b]? ∧G'.O b=G.O b)
  (ho: ∀cs j x cur e fz,o= .cells cs→cs[j]? =some x→w.heap[b]? =some (.cells cur e fz)→ ∀b',aD x (cur.getD j undef) b'→w'.heap[b']? =w.heap[b']? ∧G'.O b'=G.O b')
  (hv:ObR G w L nl b sz o):ObR G' w' L nl' b sz o:=by
 cases o with
 |dead=>simp[ObR]
 |cells cs=>
  simp only[ObR]at hv ⊢
  obtain⟨cur,e,fz,h1,h2,h3,h4,h5⟩:=hv
  obtain⟨k1,k2⟩:=hb trivial
  exact⟨cur,e,fz,k1.trans h1,h2,k2.trans h3,h4,fun j x hx=>df h hn hβ x _ (fun b' hb'=>ho cs j x cur e fz rfl hx h1 b' hb') (h5 j x hx)⟩
 |arr k cs=>
  simp only[ObR]at hv ⊢
  obtain⟨hk,cur,e,fz,h1,h2,h3,h4,h5⟩:=hv
  obtain⟨k1,k2⟩:=hb trivial
  exact⟨hk,cur,e,fz,k1.trans h1,h2,k2.trans h3,h4,fun j x hx=>bk h x _ (h5 j x hx)⟩
 |map ks vs=>
  simp only[ObR]at hv ⊢
  obtain⟨es,clk,h1,h2,h3⟩:=hv
  obtain⟨k1,k2⟩:=hb trivial
  exact⟨es,clk,k1.trans h1,k2.trans h2,kT h h3⟩
end
theorem Le.below {G G':Gh}{w w':World}(h:Le G w G' w')(lev:Nat):Le (G.below lev) w (G'.below lev) w':=by
 refine⟨h.map,fun l i hi=> ?_,h.imm,h.blk⟩
 simp only[Gh.below]at hi ⊢
 split at hi
 ·rename_i hl
  rw[if_pos hl]
  exact h.ref l i hi
 ·omega
theorem bC {μ:Mu}{l:Lam}{lev i:Nat}(h:lev<μ.length):bb (μ++[l]) lev i=bb μ lev i:=by
 simp[bb,List.getElem?_append_left h]
theorem bY {μ:Mu}{l:Lam}{i:Nat}:bb (μ++[l]) μ.length i=aG l i:=by
 simp[bb,aG]
theorem oD {μ:Mu}{l:Lam}{lev i:Nat}(h:μ.length<lev):bb (μ++[l]) lev i= .dead:=by
 simp only[bb]
 rw[List.getElem?_eq_none (by simp;omega)]
theorem Rel.frame {G G':Gh}{w w':World}{L:Nat}{s:S}{μ:Mu}{tm:Array Value}(R:Rel G L s μ tm w)(hle:Le G w G' w')
  (hT: ∀b,fb G w s.fr tm (μ++[s.lam]) b→w'.heap[b]? =w.heap[b]? ∧G'.O b=G.O b)
  (hβ: ∀lev i,lev<L∨(lev=L∧i<s.lam.length)→G'.β lev i=G.β lev i∧G'.sz lev i=G.sz lev i) (hn:G'.n=G.n):
  Rel G' L s μ tm w'∧(∀l b,aw G' w' s.fr tm (μ++[s.lam]) l b→aw G w s.fr tm (μ++[s.lam]) l b):=by
 have hlive: ∀lev i,aK (aC (μ++[s.lam]) lev i)→lev<L∨(lev=L∧i<s.lam.length):=by
  intro lev i h
  rcases Nat.lt_trichotomy lev L with h1|h1|h1
  ·exact .inl h1
  ·subst h1
   refine .inr ⟨rfl,?_⟩
   rw[←R.lev]at h
   simp only[aC,bY,aG]at h
   by_cases hi:i<s.lam.length
   ·exact hi
   ·rw[List.getElem?_eq_none (by omega)]at h
    exact h.elim
  ·rw[←R.lev]at h1
   simp only[aC,oD h1]at h
   exact h.elim
 have hown: ∀l b,aw G' w' s.fr tm (μ++[s.lam]) l b→aw G w s.fr tm (μ++[s.lam]) l b:=by
  intro l b h
  cases l with
  |fr t=>exact h
  |ob lev i k=>
   simp only[aw]at h ⊢
   split at h
   ·rename_i cs hcs
    have hl:aK (aC (μ++[s.lam]) lev i):=by rw[hcs];trivial
    split at h
    ·rename_i x hx
     obtain⟨cur,e,fz,hb,ho⟩:=h
     rw[(hβ lev i (hlive lev i hl)).1,(hT _ (.inr ⟨lev,i,hl,rfl⟩)).1]at hb
     exact⟨cur,e,fz,hb,ho⟩
    ·exact h
   ·exact h
 refine⟨⟨R.lev,fun t=> ?_,fun i=> ?_,fun lev i hl=> ?_,fun lev i lev' i' h h' e=> ?_,fun l l' b h h'=>R.own l l' b (hown l b h) (hown l' b h'),fun l b lev i h h' e=> ?_,?_,?_,?_⟩,hown⟩
 ·exact df hle (Nat.le_refl _) (fun i hi=>hβ L i (.inr ⟨rfl,hi⟩)) _ _ (fun b hb=>hT b (.inl ⟨.fr t,hb⟩)) (R.fr t)
 ·have hob:=R.lam i
  have e1:aC (μ++[s.lam]) L i=aG s.lam i:=by rw[←R.lev];exact bY
  by_cases hi:i<s.lam.length
  ·rw[(hβ L i (.inr ⟨rfl,hi⟩)).1,(hβ L i (.inr ⟨rfl,hi⟩)).2]
   refine cU hle (Nat.le_refl _) (fun i hi=>hβ L i (.inr ⟨rfl,hi⟩)) (fun hl=>hT _ (.inr ⟨L,i,by rw[e1];exact hl,rfl⟩)) (fun cs j x cur e fz ho hx hb b' hb'=>hT b' (.inl ⟨.ob L i j,?_⟩)) hob
   simp only[aw,e1,ho,hx]
   exact⟨cur,e,fz,hb,hb'⟩
  ·have:aG s.lam i= .dead:=by simp only[aG];rw[List.getElem?_eq_none (by omega)]
   rw[this]
   trivial
 ·have e1:aC (μ++[s.lam]) lev i=bb μ lev i:=bC (by rw[R.lev];exact hl)
  have hob:=R.mu lev i hl
  rw[(hβ lev i (.inl hl)).1,(hβ lev i (.inl hl)).2]
  refine cU (hle.below lev) (Nat.le_refl _) (fun i hi=>by omega) (fun h=>hT _ (.inr ⟨lev,i,by rw[e1];exact h,rfl⟩)) (fun cs j x cur e fz ho hx hb b' hb'=>hT b' (.inl ⟨.ob lev i j,?_⟩)) hob
  simp only[aw,e1,ho,hx]
  exact⟨cur,e,fz,hb,hb'⟩
 ·rw[(hβ lev i (hlive lev i h)).1,(hβ lev' i' (hlive lev' i' h')).1]at e
  exact R.inj lev i lev' i' h h' e
 ·rw[(hβ lev i (hlive lev i h')).1]at e
  exact R.apart l b lev i (hown l b h) h' e
 ·rw[hn];exact R.nlt
 ·rw[hn];exact R.nL
 ·rw[hn];exact R.ngt
theorem gg (g:Fr)(t:Nat)(v:LV):upd g t v t=v:=by simp[upd,Nat.beq_refl]
theorem fp (g:Fr){t u:Nat}(v:LV)(h:u≠t):upd g t v u=g u:=by
 have:Nat.beq u t=false:=by cases e:Nat.beq u t with
  |false=>rfl
  |true=>exact absurd (Nat.eq_of_beq_eq_true e) h
 simp[upd,this]
theorem qk (tm:Array Value){d:Nat}(v:Value)(h:d<tm.size):(tm.setIfInBounds d v).getD d undef=v:=by
 simp[Array.getD,h]
theorem ox (tm:Array Value){d t:Nat}(v:Value)(h:t≠d):(tm.setIfInBounds d v).getD t undef=tm.getD t undef:=by
 simp only[Array.getD_eq_getD_getElem?]
 rw[Array.getElem?_setIfInBounds_ne (by omega)]
theorem yG {G:Gh}{w:World}{b s:Nat}: ∀{off:Nat} {xs:List CV},EL G w b s off xs→ ∀j x,xs[j]? =some x→CL G w b (off+j*s) x.cells
 |off,[],_,j,x,hx=>by simp at hx
 |off,y::r,h,0,x,hx=>by
  simp only[List.getElem?_cons_zero,Option.some.injEq]at hx
  subst hx
  cases y<;>simp only[EL]at h<;>simp only[CV.cells,Nat.zero_mul,Nat.add_zero,CL,and_true]<;>first|exact h.1|exact h.1
 |off,y::r,h,j+1,x,hx=>by
  have h2:EL G w b s (off+s) r:=by cases y<;>simp only[EL]at h<;>exact h.2
  have:=yG h2 j x (by simpa using hx)
  rw[show off+(j+1)*s=off+s+j*s by rw[Nat.add_mul];omega]
  exact this
theorem fV {G:Gh}{w:World}{xs:List CV}{v:Value}(h:kz G w xs v):VR G w (.sl xs) v:=by
 simp only[VR]
 rcases h with⟨rfl,rfl⟩|⟨b,cap,cur,e,s,rfl,hb,h1,h2,h3,h4,h5,h6,h7⟩
 ·exact⟨none,0,0,rfl,rfl,Nat.le_refl _,.inl rfl⟩
 ·exact⟨_,_,_,rfl,rfl,h1,.inr ⟨b,0,s,rfl,h4,h6⟩⟩
theorem ic {G:Gh}{w:World}{L nl:Nat}{x:LV}{v:Value}(h:LVR G w L nl x v):LVR G w L nl (strip1 x) v∧ ∀xs,strip1 x≠ .osl xs:=by
 cases x<;>simp only[strip1,LVR]at h ⊢ <;>first
  |exact⟨h,by simp⟩
  |exact⟨fV h,by simp⟩
  |exact⟨by simp[VR],by simp⟩
theorem sS {G:Gh}{w:World}{L nl:Nat}: ∀{xs:List LV} {vs:List Value},bR G w L nl xs vs→bR G w L nl (xs.map strip1) vs
 |[],vs,h=>by simpa[bR]using h
 |x::xs,vs,h=>by
  simp only[bR,List.map_cons]at h ⊢
  obtain⟨v,r,e,h0,h1,h2⟩:=h
  exact⟨v,r,e,(ic h1).2,(ic h1).1,sS h2⟩
theorem jb {G:Gh}{w:World}{L nl:Nat}{x:LV}{v:Value}(h:LVR G w L nl x v):LVR G w L nl (strip x) v:=by
 cases x<;>simp only[strip,LVR]at h ⊢ <;>first
  |exact h
  |exact fV h
  |(obtain⟨vs,e,hl⟩:=h;exact⟨vs,e,sS hl⟩)
theorem ie {x:LV}{v:Value}{b:Nat}: ¬aD (strip x) v b:=by
 cases x<;>simp[strip,aD]
theorem Rel.put {G:Gh}{w:World}{L:Nat}{s:S}{μ:Mu}{tm:Array Value}(R:Rel G L s μ tm w){d:Nat}{v:LV}{cv:Value}(hd:d<tm.size)
  (hv:LVR G w L s.lam.length v cv)
  (ho: ∀b,aD v cv b→(∀l,aw G w s.fr tm (μ++[s.lam]) l b→l= .fr d)∧ ∀lev i,aK (aC (μ++[s.lam]) lev i)→G.β lev i≠b):
  Rel G L (s.set d v) μ (tm.setIfInBounds d cv) w∧
  (∀b,fb G w (s.set d v).fr (tm.setIfInBounds d cv) (μ++[(s.set d v).lam]) b→fb G w s.fr tm (μ++[s.lam]) b∨aD v cv b):=by
 have hcase: ∀l b,aw G w (s.set d v).fr (tm.setIfInBounds d cv) (μ++[(s.set d v).lam]) l b→(l= .fr d∧aD v cv b)∨(l≠ .fr d∧aw G w s.fr tm (μ++[s.lam]) l b):=by
  intro l b h
  cases l with
  |fr t=>
   by_cases ht:t=d
   ·subst ht
    simp only[aw,S.set,gg,qk tm cv hd]at h
    exact .inl ⟨rfl,h⟩
   ·simp only[aw,S.set,fp _ _ ht,ox tm cv ht]at h
    exact .inr ⟨by simpa using ht,h⟩
  |ob lev i k=>exact .inr ⟨by simp,h⟩
 refine⟨⟨R.lev,fun t=> ?_,R.lam,R.mu,R.inj,fun l l' b h h'=> ?_,fun l b lev i h h'=> ?_,R.nlt,R.nL,R.ngt⟩,fun b hb=> ?_⟩
 ·by_cases ht:t=d
  ·subst ht
   simp only[S.set,gg,qk tm cv hd]
   exact hv
  ·simp only[S.set,fp _ _ ht,ox tm cv ht]
   exact R.fr t
 ·rcases hcase l b h with⟨e,h1⟩|⟨e,h1⟩<;>rcases hcase l' b h' with⟨e',h1'⟩|⟨e',h1'⟩
  ·rw[e,e']
  ·exact absurd ((ho b h1).1 l' h1') e'
  ·exact absurd ((ho b h1').1 l h1) e
  ·exact R.own l l' b h1 h1'
 ·rcases hcase l b h with⟨e,h1⟩|⟨e,h1⟩
  ·exact(ho b h1).2 lev i h'
  ·exact R.apart l b lev i h1 h'
 ·rcases hb with⟨l,hl⟩|h
  ·rcases hcase l b hl with⟨e,h1⟩|⟨e,h1⟩
   ·exact .inr h1
   ·exact .inl (.inl ⟨l,h1⟩)
  ·exact .inl (.inr h)
theorem Rel.strip1 {G:Gh}{w:World}{L:Nat}{s:S}{μ:Mu}{tm:Array Value}(R:Rel G L s μ tm w)(t:Nat):
  Rel G L (s.set t (strip (s.fr t))) μ tm w∧
  (∀l b,aw G w (s.set t (strip (s.fr t))).fr tm (μ++[s.lam]) l b→l≠ .fr t∧aw G w s.fr tm (μ++[s.lam]) l b):=by
 have hcase: ∀l b,aw G w (s.set t (strip (s.fr t))).fr tm (μ++[s.lam]) l b→l≠ .fr t∧aw G w s.fr tm (μ++[s.lam]) l b:=by
  intro l b h
  cases l with
  |fr u=>
   by_cases ht:u=t
   ·subst ht
    simp only[aw,S.set,gg]at h
    exact absurd h ie
   ·simp only[aw,S.set,fp _ _ ht]at h
    exact⟨by simpa using ht,h⟩
  |ob lev i k=>exact⟨by simp,h⟩
 refine⟨⟨R.lev,fun u=> ?_,R.lam,R.mu,R.inj,fun l l' b h h'=>R.own l l' b (hcase l b h).2 (hcase l' b h').2,fun l b lev i h h'=>R.apart l b lev i (hcase l b h).2 h',R.nlt,R.nL,R.ngt⟩,hcase⟩
 by_cases ht:u=t
 ·subst ht
  simp only[S.set,gg]
  exact jb (R.fr u)
 ·simp only[S.set,fp _ _ ht]
  exact R.fr u
theorem aT: ∀(ts:List Nat) (s:S),(ac ts s).lam=s.lam∧(ac ts s).pushed=s.pushed
 |[],s=>⟨rfl,rfl⟩
 |t::r,s=>by simpa[ac,S.set]using aT r (s.set t (strip (s.fr t)))
theorem Rel.strips {G:Gh}{w:World}{L:Nat}{μ:Mu}{tm:Array Value}: ∀(ts:List Nat) {s:S},Rel G L s μ tm w→
  Rel G L (ac ts s) μ tm w∧
  (∀l b,aw G w (ac ts s).fr tm (μ++[s.lam]) l b→(∀t,t∈ts→l≠ .fr t)∧aw G w s.fr tm (μ++[s.lam]) l b)
 |[],s,R=>⟨R,fun l b h=>⟨by simp,h⟩⟩
 |t::r,s,R=>by
  obtain⟨R1,h1⟩:=R.strip1 t
  obtain⟨R2,h2⟩:=Rel.strips r R1
  refine⟨R2,fun l b h=> ?_⟩
  obtain⟨a1,a2⟩:=h2 l b h
  obtain⟨b1,b2⟩:=h1 l b a2
  refine⟨fun u hu=> ?_,b2⟩
  rcases List.mem_cons.1 hu with rfl|hu
  ·exact b1
  ·exact a1 u hu
end Go.Abs
set_option linter.unusedVariables false
namespace Go.Abs
open Go
theorem ab {α β:Type}{x:Option α}{k:α→Option β}{r:β}:opt x k=some r↔ ∃a,x=some a∧k a=some r:=by
 cases x<;>simp[opt]
theorem aJ {β:Type}{b:Bool}{k:Option β}{r:β}:ay b k=some r↔b=true∧k=some r:=by
 cases b<;>simp[ay]
theorem mR {l:List Nat}{t:Nat}:nS l t=true↔t∈l:=by
 induction l with
 |nil=>simp[nS]
 |cons a r ih=>
  simp only[nS,List.mem_cons]
  cases h:Nat.beq a t with
  |true=>simp[Nat.eq_of_beq_eq_true h]
  |false=>
   have:t≠a:=fun e=>by subst e;simp[Nat.beq_refl]at h
   simp[ih,this]
section
variable {G:Gh}{w:World}{L:Nat}
abbrev ax (G:Gh)(w:World)(s:S)(μ:Mu)(tm:Array Value):Nat→Prop:=fb G w s.fr tm (μ++[s.lam])
theorem Nk (vs:List Value):VRL G w (vs.map .v) vs:=by
 induction vs with
 |nil=>simp[VRL]
 |cons v r ih=>simp only[List.map_cons,VRL];exact⟨v,r,rfl,by simp[VR],ih⟩
theorem Pn (nl:Nat)(vs:List Value):bR G w L nl (vs.map fun c=> .cv (.v c)) vs:=by
 induction vs with
 |nil=>simp[bR]
 |cons v r ih=>simp only[List.map_cons,bR];exact⟨v,r,rfl,by simp,by simp[LVR,VR],ih⟩
theorem HX (nl:Nat)(v:Value):LVR G w L nl (f9 v) v:=by
 cases v<;>simp only[f9,LVR,VR]
 ·exact⟨_,rfl,Nk _⟩
 ·exact⟨_,rfl,Pn _ _⟩
theorem u7 {v u:Value}{b:Nat}: ¬aD (f9 v) u b:=by
 cases v<;>simp[f9,aD]
theorem a8 {s:S}{μ:Mu}{a:Act}(R:Rel G L s μ a.tmps w)(h:OpHint)(x:Operand):
  LVR G w L s.lam.length (evA h s.fr x) (a.eval x)∧ ∀b,aD (evA h s.fr x) (a.eval x) b→ ∃t,t∈h.take∧aD (s.fr t) (a.tmps.getD t undef) b:=by
 cases x with
 |tmp t=>
  simp only[evA,Act.eval]
  cases ht:nS h.take t with
  |true=>exact⟨R.fr t,fun b hb=>⟨t,mR.1 ht,hb⟩⟩
  |false=>exact⟨jb (R.fr t),fun b hb=>absurd hb ie⟩
 |const c=>exact⟨HX _ c,fun b hb=>absurd hb u7⟩
 |global g=>exact⟨by simp[evA,LVR,VR],fun b hb=>by simp[evA,aD]at hb⟩
 |func f=>exact⟨by simp only[evA,LVR,VR,Act.eval];exact⟨#[],rfl,by simp[VRL]⟩,fun b hb=>by simp[evA,aD]at hb⟩
theorem cN {G0:Gh}{w0:World}{T0:Nat→Prop}{s:S}{μ:Mu}{a:Act}{v:LV}{cv:Value}{dst:Option Tmp}(R:Rel G L s μ a.tmps w)
  (E:Ext L T0 G0 w0 G w (ax G w s μ a.tmps)) (hv:LVR G w L s.lam.length v cv)
  (ho: ∀b,aD v cv b→(∀l,¬aw G w s.fr a.tmps (μ++[s.lam]) l b)∧(∀lev i,aK (aC (μ++[s.lam]) lev i)→G.β lev i≠b)∧(T0 b∨w0.heap.size≤b))
  (hd: ∀d,dst=some d→d<a.tmps.size):
  Rel G L (s.put dst v) μ (a.put dst cv).tmps w∧Ext L T0 G0 w0 G w (ax G w (s.put dst v) μ (a.put dst cv).tmps):=by
 cases dst with
 |none=>exact⟨R,E⟩
 |some d=>
  obtain⟨R',h⟩:=R.put (hd d rfl) hv fun b hb=>⟨fun l hl=>absurd hl ((ho b hb).1 l),(ho b hb).2.1⟩
  refine⟨R',⟨E.le,E.os,E.tape,E.output,E.size,E.keep,fun b hb=> ?_,E.lev⟩⟩
  rcases h b hb with h|h
  ·exact E.grow b h
  ·exact(ho b h).2.2
theorem KP {s:S}{μ:Mu}{a:Act}{v:LV}{cv:Value}{dst:Option Tmp}{ts:List Nat}(R:Rel G L s μ a.tmps w)
  (hv:LVR G w L s.lam.length v cv) (ho: ∀b,aD v cv b→ ∃t,t∈ts∧aD (s.fr t) (a.tmps.getD t undef) b)
  (hd: ∀d,dst=some d→d<a.tmps.size):
  Rel G L ((ac ts s).put dst v) μ (a.put dst cv).tmps w∧
  Ext L (ax G w s μ a.tmps) G w G w (ax G w ((ac ts s).put dst v) μ (a.put dst cv).tmps):=by
 obtain⟨R',h⟩:=Rel.strips ts R
 have hl:=aT ts s
 refine cN R' (Ext.refl G w fun b hb=> ?_) (by rw[hl.1];exact hv) (fun b hb=> ?_) hd
 ·rcases hb with⟨l,hb⟩|hb
  ·exact .inl ⟨l,(h l b (by rw[←hl.1];exact hb)).2⟩
  ·exact .inr (by rw[←hl.1];exact hb)
 ·obtain⟨t,ht,ho⟩:=ho b hb
  refine⟨fun l hl'=> ?_,fun lev i hlv=> ?_,.inl (.inl ⟨.fr t,ho⟩)⟩
  ·obtain⟨h1,h2⟩:=h l b (by rw[←hl.1];exact hl')
   exact h1 t ht (R.own l (.fr t) b h2 ho)
  ·exact R.apart (.fr t) b lev i ho (by rw[←hl.1];exact hlv)
end
end Go.Abs
set_option linter.unusedVariables false
namespace Go.Abs
open Go
section
variable {G:Gh}{w:World}{L nl:Nat}
theorem gO {k:IntKind}{x:LV}{n:Int}(h:aI k x=some n):x= .cv (.v (.int k n)):=by
 unfold aI at h
 split at h
 ·rename_i k' m
  cases hk:decide (k=k')with
  |true=>simp only[hk,Option.some.injEq]at h;simp only[decide_eq_true_eq]at hk;rw[h,hk]
  |false=>simp[hk]at h
 ·simp at h
theorem fh {x:LV}{b:Bool}(h:aQ x=some b):x= .cv (.v (.bool b)):=by
 unfold aQ at h;split at h<;>simp_all
theorem fi {x:LV}{l:List UInt8}(h:aN x=some l):x=LV.str l:=by
 unfold aN at h;split at h<;>simp_all
 subst h;rfl
theorem nk {x:LV}{n:Int}(h:lc x=some n): ∃k,x= .cv (.v (.int k n)):=by
 unfold lc at h;split at h<;>simp_all
theorem nr {x:LV}{cs:List CV}(h:li x=some cs):x= .cv (.agg cs):=by
 unfold li at h;split at h<;>simp_all
theorem xO {x:LV}{xs:List LV}(h:aX x=some xs):x= .ltup xs:=by
 unfold aX at h;split at h<;>simp_all
theorem pK {x:LV}{cs:List CV}(h:kf x=some cs):x= .cv (.view cs):=by
 unfold kf at h;split at h<;>simp_all
theorem nt {x:LV}{q:Nat×Nat×Nat}(h:oy x=some q):x= .cv (.ref q.1 q.2.1 q.2.2):=by
 unfold oy at h;split at h<;>simp_all
 subst h;exact⟨rfl,rfl,rfl⟩
theorem Js {x:LV}{q:Nat×Nat×Nat×Nat}(h:Aw x=some q):x= .cv (.msl q.1 q.2.1 q.2.2.1 q.2.2.2):=by
 unfold Aw at h;split at h<;>simp_all
 subst h;exact⟨rfl,rfl,rfl,rfl⟩
theorem Po:VR G w (.sl []) (.slice none 0 0):=by
 simp only[VR];exact⟨none,0,0,rfl,rfl,Nat.le_refl _,.inl rfl⟩
theorem fS {x:LV}{xs:List CV}(h:cF x=some xs){v:Value}(hv:LVR G w L nl x v):VR G w (.sl xs) v:=by
 unfold cF at h
 split at h<;>simp only[Option.some.injEq,reduceCtorEq]at h<;>subst h
 ·simpa[LVR]using hv
 ·simp only[LVR,VR]at hv;subst hv;exact Po
 ·exact fV hv
theorem il {x:LV}{xs:List CV}(h:fG x=some xs){v:Value}(hv:LVR G w L nl x v):kz G w xs v∧ ∀b,aD (.osl xs) v b→aD x v b:=by
 unfold fG at h
 split at h<;>simp only[Option.some.injEq,reduceCtorEq]at h<;>subst h
 ·exact⟨hv,fun b hb=>hb⟩
 ·simp only[LVR,VR]at hv;subst hv;exact⟨.inl ⟨rfl,rfl⟩,fun b hb=>by simp[aD]at hb⟩
theorem eH {x:LV}{c:CV}(h:d8 x=some c){v:Value}(hv:LVR G w L nl x v):VR G w c v:=by
 unfold d8 at h
 split at h<;>simp only[Option.some.injEq,reduceCtorEq]at h<;>subst h
 ·simpa[LVR]using hv
 ·exact fV hv
theorem yw {α:Type}{l:List α}{q:α×List α}(h:aB l=some q):l=q.1::q.2:=by
 cases l<;>simp[aB]at h;subst h;rfl
theorem xP {α:Type}{l:List α}{u:Unit}(h:aS l=some u):l=[]:=by
 cases l<;>simp[aS]at h ⊢
theorem nN {β:Type}{d:TypeDesc}{x:LV}{k:CV→Option β}{r:β}(h:iU d x k=some r):
  ∃c,k c=some r∧ ∀(G:Gh) (w:World) (L nl:Nat) v,LVR G w L nl x v→VR G w c v:=by
 unfold iU at h
 split at h<;>obtain⟨a,h1,h2⟩:=ab.1 h<;>refine⟨_,h2,fun G w L nl v hv=> ?_⟩
 ·rw[gO h1]at hv;simpa[LVR]using hv
 ·rw[fh h1]at hv;simpa[LVR]using hv
 ·rw[fi h1]at hv;simpa[LVR]using hv
 ·exact fS h1 hv
 ·exact eH h1 hv
def iG (cs cs':List CV):Prop:=cs'.length=cs.length∧ ∀(j:Nat) (c c':CV),cs[j]? =some c→cs'[j]? =some c'→ ∀(G:Gh) (w:World) (v:Value),VR G w c v→VR G w c' v
theorem iG.cons {c c':CV}{r r':List CV}(h:iG r r')(hc: ∀(G:Gh) (w:World) v,VR G w c v→VR G w c' v):iG (c::r) (c'::r'):=by
 refine⟨by simp[h.1],fun j x x' hx hx'=> ?_⟩
 cases j with
 |zero=>simp only[List.getElem?_cons_zero,Option.some.injEq]at hx hx';subst hx;subst hx';exact hc
 |succ j=>exact h.2 j x x' (by simpa using hx) (by simpa using hx')
theorem iG.tail {c c':CV}{r r':List CV}(h:iG (c::r) (c'::r')):iG r r'∧ ∀(G:Gh) (w:World) v,VR G w c v→VR G w c' v:=
 ⟨⟨by simpa using h.1,fun j x x' hx hx'=>h.2 (j+1) x x' (by simpa using hx) (by simpa using hx')⟩,h.2 0 c c' rfl rfl⟩
theorem iG.VRL: ∀{cs cs':List CV},iG cs cs'→ ∀{vs},VRL G w cs vs→VRL G w cs' vs
 |[],[],_,vs,h=>h
 |[],_::_,hf,_,_=>by simp[iG]at hf
 |_::_,[],hf,_,_=>by simp[iG]at hf
 |c::r,c'::r',hf,vs,h=>by
  simp only[Go.Abs.VRL]at h ⊢
  obtain⟨v,s,e,h1,h2⟩:=h
  exact⟨v,s,e,hf.tail.2 G w v h1,hf.tail.1.VRL h2⟩
theorem iG.CL {b:Nat}: ∀{off:Nat} {cs cs':List CV},iG cs cs'→CL G w b off cs→CL G w b off cs'
 |_,[],[],_,h=>h
 |_,[],_::_,hf,_=>by simp[iG]at hf
 |_,_::_,[],hf,_=>by simp[iG]at hf
 |off,c::r,c'::r',hf,h=>by
  simp only[Go.Abs.CL]at h ⊢
  obtain⟨⟨v,h1,h2,h3⟩,h4⟩:=h
  exact⟨⟨v,h1,h2,hf.tail.2 G w v h3⟩,hf.tail.1.CL h4⟩
theorem jA {β:Type}: ∀{ds:List TypeDesc} {cs:List CV} {k:List CV→Option β} {r:β},fc ds cs k=some r→ ∃cs',k cs'=some r∧iG cs cs'
 |[],cs,k,r,h=>by
  simp only[fc]at h
  obtain⟨u,h1,h2⟩:=ab.1 h
  rw[xP h1]
  exact⟨[],h2,rfl,fun j c c' hc=>by simp at hc⟩
 |d::ds,cs,k,r,h=>by
  simp only[fc]at h
  obtain⟨q,h1,h2⟩:=ab.1 h
  rw[yw h1]
  obtain⟨c,h3,h4⟩:=nN h2
  obtain⟨cs',h5,h6⟩:=jA h3
  exact⟨c::cs',h5,h6.cons fun G w v hv=>h4 G w 0 0 v (by simpa[LVR]using hv)⟩
theorem m0 {β:Type}{P:Program}{t:TypeId}{x:LV}{k:CV→Option β}{r:β}(h:hZ P t x k=some r):
  ∃c,k c=some r∧ ∀(G:Gh) (w:World) (L nl:Nat) v,LVR G w L nl x v→VR G w c v:=by
 unfold hZ at h
 split at h
 ·obtain⟨cs,h1,h2⟩:=ab.1 h
  obtain⟨cs',h3,h4⟩:=jA h2
  refine⟨_,h3,fun G w L nl v hv=> ?_⟩
  rw[nr h1]at hv
  simp only[LVR,VR]at hv ⊢
  obtain⟨vs,e,hl⟩:=hv
  exact⟨vs,e,h4.VRL hl⟩
 ·split at h
  ·exact nN h
  ·simp at h
theorem r3 {β:Type}{P:Program}{own:Bool}{t:TypeId}{x:LV}{k:LV→Option β}{r:β}(h:iR P own t x k=some r):
  ∃y,k y=some r∧ ∀(G:Gh) (w:World) (L nl:Nat) v,LVR G w L nl x v→LVR G w L nl y v∧(∀b,aD y v b→aD x v b)∧(own=false→ ∀xs,y≠ .osl xs):=by
 unfold iR at h
 split at h
 ·obtain⟨xs,h1,h2⟩:=ab.1 h
  exact⟨_,h2,fun G w L nl v hv=>⟨(il h1 hv).1,(il h1 hv).2,by simp⟩⟩
 ·obtain⟨c,h1,h2⟩:=m0 h
  exact⟨_,h1,fun G w L nl v hv=>⟨by simp only[LVR];exact h2 G w L nl v hv,fun b hb=>by simp[aD]at hb,by simp⟩⟩
theorem oS {β:Type}{P:Program}: ∀{ts:List TypeId} {xs:List LV} {k:List LV→Option β} {r:β},d5 P ts xs k=some r→
  ∃ys,k ys=some r∧ ∀(G:Gh) (w:World) (L nl:Nat) vs,bR G w L nl xs vs→bR G w L nl ys vs
 |[],xs,k,r,h=>by
  simp only[d5]at h
  obtain⟨u,h1,h2⟩:=ab.1 h
  rw[xP h1]
  exact⟨[],h2,fun G w L nl vs hv=>hv⟩
 |t::ts,xs,k,r,h=>by
  simp only[d5]at h
  obtain⟨q,h1,h2⟩:=ab.1 h
  rw[yw h1]
  obtain⟨y,h3,h4⟩:=r3 h2
  obtain⟨ys,h5,h6⟩:=oS h3
  refine⟨y::ys,h5,fun G w L nl vs hv=> ?_⟩
  simp only[bR]at hv ⊢
  obtain⟨v,s,e,h0,h7,h8⟩:=hv
  exact⟨v,s,e,(h4 G w L nl v h7).2.2 rfl,(h4 G w L nl v h7).1,h6 G w L nl s h8⟩
theorem ek {β:Type}{P:Program}{own:Bool}{t:TypeId}{x:LV}{k:LV→Option β}{r:β}(h:dv P own t x k=some r):
  ∃y,k y=some r∧ ∀(G:Gh) (w:World) (L nl:Nat) v,LVR G w L nl x v→LVR G w L nl y v∧(∀b,aD y v b→aD x v b):=by
 unfold dv at h
 split at h
 ·obtain⟨xs,h1,h2⟩:=ab.1 h
  obtain⟨ys,h3,h4⟩:=oS h2
  refine⟨_,h3,fun G w L nl v hv=>⟨?_,fun b hb=>by simp[aD]at hb⟩⟩
  rw[xO h1]at hv
  simp only[LVR]at hv ⊢
  obtain⟨vs,e,hl⟩:=hv
  exact⟨vs,e,h4 G w L nl _ hl⟩
 ·obtain⟨y,h1,h2⟩:=r3 h
  exact⟨y,h1,fun G w L nl v hv=>⟨(h2 G w L nl v hv).1,(h2 G w L nl v hv).2.1⟩⟩
theorem qu {β:Type}{P:Program}{b:Bool}{t:TypeId}{x:LV}{k:LV→Option β}{r:β}(h:js P b t x k=some r):
  ∃y,k y=some r∧ ∀(G:Gh) (w:World) (L nl:Nat) v,LVR G w L nl x v→LVR G w L nl y v∧(∀b,aD y v b→aD x v b):=by
 cases b with
 |true=>exact ek h
 |false=>exact⟨x,h,fun G w L nl v hv=>⟨hv,fun _ hb=>hb⟩⟩
theorem kH {α:Type}{P:Program}{t:TypeId}{o:Ob}{off:Nat}{v:LV}{k:Ob→Option α}:uN P t o off v k=opt (bP P t o off v) k:=by
 cases o with
 |arr sz cs=>
  simp only[uN,bP]
  cases d8 v with
  |none=>rfl
  |some c=>
   simp only[opt]
   cases cL P t with
   |none=>rfl
   |some n=>
    simp only[]
    cases (fg n c&&Nat.ble (off+n) cs.length)<;>rfl
 |cells cs=>rfl
 |dead=>rfl
 |map ks vs=>rfl
end
end Go.Abs
set_option linter.unusedVariables false
set_option linter.unusedSimpArgs false
namespace Go.Abs
open Go
section
variable {G:Gh}{w:World}{L nl:Nat}{P:Program}
theorem LH {op:BinOp}{t:TypeId}{k k':IntKind}{a b:Int}{c:CV}(h:mK op k a k' b=some c):
    ∃v,(binOp op t (.int k a) (.int k' b)).run P w= .ok v w∧c= .v v:=by
  by_cases hs:op= .shl∨op= .shr
  · rcases hs with rfl|rfl<;>unfold mK at h<;>simp only[]at h<;>
      (cases hb : decide (b < 0) <;> simp only [hb, Option.some.injEq, reduceCtorEq] at h
       have hb': ¬b<0:=by simpa using hb
       exact⟨_,by simp only[binOp,Op.shift,if_neg hb'];rfl,h.symm⟩)
  · have hk:decide (k=k')=true:=by
      cases hk:decide (k=k')with
      |true=>rfl
      |false=>exfalso;unfold mK at h;cases op<;>simp_all
    simp only[decide_eq_true_eq]at hk
    subst hk
    unfold mK at h
    cases op<;>simp only[eq_self_iff_true,decide_true]at h
    case quo=>
      cases hb:decide (b=0)<;>simp only[hb,Option.some.injEq,reduceCtorEq]at h
      have hb': ¬b=0:=by simpa using hb
      exact⟨_,by simp only[binOp,ne_eq,not_true_eq_false,if_false,Op.intDiv,if_neg hb'];rfl,h.symm⟩
    case rem=>
      cases hb:decide (b=0)<;>simp only[hb,Option.some.injEq,reduceCtorEq]at h
      have hb': ¬b=0:=by simpa using hb
      exact⟨_,by simp only[binOp,ne_eq,not_true_eq_false,if_false,Op.intDiv,if_neg hb'];rfl,h.symm⟩
    case shl=>exact absurd (.inl rfl) hs
    case shr=>exact absurd (.inr rfl) hs
    all_goals
      simp only[Option.some.injEq,reduceCtorEq]at h
      exact⟨_,by simp only[binOp,ne_eq,not_true_eq_false,if_false];rfl,h.symm⟩
theorem qq (a b:ByteArray):(a.toList == b.toList)=decide (a.data.toList=b.data.toList):=by
  rw[ByteArray.toList_eq,ByteArray.toList_eq]
  cases h:decide (a.data.toList=b.data.toList)with
  |true=>simp only[decide_eq_true_eq]at h;rw[h];simp
  |false=>simp only[decide_eq_false_iff_not]at h;simpa using h
theorem ym (a:ByteArray):a.size=a.data.toList.length:=rfl
theorem JT (a b:ByteArray):a++b=⟨⟨a.data.toList++b.data.toList⟩⟩:=by
  apply ByteArray.ext
  simp[ByteArray.data_append]
theorem MU {op:BinOp}{t:TypeId}{a b:ByteArray}{c:CV}(h:Bw op a.data.toList b.data.toList=some c):
    ∃v,(binOp op t (.string a) (.string b)).run P w= .ok v w∧c= .v v:=by
  unfold Bw at h
  have hb:binOp op t (.string a) (.string b)=Op.stringOp op a b:=by cases op<;>rfl
  rw[hb]
  cases op<;>simp only[Option.some.injEq,reduceCtorEq]at h
  · cases hs:bn (a.data.toList.length+b.data.toList.length)<;>simp only[hs,Option.some.injEq,reduceCtorEq]at h
    simp only[bn,decide_eq_true_eq]at hs
    refine⟨_,?_,h.symm⟩
    have: ¬((a.size+b.size:Nat):Int)>IntKind.i64.max:=by
      rw[ym,ym]
      simp only[IntKind.max,IntKind.bits,IntKind.signed]
      omega
    simp only[Op.stringOp,if_neg this,Sem.run_pure,JT]
  all_goals
    refine⟨_,rfl,?_⟩
    rw[←h]
    simp only[CV.bool]
    (try rw[qq])
    (try simp only[ByteArray.toList_eq])
theorem FA {d:TypeDesc}{c c':CV}{b:Bool}(h:zT c c'=some b): ∃v v',c= .v v∧c'= .v v'∧
    ((∃k m n,v= .int k m∧v'= .int k n∧b=decide (m=n))∨(∃m n,v= .bool m∧v'= .bool n∧b=(m == n))∨(∃m n,v= .string m∧v'= .string n∧b=decide (m.data.toList=n.data.toList))):=by
  unfold zT at h
  split at h
  · rename_i k m k' n
    cases hk:decide (k=k')<;>simp only[hk,Option.some.injEq,reduceCtorEq]at h
    simp only[decide_eq_true_eq]at hk
    subst hk
    exact⟨_,_,rfl,rfl,.inl ⟨_,_,_,rfl,rfl,h.symm⟩⟩
  · simp only[Option.some.injEq]at h
    exact⟨_,_,rfl,rfl,.inr (.inl ⟨_,_,rfl,rfl,h.symm⟩)⟩
  · simp only[Option.some.injEq]at h
    exact⟨_,_,rfl,rfl,.inr (.inr ⟨_,_,rfl,rfl,h.symm⟩)⟩
  · simp at h
theorem dQ: ∀{cs:List CV} {vs:List Value},VRL G w cs vs→cs.length=vs.length∧ ∀(j:Nat) c,cs[j]? =some c→ ∃v,vs[j]? =some v∧VR G w c v
  |[],vs,h=>by simp only[VRL]at h;subst h;exact⟨rfl,fun j c hc=>by simp at hc⟩
  |c::cs,vs,h=>by
    simp only[VRL]at h
    obtain⟨v,r,rfl,h1,h2⟩:=h
    obtain⟨e,hg⟩:=dQ h2
    refine⟨by simp[e],fun j x hx=> ?_⟩
    cases j with
    |zero=>simp only[List.getElem?_cons_zero,Option.some.injEq]at hx;subst hx;exact⟨v,rfl,h1⟩
    |succ j=>simpa using hg j x (by simpa using hx)
theorem oX: ∀{cs:List LV} {vs:List Value},bR G w L nl cs vs→cs.length=vs.length∧ ∀(j:Nat) c,cs[j]? =some c→ ∃v,vs[j]? =some v∧LVR G w L nl c v∧ ∀xs,c≠ .osl xs
  |[],vs,h=>by simp only[bR]at h;subst h;exact⟨rfl,fun j c hc=>by simp at hc⟩
  |c::cs,vs,h=>by
    simp only[bR]at h
    obtain⟨v,r,rfl,h0,h1,h2⟩:=h
    obtain⟨e,hg⟩:=oX h2
    refine⟨by simp[e],fun j x hx=> ?_⟩
    cases j with
    |zero=>simp only[List.getElem?_cons_zero,Option.some.injEq]at hx;subst hx;exact⟨v,rfl,h1,h0⟩
    |succ j=>simpa using hg j x (by simpa using hx)
theorem Pc {op:UnOp}{x:LV}{v:Value}{c:CV}(h:unA op x=some c)(hv:LVR G w L nl x v):
    ∃u,(Op.unary op v).run P w= .ok u w∧c= .v u:=by
  unfold unA at h
  split at h
  · simp only[LVR,VR]at hv
    subst hv
    cases op<;>simp only[Option.some.injEq,reduceCtorEq]at h
    exact⟨_,rfl,h.symm⟩
  · simp only[LVR,VR]at hv
    subst hv
    cases op<;>simp only[Option.some.injEq,reduceCtorEq]at h
    · exact⟨_,by simp[Op.unary,Op.intArith],h.symm⟩
    · exact⟨_,by simp[Op.unary,Op.intBits],h.symm⟩
  · simp at h
theorem Kk {t:Bool}{x y:LV}{u v:Value}(hx:LVR G w L nl x u)(hy:LVR G w L nl y v):
    LVR G w L nl (vY t x y) (if t=true then u else v)∧ ∀b,aD (vY t x y) (if t=true then u else v) b→aD x u b∨aD y v b:=by
  unfold vY
  split
  · simp only[LVR,VR]at hx hy ⊢
    subst hx;subst hy
    exact⟨by cases t<;>rfl,fun b hb=>by simp[aD]at hb⟩
  · cases t
    · exact⟨hy,fun b hb=> .inr hb⟩
    · exact⟨hx,fun b hb=> .inl hb⟩
end
end Go.Abs
set_option linter.unusedVariables false
set_option linter.unusedSimpArgs false
namespace Go.Abs
open Go
section
variable {G:Gh}{w:World}{L nl:Nat}{P:Program}
theorem C6 {t:TypeId}{d:TypeDesc}(h:P.underlying t=some d)(hs: ∀fs,d≠ .struct fs)(ha: ∀n e,d≠ .array n e){cs:Array Value}{off:Nat}{v:Value}(hv:cs[off]? =some v):
  (part t cs off).run P w= .ok v w:=by
 simp only[part,isAgg,Sem.run_bind,run_underlying h,Result.andThen_ok]
 cases d<;>first
  |(exact absurd rfl (hs _))
  |(exact absurd rfl (ha _ _))
  |simp[hv]
theorem rf {xs ys:Array Value}{d:Nat}: ∀(fs:List Field) (k:Nat) (ms ns:List CV) (r:Bool),
  (fs.zipIdx k).all (fun q=>q.1.offset == q.2&&q.1.name != "_" &&(match P.underlying q.1.type with|some (.int _)=>true|some .bool=>true|some .string=>true|_=>false))=true→
  io (fs.map fun f=>(P.underlying f.type).getD .invalid) ms=true→io (fs.map fun f=>(P.underlying f.type).getD .invalid) ns=true→
  (∀j u,ms[j]? =some (.v u)→xs[k+j]? =some u)→(∀j u,ns[j]? =some (.v u)→ys[k+j]? =some u)→ol ms ns=some r→
  (Op.eqFields (d+1) xs ys fs).run P w= .ok r w
 |[],k,ms,ns,r,h1,h2,h3,h4,h5,h6=>by
  cases ms<;>cases ns<;>simp[io,ol]at h2 h3 h6
  subst h6
  simp[Op.eqFields]
 |f::fs,k,ms,ns,r,h1,h2,h3,h4,h5,h6=>by
  cases ms with
  |nil=>simp[io]at h2
  |cons m ms=>
   cases ns with
   |nil=>simp[io]at h3
   |cons n ns=>
    simp only[List.map_cons,io,Bool.and_eq_true]at h2 h3
    simp only[List.zipIdx_cons,List.all_cons,Bool.and_eq_true,beq_iff_eq,bne_iff_ne]at h1
    obtain⟨⟨⟨ho,hn⟩,hk⟩,hr⟩:=h1
    simp only[ol]at h6
    obtain⟨b,hb,h6⟩:=ab.1 h6
    obtain⟨b2,hb2,h6⟩:=ab.1 h6
    simp only[Option.some.injEq]at h6
    have ih:=rf (d:=d) (xs:=xs) (ys:=ys) fs (k+1) ms ns b2 (by simpa[Bool.and_eq_true]using hr) h2.2 h3.2 (fun j u hu=>by have:=h4 (j+1) u (by simpa using hu);rw[←this];congr 1;omega)
     (fun j u hu=>by have:=h5 (j+1) u (by simpa using hu);rw[←this];congr 1;omega) hb2
    obtain⟨u,v,rfl,rfl,hc⟩:=FA (d:= .bool) hb
    have hx:=h4 0 u rfl
    have hy:=h5 0 v rfl
    simp only[Nat.add_zero]at hx hy
    have hrun:(Op.equalIn (d+1) f.type u v).run P w= .ok b w:=by
     rcases hc with⟨kk,m,n,rfl,rfl,rfl⟩|⟨m,n,rfl,rfl,rfl⟩|⟨m,n,rfl,rfl,rfl⟩
     ·have: ∃k',P.underlying f.type=some (.int k'):=by
       have h2':=h2.1
       split at hk<;>rename_i hu<;>simp only[hu,Option.getD_some,vF]at h2'<;>first|exact⟨_,hu⟩|simp at h2'|simp at hk
      obtain⟨k',hu⟩:=this
      rw[run_equalIn_int w d f.type kk k' m n hu];rfl
     ·have:P.underlying f.type=some .bool:=by
       have h2':=h2.1
       split at hk<;>rename_i hu<;>simp only[hu,Option.getD_some,vF]at h2'<;>first|exact hu|simp at h2'|simp at hk
      rw[run_equalIn_bool' w d f.type m n this]
     ·have:P.underlying f.type=some .string:=by
       have h2':=h2.1
       split at hk<;>rename_i hu<;>simp only[hu,Option.getD_some,vF]at h2'<;>first|exact hu|simp at h2'|simp at hk
      rw[run_equalIn_string w d f.type m n this,qq]
    have hp: ∀{cs:Array Value} {v:Value},cs[k]? =some v→(part f.type cs f.offset).run P w= .ok v w:=by
     intro cs v hv
     rw[ho]
     split at hk<;>rename_i hu<;>first|exact C6 hu (by simp) (by simp) hv|simp at hk
    simp only[Op.eqFields,hn,ne_eq,not_false_eq_true,if_true,Sem.run_bind,hp hx,hp hy,Result.andThen_ok,hrun]
    cases b
    ·simp at h6;subst h6;simp
    ·simp at h6;subst h6;simpa using ih
theorem qd {x:CV}{xs:List CV}{u:Value}(h:VR G w (.sl (x::xs)) u): ∃A n c,u= .slice (some A) (n+1) c:=by
 simp only[VR]at h
 obtain⟨A,len,cap,rfl,hl,hc,h⟩:=h
 rcases h with h|⟨b,off,s,rfl,_⟩
 ·simp[h]at hl
 ·exact⟨_,xs.length,cap,by rw[hl];rfl⟩
def sf (P:Program)(w:World)(t:TypeId)(u cn:Value)(r:Bool):Prop:=
 (∀op o,(eqGuard op t o (.const cn) u cn).run P w= .ok () w∧(eqGuard op t (.const cn) o cn u).run P w= .ok () w)∧
 (binOp .eql t u cn).run P w= .ok (.bool r) w∧(binOp .neq t u cn).run P w= .ok (.bool (!r)) w∧(binOp .eql t cn u).run P w= .ok (.bool r) w∧(binOp .neq t cn u).run P w= .ok (.bool (!r)) w
theorem Ap {t e:TypeId}(hd:P.underlying t=some (.pointer e))(d:Nat)(A:Option Addr):
  (Op.equalIn (d+1) t (.pointer A) (.pointer none)).run P w= .ok A.isNone w∧(Op.equalIn (d+1) t (.pointer none) (.pointer A)).run P w= .ok A.isNone w:=by
 cases A<;>simp[Op.equalIn,run_underlying hd]
theorem D9 {t:TypeId}{ms:Array (String×TypeId)}(hd:P.underlying t=some (.interface ms))(d:Nat):(Op.equalIn (d+1) t .nilIface .nilIface).run P w= .ok true w:=by
 simp[Op.equalIn,run_underlying hd]
theorem Ao {t k:TypeId}{v:Value}{ms:Array (String×TypeId)}(hd:P.underlying t=some (.interface ms))(d:Nat):
  (Op.equalIn (d+1) t (.iface k v) .nilIface).run P w= .ok false w∧(Op.equalIn (d+1) t .nilIface (.iface k v)).run P w= .ok false w:=by
 simp[Op.equalIn,run_underlying hd]
theorem Ea {t e:TypeId}(hd:P.underlying t=some (.slice e))(d:Nat)(A:Option Addr)(n c:Nat)(h:A=none→n=0∧c=0):
  (Op.equalIn (d+1) t (.slice A n c) (.slice none 0 0)).run P w= .ok A.isNone w∧(Op.equalIn (d+1) t (.slice none 0 0) (.slice A n c)).run P w= .ok A.isNone w:=by
 cases A with
 |none=>obtain⟨rfl,rfl⟩:=h rfl;simp[Op.equalIn,run_underlying hd]
 |some a=>simp[Op.equalIn,run_underlying hd]
theorem vS {t:TypeId}{u cn:Value}{r:Bool}(h1: ∀d,(Op.equalIn (d+1) t u cn).run P w= .ok r w)(h2: ∀d,(Op.equalIn (d+1) t cn u).run P w= .ok r w)
  (hg: ∀op o,(eqGuard op t o (.const cn) u cn).run P w= .ok () w∧(eqGuard op t (.const cn) o cn u).run P w= .ok () w)
  (hb:binOp .eql t u cn=(do pure (.bool (←Op.equal t u cn)))∧binOp .neq t u cn=(do pure (.bool (!(←Op.equal t u cn))))∧binOp .eql t cn u=(do pure (.bool (←Op.equal t cn u)))∧binOp .neq t cn u=(do pure (.bool (!(←Op.equal t cn u))))):
  sf P w t u cn r:=by
 have e1:(Op.equal t u cn).run P w= .ok r w:=h1 9999
 have e2:(Op.equal t cn u).run P w= .ok r w:=h2 9999
 refine⟨hg,?_,?_,?_,?_⟩
 ·rw[hb.1,Sem.run_bind,e1];rfl
 ·rw[hb.2.1,Sem.run_bind,e1];rfl
 ·rw[hb.2.2.1,Sem.run_bind,e2];rfl
 ·rw[hb.2.2.2,Sem.run_bind,e2];rfl
theorem sE {t e:TypeId}(hd:P.underlying t=some (.pointer e))(A:Option Addr):sf P w t (.pointer A) (.pointer none) A.isNone:=
 vS (fun d=>(Ap hd d A).1) (fun d=>(Ap hd d A).2) (fun op o=>by cases op<;>exact⟨rfl,rfl⟩) ⟨rfl,rfl,rfl,rfl⟩
theorem Qu {t:TypeId}{ms:Array (String×TypeId)}(hd:P.underlying t=some (.interface ms)):sf P w t .nilIface .nilIface true:=
 vS (fun d=>D9 hd d) (fun d=>D9 hd d) (fun op o=>by cases op<;>cases o<;>exact⟨rfl,rfl⟩) ⟨rfl,rfl,rfl,rfl⟩
theorem OV {t k:TypeId}{v:Value}{ms:Array (String×TypeId)}(hd:P.underlying t=some (.interface ms)):sf P w t (.iface k v) .nilIface false:=
 vS (fun d=>(Ao hd d).1) (fun d=>(Ao hd d).2) (fun op o=>by cases op<;>exact⟨rfl,rfl⟩) ⟨rfl,rfl,rfl,rfl⟩
theorem A4 {t e:TypeId}(hd:P.underlying t=some (.slice e))(A:Option Addr)(n c:Nat)(h:A=none→n=0∧c=0):sf P w t (.slice A n c) (.slice none 0 0) A.isNone:=
 vS (fun d=>(Ea hd d A n c h).1) (fun d=>(Ea hd d A n c h).2) (fun op o=>by cases op<;>exact⟨rfl,rfl⟩) ⟨rfl,rfl,rfl,rfl⟩
theorem xJ {t:TypeId}{d:TypeDesc}{u cn:Value}{r:Bool}{x:LV}(hd:P.underlying t=some d)(hx:rF d cn x=some r)(hv:LVR G w L nl x u):sf P w t u cn r:=by
 unfold rF at hx
 split at hx
 ·unfold J8 at hx
  split at hx<;>simp only[Option.some.injEq,reduceCtorEq]at hx<;>subst hx
  ·simp only[LVR,VR]at hv;subst hv;exact sE hd _
  ·simp only[LVR,VR]at hv;obtain⟨b,off,rfl,_⟩:=hv;exact sE hd _
  ·simp only[LVR,VR]at hv;obtain⟨_,rfl⟩:=hv;exact sE hd _
  ·simp only[LVR]at hv;obtain⟨_,rfl⟩:=hv;exact sE hd _
 ·unfold yZ at hx
  split at hx<;>simp only[Option.some.injEq,reduceCtorEq]at hx<;>subst hx
  ·simp only[LVR,VR]at hv;subst hv;exact Qu hd
  ·simp only[LVR,VR]at hv;obtain⟨v,rfl,_⟩:=hv;exact OV hd
 ·unfold NG at hx
  split at hx<;>simp only[Option.some.injEq,reduceCtorEq]at hx<;>subst hx
  ·simp only[LVR,VR]at hv;subst hv;exact A4 hd none 0 0 (by simp)
  ·simp only[LVR]at hv;obtain⟨A,n,c,rfl⟩:=qd hv;exact A4 hd (some A) _ _ (by simp)
  ·simp only[LVR]at hv;obtain⟨A,n,c,rfl⟩:=qd (fV hv);exact A4 hd (some A) _ _ (by simp)
 ·simp at hx
theorem B5 {op:BinOp}{t:TypeId}{x y:Operand}{k k':IntKind}{m n:Int}:(eqGuard op t x y (.int k m) (.int k' n)).run P w= .ok () w:=by cases op<;>rfl
theorem B6 {op:BinOp}{t:TypeId}{x y:Operand}{m n:ByteArray}:(eqGuard op t x y (.string m) (.string n)).run P w= .ok () w:=by cases op<;>rfl
theorem rh {op:BinOp}{t:TypeId}{x y:Operand}{m n:Bool}:(eqGuard op t x y (.bool m) (.bool n)).run P w= .ok () w:=by cases op<;>rfl
theorem Ds {t:TypeId}(hd:P.underlying t=some .bool)(m n:Bool):(Op.equal t (.bool m) (.bool n)).run P w= .ok (m == n) w:=run_equalIn_bool' w 9999 t m n hd
theorem vq {x:Operand}{c:Value}(h:jh x=some c):x= .const c:=by
 cases x<;>simp[jh]at h ⊢; exact h
theorem Lm {op:BinOp}{t:TypeId}{x y:Operand}{a b:LV}{c:CV}{u v:Value}(h:pB P op t x y a b=some c)(ha:LVR G w L nl a u)(hb:LVR G w L nl b v)
  (hx: ∀cc,x= .const cc→u=cc) (hy: ∀cc,y= .const cc→v=cc):
  ∃cv,(do eqGuard op t x y u v;binOp op t u v:Sem Value).run P w= .ok cv w∧c= .v cv:=by
 unfold pB at h
 split at h
 ·simp only[LVR,VR]at ha hb;subst ha;subst hb
  obtain⟨cv,h1,h2⟩:=LH (P:=P) (w:=w) (t:=t) h
  exact⟨cv,by simp only[Sem.run_bind,B5,Result.andThen_ok];exact h1,h2⟩
 ·simp only[LVR,VR]at ha hb;subst ha;subst hb
  obtain⟨cv,h1,h2⟩:=MU (P:=P) (w:=w) (t:=t) h
  exact⟨cv,by simp only[Sem.run_bind,B6,Result.andThen_ok];exact h1,h2⟩
 ·simp only[LVR,VR]at ha hb;subst ha;subst hb
  rename_i m n
  split at h<;>simp only[Option.some.injEq,reduceCtorEq]at h
  ·rename_i ht
   refine⟨.bool (m == n),?_,h.symm⟩
   simp only[Sem.run_bind,rh,Result.andThen_ok]
   show ((do pure (Value.bool (←Op.equal t (.bool m) (.bool n))):Sem Value).run P w)=_
   rw[Sem.run_bind,Ds ht];rfl
  ·rename_i ht
   refine⟨.bool (!(m == n)),?_,h.symm⟩
   simp only[Sem.run_bind,rh,Result.andThen_ok]
   show ((do pure (Value.bool (!(←Op.equal t (.bool m) (.bool n)))):Sem Value).run P w)=_
   rw[Sem.run_bind,Ds ht];rfl
 ·rename_i m n
  obtain⟨ds,h1,ha1⟩:=ab.1 h
  obtain⟨h2,ha2⟩:=aJ.1 ha1
  obtain⟨h3,ha3⟩:=aJ.1 ha2
  obtain⟨r,h4,hfin⟩:=ab.1 ha3
  clear h ha1 ha2 ha3
  unfold tA at h1
  split at h1<;>try(simp at h1;done)
  rename_i fs ht
  split at h1<;>simp only[Option.some.injEq,reduceCtorEq]at h1
  rename_i hc
  simp only[Bool.and_eq_true,Bool.not_eq_true']at hc
  subst h1
  have hf:P.fieldsOf t=fs:=by simp[Program.fieldsOf,ht]
  simp only[LVR,VR]at ha hb
  obtain⟨xs,rfl,hxs⟩:=ha
  obtain⟨ys,rfl,hys⟩:=hb
  have hg:(Op.equalIn 10000 t (.agg xs) (.agg ys)).run P w= .ok r w:=by
   rw[run_equalIn_struct w 9999 t xs ys (by rw[hf];exact ht) hc.1.2,hf]
   refine rf fs.toList 0 m n r hc.1.1 h2 h3 (fun j u hu=> ?_) (fun j u hu=> ?_) h4
   ·obtain⟨v,hv,hr⟩:=(dQ hxs).2 j _ hu
    simp only[VR]at hr
    subst hr
    simpa using hv
   ·obtain⟨v,hv,hr⟩:=(dQ hys).2 j _ hu
    simp only[VR]at hr
    subst hr
    simpa using hv
  cases op<;>simp only[Option.some.injEq,reduceCtorEq]at hfin
  ·exact⟨_,by simp only[Sem.run_bind,run_eqGuard_agg w _ t x y xs ys hc.2,Result.andThen_ok,run_eql_struct,hg],hfin.symm⟩
  ·exact⟨_,by simp only[Sem.run_bind,run_eqGuard_agg w _ t x y xs ys hc.2,Result.andThen_ok,run_neq_struct,hg],hfin.symm⟩
 ·obtain⟨d,hd,hb1⟩:=ab.1 h
  clear h
  simp only[]at hb1
  split at hb1
  ·rename_i cc hcc
   have hyc:=vq hcc
   obtain⟨r,hr,hfin⟩:=ab.1 hb1
   clear hb1
   have hv:=hy cc hyc
   subst hv
   obtain⟨hG,e1,e2,_,_⟩:=xJ (P:=P) hd hr ha
   subst hyc
   cases op<;>simp only[Option.some.injEq,reduceCtorEq]at hfin
   ·exact⟨_,by simp only[Sem.run_bind,(hG .eql x).1,Result.andThen_ok,e1],hfin.symm⟩
   ·exact⟨_,by simp only[Sem.run_bind,(hG .neq x).1,Result.andThen_ok,e2],hfin.symm⟩
  ·obtain⟨cc,hcc,hb2⟩:=ab.1 hb1
   have hxc:=vq hcc
   obtain⟨r,hr,hfin⟩:=ab.1 hb2
   clear hb1 hb2
   have hu:=hx cc hxc
   subst hu
   obtain⟨hG,_,_,e1,e2⟩:=xJ (P:=P) hd hr hb
   subst hxc
   cases op<;>simp only[Option.some.injEq,reduceCtorEq]at hfin
   ·exact⟨_,by simp only[Sem.run_bind,(hG .eql y).2,Result.andThen_ok,e1],hfin.symm⟩
   ·exact⟨_,by simp only[Sem.run_bind,(hG .neq y).2,Result.andThen_ok,e2],hfin.symm⟩
end
end Go.Abs
set_option linter.unusedVariables false
set_option linter.unusedSimpArgs false
namespace Go.Abs
open Go
theorem eS (b off j:Nat):(⟨b,off,none⟩:Addr).add j=⟨b,off+j,none⟩:=by
 unfold Addr.add;split<;>simp_all
section
variable {G:Gh}{w:World}{L nl:Nat}{P:Program}
theorem ze {b:Nat}: ∀{off:Nat} {cs:List CV},CL G w b off cs→ ∀(j:Nat) c,cs[j]? =some c→ ∃v,w.cell? ⟨b,off+j,none⟩=some v∧off+j<G.O b∧VR G w c v
 |off,[],h,j,c,hc=>by simp at hc
 |off,x::r,h,j,c,hc=>by
  simp only[CL]at h
  cases j with
  |zero=>
   simp only[List.getElem?_cons_zero,Option.some.injEq]at hc
   subst hc
   exact h.1
  |succ j=>
   have:=ze h.2 j c (by simpa using hc)
   rwa [show off+1+j=off+(j+1)by omega]at this
theorem nW {b:Nat}: ∀{off:Nat} {cs:List CV} (n:Nat),CL G w b off cs→CL G w b (off+n) (cs.drop n)
 |off,cs,0,h=>by simpa using h
 |off,[],n+1,h=>by simp[CL]
 |off,x::r,n+1,h=>by
  simp only[CL]at h
  rw[show off+(n+1)=off+1+n by omega]
  exact nW n h.2
theorem wD {b:Nat}: ∀{off:Nat} {cs:List CV} (n:Nat),CL G w b off cs→CL G w b off (cs.take n)
 |off,cs,0,h=>by simp[CL]
 |off,[],n+1,h=>by simp[CL]
 |off,x::r,n+1,h=>by
  simp only[CL,List.take_succ_cons]at h ⊢
  exact⟨h.1,wD n h.2⟩
theorem wE {b:Nat}: ∀{off:Nat} {cs:List CV},CL G w b off cs→ ∃vs,VRL G w cs vs∧ ∀(j:Nat) v,vs[j]? =some v→w.cell? ⟨b,off+j,none⟩=some v
 |off,[],h=>⟨[],by simp[VRL],fun j v hv=>by simp at hv⟩
 |off,x::r,h=>by
  simp only[CL]at h
  obtain⟨⟨v,h1,h2,h3⟩,h4⟩:=h
  obtain⟨vs,h5,h6⟩:=wE h4
  refine⟨v::vs,by simp only[VRL];exact⟨v,vs,rfl,h3,h5⟩,fun j u hu=> ?_⟩
  cases j with
  |zero=>simp only[List.getElem?_cons_zero,Option.some.injEq]at hu;subst hu;exact h1
  |succ j=>rw[show off+(j+1)=off+1+j by omega];exact h6 j u (by simpa using hu)
theorem sV {t:TypeId}(h:ef P t=true):(isAgg t).run P w= .ok true w:=by
 unfold ef at h
 split at h<;>first|(rename_i hu;simp[isAgg,run_underlying hu];done)|simp at h
theorem rn {t:TypeId}{d:TypeDesc}(hd:P.underlying t=some d)(h:ef P t=false):(isAgg t).run P w= .ok false w:=by
 unfold ef at h
 simp only[isAgg,Sem.run_bind,run_underlying hd,Result.andThen_ok]
 rw[hd]at h
 cases d<;>simp at h ⊢
theorem dE {t:TypeId}{n:Nat}(h:cL P t=some n):(sizeOf t).run P w= .ok n w:=by
 unfold cL at h
 split at h<;>simp only[Option.some.injEq,reduceCtorEq]at h
 rename_i i hi
 simp[sizeOf,typeInfo,hi,h]
theorem Hx {t:TypeId}{n:Nat}(h:cL P t=some n): ∃i,P.info? t=some i∧i.size=n:=by
 unfold cL at h
 split at h<;>simp only[Option.some.injEq,reduceCtorEq]at h
 exact⟨_,by assumption,h⟩
theorem gV {t:TypeId}{b off:Nat}{vs:List Value}(hv: ∀(j:Nat) v,vs[j]? =some v→w.cell? ⟨b,off+j,none⟩=some v)
  (hd: ∃d,P.underlying t=some d):
  (ef P t=true→ ∀n,cL P t=some n→vs.length=n→(Instr.loadAt t (.pointer (some ⟨b,off,none⟩))).run P w= .ok (.agg vs.toArray) w)∧
  (ef P t=false→ ∀v,vs[0]? =some v→(Instr.loadAt t (.pointer (some ⟨b,off,none⟩))).run P w= .ok v w):=by
 refine⟨fun h n hn hl=> ?_,fun h v h0=> ?_⟩
 ·simp only[Instr.loadAt,Instr.sureAddr,loadVar,Sem.run_bind,Sem.run_pure,Result.andThen_ok,sV h,if_true,dE hn]
  rw[←hl,run_loadCells_list (P:=P) w ⟨b,off,none⟩ vs (fun j v hjv=>by rw[eS];exact hv j v hjv)]
  simp
 ·obtain⟨d,hd⟩:=hd
  have hc:=hv 0 v h0
  simp only[Nat.add_zero]at hc
  simp[Instr.loadAt,Instr.sureAddr,loadVar,rn hd h,hc]
theorem By {t:TypeId}{b off k:Nat}{cs:List CV}{c:CV}(h:gf P t cs k=some c)(hd: ∃d,P.underlying t=some d)(hc:CL G w b off cs):
  ∃v,(Instr.loadAt t (.pointer (some ⟨b,off+k,none⟩))).run P w= .ok v w∧VR G w c v:=by
 unfold gf at h
 split at h
 ·rename_i ha
  obtain⟨n,hn,h⟩:=ab.1 h
  split at h<;>simp only[Option.some.injEq,reduceCtorEq]at h
  rename_i hle
  have hle:=Nat.le_of_ble_eq_true hle
  subst h
  obtain⟨vs,h1,h2⟩:=wE (wD n (nW k hc))
  refine⟨_,(gV h2 hd).1 ha n hn ?_,?_⟩
  ·rw[←(dQ h1).1]
   simp only[List.length_take,List.length_drop]
   omega
  ·simp only[VR]
   exact⟨_,rfl,h1⟩
 ·rename_i ha
  obtain⟨v,h1,h2,h3⟩:=ze hc k c h
  refine⟨v,(gV (vs:=[v]) (fun j u hu=> ?_) hd).2 (by simpa using ha) v rfl,h3⟩
  cases j with
  |zero=>simp only[List.getElem?_cons_zero,Option.some.injEq]at hu;subst hu;exact h1
  |succ j=>simp at hu
theorem tO: ∀(n:Nat) {cs:List CV} {vs:List Value},VRL G w cs vs→VRL G w (cs.take n) (vs.take n)
 |0,cs,vs,h=>by simp[VRL]
 |n+1,[],vs,h=>by simp only[VRL]at h;subst h;simp[VRL]
 |n+1,c::cs,vs,h=>by
  simp only[VRL]at h
  obtain⟨v,r,rfl,h1,h2⟩:=h
  simp only[List.take_succ_cons,VRL]
  exact⟨v,_,rfl,h1,tO n h2⟩
theorem tN: ∀(n:Nat) {cs:List CV} {vs:List Value},VRL G w cs vs→VRL G w (cs.drop n) (vs.drop n)
 |0,cs,vs,h=>by simpa using h
 |n+1,[],vs,h=>by simp only[VRL]at h;subst h;simp[VRL]
 |n+1,c::cs,vs,h=>by
  simp only[VRL]at h
  obtain⟨v,r,rfl,h1,h2⟩:=h
  simpa using tN n h2
theorem rW {t:TypeId}{k:Nat}{cs:List CV}{c:CV}{vs:Array Value}(h:gf P t cs k=some c)(hd: ∃d,P.underlying t=some d)(hc:VRL G w cs vs.toList):
  ∃v,(part t vs k).run P w= .ok v w∧VR G w c v:=by
 unfold gf at h
 obtain⟨hl,hg⟩:=dQ hc
 split at h
 ·rename_i ha
  obtain⟨n,hn,h⟩:=ab.1 h
  split at h<;>simp only[Option.some.injEq,reduceCtorEq]at h
  subst h
  refine⟨_,by simp only[part,Sem.run_bind,sV ha,Result.andThen_ok,if_true,dE hn];rfl,?_⟩
  simp only[VR]
  refine⟨_,rfl,?_⟩
  have:(vs.extract k (k+n)).toList=(vs.toList.drop k).take n:=by simp[List.take_drop,Nat.add_comm]
  rw[this]
  exact tO n (tN k hc)
 ·rename_i ha
  obtain⟨d,hd⟩:=hd
  obtain⟨v,h1,h2⟩:=hg k c h
  have h1':vs[k]? =some v:=by simpa using h1
  exact⟨v,by simp[part,rn hd (by simpa using ha),h1'],h2⟩
theorem qi {s:TypeId}{f:Nat}{q:Nat×TypeId}(h:ke P s f=some q):
  ∃fs fd n,P.underlying s=some (.struct fs)∧fs[f]? =some fd∧cL P fd.type=some (n+1)∧q=(fd.offset,fd.type):=by
 unfold ke at h
 split at h<;>try(simp at h;done)
 rename_i fs hu
 split at h<;>try(simp at h;done)
 rename_i fd hf
 split at h<;>simp only[Option.some.injEq,reduceCtorEq]at h
 exact⟨fs,fd,_,hu,hf,by assumption,h.symm⟩
theorem B7 {s:TypeId}{f:Nat}{q:Nat×TypeId}(h:ke P s f=some q)(b off:Nat):
  (Instr.fieldAt s (.pointer (some ⟨b,off,none⟩)) f).run P w= .ok (.pointer (some ⟨b,off+q.1,none⟩)) w:=by
 obtain⟨fs,fd,n,hu,hf,hs,rfl⟩:=qi h
 simp[Instr.fieldAt,run_underlying hu,hf,Instr.sureAddr,fieldPlace,dE hs,eS]
theorem Jl {s:TypeId}{f:Nat}{q:Nat×TypeId}{cs:List CV}{c:CV}{vs:Array Value}(h:ke P s f=some q)(ht:gf P q.2 cs q.1=some c)(hd: ∃d,P.underlying q.2=some d)(hc:VRL G w cs vs.toList):
  ∃v,(Instr.field s (.agg vs) f).run P w= .ok v w∧VR G w c v:=by
 obtain⟨fs,fd,n,hu,hf,hs,rfl⟩:=qi h
 obtain⟨v,h1,h2⟩:=rW ht hd hc
 exact⟨v,by simp[Instr.field,run_underlying hu,hf,asAgg,h1],h2⟩
theorem KR {t:TypeId}{s:ByteArray}{k:IntKind}{i:Int}{b:UInt8}(ht:P.underlying t=some .string)(h:bo s.data.toList i=some b):
  (Instr.index t (.string s) (.int k i)).run P w= .ok (.int .u8 (b.toNat:Int)) w:=by
 unfold bo at h
 split at h<;>try(simp at h;done)
 rename_i h0
 simp only[decide_eq_true_eq]at h0
 obtain⟨hl,hg⟩:=List.getElem?_eq_some_iff.1 h
 have hs:i.toNat<s.size:=hl
 have:s[i.toNat]? =some b:=by rw[ByteArray.getElem?_lt' s _ hs];exact congrArg some hg
 simp[Instr.index,asIntOf,run_underlying ht,h0,this]
theorem xI {α:Type}{xs r:List α}{lo hi:Int}(h:di xs lo hi=some r):0≤lo∧lo≤hi∧hi≤(xs.length:Int)∧r=(xs.drop lo.toNat).take (hi-lo).toNat:=by
 unfold di at h
 split at h<;>simp only[Option.some.injEq,reduceCtorEq]at h
 rename_i hc
 simp only[Bool.and_eq_true,decide_eq_true_eq]at hc
 exact⟨hc.1.1,hc.1.2,hc.2,h.symm⟩
theorem BU {α:Type}{ev:Operand→LV}{x:Option Operand}{d:Int}{k:Int→Option α}{r:α}(h:db ev x d k=some r):
  (x=none∧k d=some r)∨ ∃o kd n,x=some o∧ev o= .cv (.v (.int kd n))∧k n=some r:=by
 unfold db at h
 cases x with
 |none=>exact .inl ⟨rfl,h⟩
 |some o=>
  obtain⟨n,h1,h2⟩:=ab.1 h
  obtain⟨kd,e⟩:=nk h1
  exact .inr ⟨o,kd,n,rfl,e,h2⟩
def j0 (x:Option Value)(d n:Int):Prop:=(x=none∧n=d)∨ ∃k,x=some (.int k n)
theorem jX {isS:Bool}{len cap:Nat}{lo hi:Option Value}{a b:Int}(hlc:len≤cap)(h0:0≤a)(h1:a≤b)(h2:b≤(len:Int))(hlo:j0 lo 0 a)(hhi:j0 hi (len:Int) b):
  (Instr.sliceBounds isS len cap lo hi none).run P w= .ok (a.toNat,b.toNat,cap) w:=by
 have hb:b≤(cap:Int):=by omega
 have hb0:0≤b:=by omega
 have hab:a≤(b.toNat:Int):=by omega
 rcases hhi with⟨rfl,rfl⟩|⟨k,rfl⟩<;>rcases hlo with⟨rfl,rfl⟩|⟨k',rfl⟩<;>
  simp[Instr.sliceBounds,Instr.sliceBound,asIntOf,h0,hb0,hb,hab]<;>omega
theorem Bu {t:TypeId}{s:ByteArray}{lo hi:Option Value}{a b:Int}{r:List UInt8}(ht:P.underlying t=some .string)(h:di s.data.toList a b=some r)
  (hlo:j0 lo 0 a) (hhi:j0 hi (s.data.toList.length:Int) b):(Instr.sliceAt t (.string s) lo hi none).run P w= .ok (.string ⟨⟨r⟩⟩) w:=by
 obtain⟨h0,h1,h2,rfl⟩:=xI h
 have hb:=jX (P:=P) (w:=w) (isS:=false) (len:=s.size) (cap:=s.size) (Nat.le_refl _) h0 h1 h2 hlo hhi
 have he:s.extract a.toNat b.toNat=⟨⟨(s.data.toList.drop a.toNat).take (b-a).toNat⟩⟩:=by
  apply ByteArray.ext
  apply Array.ext'
  simp only[ByteArray.data_extract,Array.toList_extract,List.extract_eq_take_drop]
  congr 1
  omega
 simp[Instr.sliceAt,run_underlying ht,Instr.slice,hb,he]
theorem wF {b s:Nat}: ∀{off:Nat} {xs:List CV} (n:Nat),EL G w b s off xs→EL G w b s (off+n*s) (xs.drop n)
 |off,xs,0,h=>by simpa using h
 |off,[],n+1,h=>by simp[EL]
 |off,x::r,n+1,h=>by
  have h2:EL G w b s (off+s) r:=by cases x<;>simp only[EL]at h<;>exact h.2
  rw[show off+(n+1)*s=off+s+n*s by rw[Nat.add_mul];omega]
  exact wF n h2
theorem Dn {b s:Nat}: ∀{off:Nat} {xs:List CV} (n:Nat),EL G w b s off xs→EL G w b s off (xs.take n)
 |off,xs,0,h=>by simp[EL]
 |off,[],n+1,h=>by simp[EL]
 |off,x::r,n+1,h=>by
  cases x<;>simp only[EL,List.take_succ_cons]at h ⊢ <;>exact⟨h.1,Dn n h.2⟩
theorem Df {t e:TypeId}{xs r:List CV}{v:Value}{lo hi:Option Value}{a b:Int}{n:Nat}(ht:P.underlying t=some (.slice e))(hsz:cL P e=some n)(hv:VR G w (.sl xs) v)
  (h:di xs a b=some r) (hu:oJ n a xs=true) (hlo:j0 lo 0 a) (hhi:j0 hi (xs.length:Int) b):
  ∃u,(Instr.sliceAt t v lo hi none).run P w= .ok u w∧VR G w (.sl r) u:=by
 obtain⟨h0,h1,h2,rfl⟩:=xI h
 simp only[VR]at hv
 obtain⟨A,len,cap,rfl,rfl,hc,hx⟩:=hv
 have hb:=jX (P:=P) (w:=w) (isS:=true) hc h0 h1 h2 hlo hhi
 refine⟨.slice (if cap=a.toNat then A else A.map (·.add (a.toNat*n))) (b.toNat-a.toNat) (cap-a.toNat),?_,?_⟩
 ·simp[Instr.sliceAt,run_underlying ht,Instr.slice,hb,dE hsz]
 ·simp only[VR]
  refine⟨_,_,_,rfl,?_,by omega,?_⟩
  ·simp only[List.length_take,List.length_drop];omega
  ·rcases hx with hx|⟨bl,off,s,rfl,hs,hl⟩
   ·left;omega
   ·by_cases hab:b.toNat-a.toNat=0
    ·left;exact hab
    ·right
     have hne:cap≠a.toNat:=by omega
     have hsn:a.toNat*n=a.toNat*s:=by
      unfold oJ at hu
      split at hu
      ·rename_i h0'
       simp only[decide_eq_true_eq]at h0'
       subst h0';simp
      ·cases xs with
       |nil=>simp at h2;omega
       |cons x r=>
        simp only[gD]at hu
        split at hu<;>try(simp at hu;done)
        rename_i he
        simp only[fg,Bool.and_eq_true]at he
        rw[←hs x (by simp),Nat.eq_of_beq_eq_true he.1]
     refine⟨bl,off+a.toNat*s,s,by simp[hne,eS,hsn],fun x hx=>hs x (List.mem_of_mem_drop (List.mem_of_mem_take hx)),Dn _ (wF _ hl)⟩
end
end Go.Abs
set_option linter.unusedVariables false
set_option linter.unusedSimpArgs false
namespace Go.Abs
open Go
section
variable {G:Gh}{w:World}{L nl:Nat}{P:Program}
theorem wo {c:CV}{v:Value}(h:oK c=true)(hv:VR G w c v):v.oneCell'=true:=by
 cases c<;>simp only[oK,Bool.false_eq_true,VR]at h hv
 ·subst hv;exact h
 ·obtain⟨_,_,_,rfl,_⟩:=hv;rfl
 ·obtain⟨_,_,rfl,_⟩:=hv;rfl
 ·obtain⟨_,rfl⟩:=hv;rfl
 ·obtain⟨_,_,_,_,_,rfl,_⟩:=hv;rfl
 ·obtain⟨_,rfl,_⟩:=hv;rfl
 ·obtain⟨_,rfl,_⟩:=hv;rfl
 ·obtain⟨_,_,_,rfl,_⟩:=hv;rfl
 ·obtain⟨_,rfl⟩:=hv;rfl
 ·obtain⟨_,rfl,_⟩:=hv;rfl
theorem yc {v:Value}(h:v.oneCell'=true):v.cells= #[v]:=by
 cases v<;>simp[Value.oneCell',Value.cells]at h ⊢
theorem lZ: ∀{cs:List CV} {vs:List Value},gn cs=true→VRL G w cs vs→ ∀v∈vs,v.oneCell'=true
 |[],vs,_,h=>by simp only[VRL]at h;subst h;simp
 |c::cs,vs,hs,h=>by
  simp only[VRL]at h
  obtain⟨v,r,rfl,h1,h2⟩:=h
  simp only[gn]at hs
  split at hs<;>try(simp at hs;done)
  rename_i h1s
  intro u hu
  rcases List.mem_cons.1 hu with rfl|hu
  ·exact wo h1s h1
  ·exact lZ hs h2 u hu
theorem iP {c:CV}{v:Value}(h:gG c=true)(hv:VR G w c v):VRL G w c.cells v.cells.toList∧ ∀u∈v.cells.toList,u.oneCell'=true:=by
 unfold gG at h
 split at h
 ·rename_i cs
  simp only[VR]at hv
  obtain⟨vs,rfl,hl⟩:=hv
  exact⟨hl,lZ h hl⟩
 ·rename_i hne
  have h1:=wo h hv
  rw[yc h1]
  have:c.cells=[c]:=by cases c<;>simp[CV.cells,oK]at hne h ⊢
  rw[this]
  exact⟨by simp only[VRL];exact⟨v,[],rfl,hv,rfl⟩,by simpa using h1⟩
theorem VRL_len {cs:List CV}{vs:List Value}(h:VRL G w cs vs):cs.length=vs.length:=(dQ h).1
theorem iY {t:TypeId}{cs:List CV}(h:zeroCells P t=some cs): ∃z i,P.info? t=some i∧i.zero=some z∧(zeroValue t).run P w= .ok z w∧VRL G w cs z.cells.toList:=by
 unfold zeroCells at h
 split at h<;>try(simp at h;done)
 rename_i i hi
 split at h<;>try(simp at h;done)
 rename_i z hz
 refine⟨z,i,hi,hz,by simp[zeroValue,typeInfo,hi,hz],?_⟩
 split at h<;>simp only[Option.some.injEq]at h<;>subst h
 ·exact Nk _
 ·rename_i hne
  have:z.cells= #[z]:=by cases z<;>simp[Value.cells]at hne ⊢
  rw[this]
  simp only[VRL]
  exact⟨z,[],rfl,by simp[VR],rfl⟩
def bW:Array Value→Nat→List Value→Array Value
 |a,_,[]=>a
 |a,off,v::r=>bW (a.setIfInBounds off v) (off+1) r
theorem rk (off:Nat): ∀(l:List Value) (k:Nat) (a:Array Value),(l.zipIdx k).foldl (fun cs q=>cs.setIfInBounds (off+q.2) q.1) a=bW a (off+k) l
 |[],k,a=>rfl
 |v::r,k,a=>by
  simp only[List.zipIdx_cons,List.foldl_cons,bW]
  rw[rk off r (k+1)]
  rfl
theorem du: ∀(l:List Value) (off:Nat) (a:Array Value),(bW a off l).size=a.size
 |[],off,a=>rfl
 |v::r,off,a=>by simp[bW,du r]
theorem jU: ∀(l:List Value) (off:Nat) (a:Array Value) (j:Nat),j<off→(bW a off l)[j]? =a[j]?
 |[],off,a,j,h=>rfl
 |v::r,off,a,j,h=>by
  simp only[bW]
  rw[jU r (off+1) _ j (by omega),Array.getElem?_setIfInBounds_ne (by omega)]
theorem mV: ∀(l:List Value) (off:Nat) (a:Array Value) (j:Nat),off+l.length≤j→(bW a off l)[j]? =a[j]?
 |[],off,a,j,h=>rfl
 |v::r,off,a,j,h=>by
  simp only[bW,List.length_cons]at h ⊢
  rw[mV r (off+1) _ j (by omega),Array.getElem?_setIfInBounds_ne (by omega)]
theorem rJ: ∀(l:List Value) (off:Nat) (a:Array Value) (j:Nat),off+l.length≤a.size→j<l.length→(bW a off l)[off+j]? =l[j]?
 |[],off,a,j,h,hj=>by simp at hj
 |v::r,off,a,j,h,hj=>by
  simp only[bW,List.length_cons]at h hj ⊢
  cases j with
  |zero=>
   rw[jU r (off+1) _ _ (by omega)]
   simp only[Nat.add_zero,List.getElem?_cons_zero]
   rw[Array.getElem?_setIfInBounds_self,if_pos (by omega)]
  |succ j=>
   have:=rJ r (off+1) (a.setIfInBounds off v) j (by simp;omega) (by omega)
   rw[show off+(j+1)=off+1+j by omega,this]
   simp
theorem jW {α:Type}: ∀(l:List α) (cs:List α) (off:Nat),(cP cs off l).length=cs.length
 |[],cs,off=>rfl
 |v::r,cs,off=>by simp[cP,jW r]
theorem eQ {α:Type}: ∀(l:List α) (off:Nat) (a:List α) (j:Nat),j<off→(cP a off l)[j]? =a[j]?
 |[],off,a,j,h=>rfl
 |v::r,off,a,j,h=>by
  simp only[cP]
  rw[eQ r (off+1) _ j (by omega),List.getElem?_set_ne (by omega)]
theorem fJ {α:Type}: ∀(l:List α) (off:Nat) (a:List α) (j:Nat),off+l.length≤j→(cP a off l)[j]? =a[j]?
 |[],off,a,j,h=>rfl
 |v::r,off,a,j,h=>by
  simp only[cP,List.length_cons]at h ⊢
  rw[fJ r (off+1) _ j (by omega),List.getElem?_set_ne (by omega)]
theorem iO {α:Type}: ∀(l:List α) (off:Nat) (a:List α) (j:Nat),off+l.length≤a.length→j<l.length→(cP a off l)[off+j]? =l[j]?
 |[],off,a,j,h,hj=>by simp at hj
 |v::r,off,a,j,h,hj=>by
  simp only[cP,List.length_cons]at h hj ⊢
  cases j with
  |zero=>
   rw[eQ r (off+1) _ _ (by omega)]
   simp only[Nat.add_zero,List.getElem?_cons_zero]
   rw[List.getElem?_set_self (by omega)]
  |succ j=>
   have:=iO r (off+1) (a.set off v) j (by simp;omega) (by omega)
   rw[show off+(j+1)=off+1+j by omega,this]
   simp
theorem eA: ∀{cs:List CV} {vs:List Value},cs.length=vs.length→(∀(j:Nat) c v,cs[j]? =some c→vs[j]? =some v→VR G w c v)→VRL G w cs vs
 |[],[],_,_=>by simp[VRL]
 |[],_::_,h,_=>by simp at h
 |_::_,[],h,_=>by simp at h
 |c::cs,v::vs,h,hg=>by
  simp only[VRL]
  exact⟨v,vs,rfl,hg 0 c v rfl rfl,eA (by simpa using h) fun j c v hc hv=>hg (j+1) c v (by simpa using hc) (by simpa using hv)⟩
theorem zA {cs:List CV}{a:Array Value}{off:Nat}{ds:List CV}{us:List Value}(h:VRL G w cs a.toList)(hd:VRL G w ds us)(hle:off+ds.length≤cs.length):
  VRL G w (cP cs off ds) (bW a off us).toList:=by
 have hl:=VRL_len h
 have hl2:=VRL_len hd
 refine eA (by rw[jW,hl];simp[du]) fun j c v hc hv=> ?_
 have hv':(bW a off us)[j]? =some v:=by simpa using hv
 have has:a.toList.length=a.size:=by simp
 by_cases h1:j<off
 ·rw[eQ _ _ _ _ h1]at hc
  rw[jU _ _ _ _ h1]at hv'
  obtain⟨u,hu,hr⟩:=(dQ h).2 j c hc
  have:u=v:=by rw[Array.getElem?_toList,hv']at hu;exact(Option.some.inj hu).symm
  subst this;exact hr
 ·by_cases h2:off+ds.length≤j
  ·rw[fJ _ _ _ _ h2]at hc
   rw[mV _ _ _ _ (by omega)]at hv'
   obtain⟨u,hu,hr⟩:=(dQ h).2 j c hc
   have:u=v:=by rw[Array.getElem?_toList,hv']at hu;exact(Option.some.inj hu).symm
   subst this;exact hr
  ·obtain⟨k,rfl⟩: ∃k,j=off+k:=⟨j-off,by omega⟩
   rw[iO _ _ _ _ hle (by omega)]at hc
   rw[rJ _ _ _ _ (by omega) (by omega)]at hv'
   obtain⟨u,hu,hr⟩:=(dQ hd).2 k c hc
   have:u=v:=by rw[hv']at hu;exact(Option.some.inj hu).symm
   subst this;exact hr
inductive PartsR (G:Gh) (w:World):List (Nat×CV)→List (Nat×Value)→Prop
 |nil:PartsR G w [] []
 |cons {i c v r s} (h:VR G w c v) (hs:gG c=true) (t:PartsR G w r s):PartsR G w ((i,c)::r) ((i,v)::s)
theorem pI {place:Nat→Option (Nat×Nat)}: ∀{ps:List (Nat×CV)} {qs:List (Nat×Value)} {cs out:List CV} {a:Array Value},
  PartsR G w ps qs→VRL G w cs a.toList→lU place cs ps=some out→ ∃b,Instr.fill place a qs=some b∧VRL G w out b.toList∧b.size=a.size
 |_,_,cs,out,a,.nil,h,hf=>by
  simp only[lU,Option.some.injEq]at hf
  subst hf
  exact⟨a,rfl,h,rfl⟩
 |_,_,cs,out,a,.cons (i:=i) (c:=c) (v:=v) (r:=r) (s:=s) hv hs t,h,hf=>by
  simp only[lU]at hf
  split at hf<;>try(simp at hf;done)
  rename_i q hq
  split at hf<;>try(simp at hf;done)
  rename_i hc
  simp only[Bool.and_eq_true]at hc
  have h1:=Nat.eq_of_beq_eq_true hc.1
  have h2:=Nat.le_of_ble_eq_true hc.2
  obtain⟨hcl,_⟩:=iP hs hv
  have hlen:=VRL_len hcl
  have hl:=VRL_len h
  have hsz:v.cells.size=q.2:=by rw[←h1,hlen];simp
  obtain⟨b,hb,hr,hbs⟩:=pI (a:=bW a q.1 v.cells.toList) t (zA h hcl (by omega)) hf
  refine⟨b,?_,hr,by rw[hbs,du]⟩
  obtain⟨o,z⟩:=q
  simp only at hsz h1 h2 hb
  simp only[Instr.fill,hq]
  have has:a.toList.length=a.size:=by simp
  have hcond:(decide (v.cells.size≠z)||decide (o+v.cells.size>a.size))=false:=by
   rw[Bool.or_eq_false_iff]
   refine⟨by simp[hsz],?_⟩
   have:o+v.cells.size≤a.size:=by omega
   simpa using this
  rw[if_neg (by rw[hcond];simp)]
  rw[←Array.foldl_toList,Array.toList_zipIdx]
  have:=rk o v.cells.toList 0 a
  simp only[Nat.add_zero]at this
  rw[this]
  exact hb
theorem nT {s:S}{μ:Mu}{a:Act}(R:Rel G L s μ a.tmps w)(h:OpHint): ∀{l:List (Nat×Operand)} {ps:List (Nat×CV)},dq (evA h s.fr) l=some ps→
  PartsR G w ps (l.map fun q=>(q.1,a.eval q.2))
 |[],ps,hp=>by simp only[dq,Option.some.injEq]at hp;subst hp;exact .nil
 |q::r,ps,hp=>by
  simp only[dq]at hp
  obtain⟨c,h1,h2⟩:=ab.1 hp
  obtain⟨h3,h4⟩:=aJ.1 h2
  obtain⟨l,h5,h6⟩:=ab.1 h4
  simp only[Option.some.injEq]at h6
  subst h6
  exact .cons (eH h1 (a8 R h q.2).1) h3 (nT R h h5)
end
end Go.Abs
set_option linter.unusedVariables false
set_option linter.unusedSimpArgs false
namespace Go.Abs
open Go
def Gh.setO (G:Gh)(b n:Nat):Gh:={G with O:=fun x=>if x=b then n else G.O x}
theorem dU {G:Gh}{b n:Nat}:(G.setO b n).O b=n:=by simp[Gh.setO]
theorem cR {G:Gh}{b n x:Nat}(h:x≠b):(G.setO b n).O x=G.O x:=by simp[Gh.setO,h]
section
variable {G:Gh}{w:World}{L:Nat}{P:Program}
theorem wO {a:Addr}{v:Value}(h:w.cell? a=some v):a.block<w.heap.size:=block_lt_of_cell h
theorem gr {b:Nat}{o:Obj}(h:w.heap[b]? =some o):b<w.heap.size:=(Array.getElem?_eq_some_iff.1 h).1
theorem jx {x:LV}{v:Value}{b nl:Nat}(h:LVR G w L nl x v)(ho:aD x v b):b<w.heap.size:=by
 cases x<;>simp only[aD]at ho
 simp only[LVR]at h
 rcases h with⟨rfl,rfl⟩|⟨b',cap,cur,e,s,rfl,hb,_⟩
 ·simp at ho
 ·subst ho;exact gr hb
theorem mN {l:Lam}{i:Nat}(h:aK (aG l i)):i<l.length:=by
 by_cases hi:i<l.length
 ·exact hi
 ·simp only[aG]at h
  rw[List.getElem?_eq_none (by omega)]at h
  exact h.elim
theorem cG {s:S}{μ:Mu}(hL:μ.length=L){lev i:Nat}(h:aK (aC (μ++[s.lam]) lev i)):(lev<L∧aC (μ++[s.lam]) lev i=bb μ lev i)∨(lev=L∧i<s.lam.length∧aC (μ++[s.lam]) lev i=aG s.lam i):=by
 rcases Nat.lt_trichotomy lev L with h1|h1|h1
 ·exact .inl ⟨h1,bC (by omega)⟩
 ·subst h1
  rw[←hL]at h ⊢
  have e:aC (μ++[s.lam]) μ.length i=aG s.lam i:=bY
  rw[e]at h
  exact .inr ⟨rfl,mN h,e⟩
 ·rw[←hL]at h1
  simp only[aC,oD h1]at h
  exact h.elim
theorem H0 {nl b sz:Nat}{o:Ob}(h:ObR G w L nl b sz o)(hl:aK o):b<w.heap.size:=by
 cases o with
 |dead=>exact hl.elim
 |cells cs=>obtain⟨cur,e,fz,h1,_⟩:=h;exact gr h1
 |arr k cs=>obtain⟨_,cur,e,fz,h1,_⟩:=h;exact gr h1
 |map ks vs=>obtain⟨es,clk,h1,_⟩:=h;exact gr h1
theorem Rel.touch_lt {s:S}{μ:Mu}{tm:Array Value}(R:Rel G L s μ tm w){b:Nat}(h:fb G w s.fr tm (μ++[s.lam]) b):b<w.heap.size:=by
 rcases h with⟨l,h⟩|⟨lev,i,hl,rfl⟩
 ·cases l with
  |fr t=>exact jx (R.fr t) h
  |ob lev i k=>
   simp only[aw]at h
   split at h<;>try(exact h.elim)
   rename_i cs hcs
   split at h<;>try(exact h.elim)
   rename_i x hx
   obtain⟨cur,e,fz,hb,ho⟩:=h
   have hlive:aK (aC (μ++[s.lam]) lev i):=by rw[hcs];trivial
   rcases cG R.lev hlive with⟨h1,h2⟩|⟨rfl,h1,h2⟩
   ·have:=R.mu lev i h1
    rw[←h2,hcs]at this
    simp only[ObR]at this
    obtain⟨cur',e',fz',hb',_,_,_,h5⟩:=this
    rw[hb]at hb'
    obtain⟨rfl,_⟩:=(Obj.cells.injEq ..).mp (Option.some.inj hb')
    exact jx (h5 k x hx) ho
   ·have:=R.lam i
    rw[←h2,hcs]at this
    simp only[ObR]at this
    obtain⟨cur',e',fz',hb',_,_,_,h5⟩:=this
    rw[hb]at hb'
    obtain⟨rfl,_⟩:=(Obj.cells.injEq ..).mp (Option.some.inj hb')
    exact jx (h5 k x hx) ho
 ·rcases cG R.lev hl with⟨h1,h2⟩|⟨rfl,h1,h2⟩
  ·rw[h2]at hl;exact H0 (R.mu lev i h1) hl
  ·rw[h2]at hl;exact H0 (R.lam i) hl
theorem j7 {o:Obj}{b off:Nat}(h:b<w.heap.size):(w.alloc o).cell? ⟨b,off,none⟩=w.cell? ⟨b,off,none⟩:=World.cell?_alloc_lt w o _ h
theorem oZ (o:Obj)(n:Nat):Le G w (G.setO w.heap.size n) (w.alloc o):=by
 refine⟨fun b es clk h hb=> ?_,fun _ _ h=>⟨h,rfl,rfl⟩,fun b off v h hc=> ?_,fun b cur e fz h=> ?_⟩
 ·have hlt:b<w.heap.size:=gr hb
  rw[cR (by omega),heap_alloc_old w o hlt]
  exact⟨h,hb⟩
 ·have hb:b<w.heap.size:=wO hc
  rw[cR (by omega),j7 hb]
  exact⟨h,hc⟩
 ·exact⟨cur,fz,by rw[heap_alloc_old w o (gr h)];exact h,rfl⟩
theorem Rel.alloc {s:S}{μ:Mu}{tm:Array Value}(R:Rel G L s μ tm w)(o:Obj)(n:Nat):
  Rel (G.setO w.heap.size n) L s μ tm (w.alloc o)∧
  (∀l b,aw (G.setO w.heap.size n) (w.alloc o) s.fr tm (μ++[s.lam]) l b→aw G w s.fr tm (μ++[s.lam]) l b):=
 R.frame (oZ o n) (fun b hb=>⟨heap_alloc_old w o (R.touch_lt hb),cR (by have:=R.touch_lt hb;omega)⟩) (fun _ _ _=>⟨rfl,rfl⟩) rfl
theorem Ext.alloc {T T':Nat→Prop}(o:Obj)(n:Nat)(h: ∀b,T' b→T b∨w.heap.size≤b):Ext L T G w (G.setO w.heap.size n) (w.alloc o) T':=
 ⟨oZ o n,rfl,rfl,rfl,by simp,fun b hb _=>⟨heap_alloc_old w o hb,cR (by omega)⟩,h,fun _ _=>⟨fun _=>⟨rfl,rfl⟩,rfl⟩⟩
theorem Rel.drew {s:S}{μ:Mu}{tm:Array Value}(R:Rel G L s μ tm w):Rel G L s μ tm w.drew∧(∀l b,aw G w.drew s.fr tm (μ++[s.lam]) l b→aw G w s.fr tm (μ++[s.lam]) l b):=
 R.frame ⟨fun _ _ _ h hb=>⟨h,hb⟩,fun _ _ h=>⟨h,rfl,rfl⟩,fun _ _ _ h hc=>⟨h,hc⟩,fun b cur e fz h=>⟨cur,fz,h,rfl⟩⟩ (fun _ _=>⟨rfl,rfl⟩) (fun _ _ _=>⟨rfl,rfl⟩) rfl
theorem EL_of {b s:Nat}: ∀{xs:List CV} {off:Nat} {vs:List Value},(∀x∈xs,x.cells.length=s)→VRL G w (xs.flatMap CV.cells) vs→
  (∀(j:Nat) v,vs[j]? =some v→w.cell? ⟨b,off+j,none⟩=some v∧off+j<G.O b)→EL G w b s off xs
 |[],off,vs,_,_,_=>by simp[EL]
 |x::r,off,vs,hs,h,hc=>by
  have hx:=hs x (by simp)
  have key: ∀(cs:List CV) (off:Nat) (vs:List Value),VRL G w cs vs→(∀(j:Nat) v,vs[j]? =some v→w.cell? ⟨b,off+j,none⟩=some v∧off+j<G.O b)→CL G w b off cs:=by
   intro cs
   induction cs with
   |nil=>intro off vs _ _;simp[CL]
   |cons c cs ih=>
    intro off vs h hc
    simp only[VRL]at h
    obtain⟨v,q,rfl,h1,h2⟩:=h
    simp only[CL]
    refine⟨⟨v,(hc 0 v rfl).1,(hc 0 v rfl).2,h1⟩,ih (off+1) q h2 fun j u hu=> ?_⟩
    have:=hc (j+1) u (by simpa using hu)
    rwa [show off+(j+1)=off+1+j by omega]at this
  have split: ∃us ws,vs=us++ws∧us.length=s∧VRL G w x.cells us∧VRL G w (r.flatMap CV.cells) ws:=by
   simp only[List.flatMap_cons]at h
   refine⟨vs.take s,vs.drop s,(List.take_append_drop s vs).symm,?_,?_,?_⟩
   ·have:=VRL_len h
    simp only[List.length_append]at this
    simp only[List.length_take];omega
   ·have:=tO s h
    rwa [List.take_left' hx]at this
   ·have:=tN s h
    rwa [List.drop_left' hx]at this
  obtain⟨us,ws,rfl,hul,h1,h2⟩:=split
  have hcl:=key x.cells off us h1 fun j v hv=>hc j v (by rw[List.getElem?_append_left (List.getElem?_eq_some_iff.1 hv).1];exact hv)
  have hel:EL G w b s (off+s) r:=EL_of (fun y hy=>hs y (by simp[hy])) h2 fun j v hv=>by
   have:=hc (s+j) v (by rw[List.getElem?_append_right (by omega)];rw[←hv];congr 1;omega)
   rwa [show off+(s+j)=off+s+j by omega]at this
  cases x<;>simp only[EL,CV.cells,CL,and_true]at hcl ⊢ <;>exact⟨hcl,hel⟩
theorem mH {xs:List CV}{s:Nat}(h: ∀x∈xs,x.cells.length=s):(xs.flatMap CV.cells).length=xs.length*s:=by
 induction xs with
 |nil=>simp
 |cons x r ih=>
  simp only[List.flatMap_cons,List.length_append,List.length_cons,h x (by simp),ih fun y hy=>h y (by simp[hy])]
  rw[Nat.add_mul];omega
theorem iJ {sz:Nat}: ∀{xs:List CV},gD sz xs=true→(∀x∈xs,x.cells.length=sz∧gG x=true)
 |[],_=>by simp
 |x::r,h=>by
  simp only[gD]at h
  split at h<;>try(simp at h;done)
  rename_i he
  simp only[fg,Bool.and_eq_true]at he
  intro y hy
  rcases List.mem_cons.1 hy with rfl|hy
  ·exact⟨Nat.eq_of_beq_eq_true he.1,he.2⟩
  ·exact iJ h y hy
end
end Go.Abs
set_option linter.unusedVariables false
set_option linter.unusedSimpArgs false
namespace Go.Abs
open Go
def Gh.setL (G:Gh)(L m b k:Nat)(pushed:Bool):Gh where
 O:=fun x=>if x=b then 0 else G.O x
 β:=fun l i=>if l=L∧i=m then b else G.β l i
 n:=fun l=>if l=L∧pushed=true then m+1 else G.n l
 sz:=fun l i=>if l=L∧i=m then k else G.sz l i
section
variable {G:Gh}{w:World}{L:Nat}{P:Program}
theorem gT {l:Lam}{o:Ob}{i:Nat}(h:i<l.length):aG (l++[o]) i=aG l i:=by
 simp[aG,List.getElem?_append_left h]
theorem jL {l:Lam}{o:Ob}:aG (l++[o]) l.length=o:=by
 simp[aG]
theorem rp {l:Lam}{o:Ob}{i:Nat}(h:l.length<i):aG (l++[o]) i= .dead:=by
 simp only[aG]
 rw[List.getElem?_eq_none (by simp;omega)]
def cC (cs:List LV)(cur:Array Value)(k b:Nat):Prop:= ∃x,cs[k]? =some x∧aD x (cur.getD k undef) b
theorem Rel.newLocal {s:S}{μ:Mu}{tm:Array Value}(R:Rel G L s μ tm w){cur:Array Value}{e:TypeId}{ob:Ob}{k:Nat}{fz:Nat×Nat}(hfz:dX cur fz)
  (hob : (∃ cs, ob = .cells cs ∧ cs.length ≤ cur.size ∧ ∀ j x, cs[j]? = some x → LVR G w L s.lam.length x (cur.getD j undef)) ∨
   (∃cs,ob= .arr k cs∧cs.length≤cur.size∧ ∀j x,cs[j]? =some x→VR G w x (cur.getD j undef)))
  (hown: ∀cs j b,ob= .cells cs→cC cs cur j b→(∀l,¬aw G w s.fr tm (μ++[s.lam]) l b)∧(∀lev i,aK (aC (μ++[s.lam]) lev i)→G.β lev i≠b)∧ ∀j',cC cs cur j' b→j'=j):
  let G1:=G.setL L s.lam.length w.heap.size k s.pushed
  let w1:=w.alloc (.cells cur e fz)
  let s1:S:={s with lam:=s.lam++[ob]}
  Rel G1 L s1 μ tm w1∧Le G w G1 w1∧
  (∀b,fb G1 w1 s1.fr tm (μ++[s1.lam]) b→fb G w s.fr tm (μ++[s.lam]) b∨b=w.heap.size∨ ∃cs j,ob= .cells cs∧cC cs cur j b)∧
  LVR G1 w1 L s1.lam.length (.loc s.lam.length 0) (.pointer (some ⟨w.heap.size,0,none⟩)):=by
 intro G1 w1 s1
 have hβ: ∀lev i,lev<L∨(lev=L∧i<s.lam.length)→G1.β lev i=G.β lev i∧G1.sz lev i=G.sz lev i:=by
  intro lev i h
  have: ¬(lev=L∧i=s.lam.length):=by omega
  simp only[G1,Gh.setL,this,if_false,and_self]
 have hβn:G1.β L s.lam.length=w.heap.size∧G1.sz L s.lam.length=k:=by simp[G1,Gh.setL]
 have hO: ∀b,b≠w.heap.size→G1.O b=G.O b:=fun b h=>by simp[G1,Gh.setL,h]
 have hOn:G1.O w.heap.size=0:=by simp[G1,Gh.setL]
 have hn: ∀lev,lev≠L→G1.n lev=G.n lev:=fun lev h=>by simp[G1,Gh.setL,h]
 have hnL:G1.n L=if s.pushed then s.lam.length+1 else 0:=by
  have:=R.nL
  cases hp:s.pushed<;>simp[G1,Gh.setL,hp,this]at this ⊢
 have hle:Le G w G1 w1:=by
  refine⟨fun b es clk h hb=> ?_,fun lev i h=> ?_,fun b off v h hc=> ?_,fun b cur' e' fz' h=> ?_⟩
  ·have hlt:b<w.heap.size:=gr hb
   rw[hO b (by omega),heap_alloc_old w _ hlt]
   exact⟨h,hb⟩
  ·by_cases hl:lev=L
   ·subst hl
    have:=R.nL
    cases hp:s.pushed<;>simp only[hp,if_true,if_false,Bool.false_eq_true]at this
    ·omega
    ·have hb:=hβ lev i (.inr ⟨rfl,by omega⟩)
     refine⟨?_,hb⟩
     rw[hnL,hp,if_pos rfl];omega
   ·by_cases hlt:lev<L
    ·exact⟨by rw[hn lev hl];exact h,hβ lev i (.inl hlt)⟩
    ·have:=R.ngt lev (by omega)
     omega
  ·have hb:b<w.heap.size:=wO hc
   rw[hO b (by omega),j7 hb]
   exact⟨h,hc⟩
  ·exact⟨cur',_,by rw[heap_alloc_old w _ (gr h)];exact h,rfl⟩
 have hT: ∀b,fb G w s.fr tm (μ++[s.lam]) b→w1.heap[b]? =w.heap[b]? ∧G1.O b=G.O b:=fun b hb=>by
  have:=R.touch_lt hb
  exact⟨heap_alloc_old w _ this,hO b (by omega)⟩
 have hlen:s1.lam.length=s.lam.length+1:=by simp[s1]
 have hnew:w1.heap[w.heap.size]? =some (.cells cur e fz):=heap_alloc_new w _
 have hlive: ∀lev i,aK (aC (μ++[s1.lam]) lev i)→(aK (aC (μ++[s.lam]) lev i)∧aC (μ++[s1.lam]) lev i=aC (μ++[s.lam]) lev i∧G1.β lev i=G.β lev i∧(lev<L∨(lev=L∧i<s.lam.length)))∨(lev=L∧i=s.lam.length∧aC (μ++[s1.lam]) lev i=ob):=by
  intro lev i h
  rcases cG (s:=s1) R.lev h with⟨h1,h2⟩|⟨rfl,h1,h2⟩
  ·have e:aC (μ++[s.lam]) lev i=bb μ lev i:=bC (by rw[R.lev];exact h1)
   rw[h2]at h ⊢
   exact .inl ⟨by rw[e];exact h,e.symm,(hβ lev i (.inl h1)).1,.inl h1⟩
  ·rw[hlen]at h1
   by_cases hi:i<s.lam.length
   ·have e:aC (μ++[s.lam]) lev i=aG s.lam i:=by rw[←R.lev];exact bY
    have e2:aG s1.lam i=aG s.lam i:=gT hi
    rw[h2,e2]at h ⊢
    exact .inl ⟨by rw[e];exact h,e.symm,(hβ lev i (.inr ⟨rfl,hi⟩)).1,.inr ⟨rfl,hi⟩⟩
   ·have:i=s.lam.length:=by omega
    subst this
    rw[h2]
    exact .inr ⟨rfl,rfl,jL⟩
 have hownAt: ∀l b,aw G1 w1 s1.fr tm (μ++[s1.lam]) l b→aw G w s.fr tm (μ++[s.lam]) l b∨ ∃cs j,ob= .cells cs∧cC cs cur j b∧l= .ob L s.lam.length j:=by
  intro l b h
  cases l with
  |fr t=>exact .inl h
  |ob lev i j=>
   simp only[aw]at h ⊢
   split at h<;>try(exact h.elim)
   rename_i cs hcs
   split at h<;>try(exact h.elim)
   rename_i x hx
   obtain⟨cur',e',fz',hb,ho⟩:=h
   have hl:aK (aC (μ++[s1.lam]) lev i):=by rw[hcs];trivial
   rcases hlive lev i hl with⟨h1,h2,h3,h4⟩|⟨rfl,rfl,h2⟩
   ·left
    rw[←h2,hcs]
    simp only[hx]
    rw[h3]at hb
    have:G.β lev i<w.heap.size:=R.touch_lt (.inr ⟨lev,i,h1,rfl⟩)
    rw[heap_alloc_old w _ this]at hb
    exact⟨cur',e',fz',hb,ho⟩
   ·right
    rw[h2]at hcs
    rw[hβn.1,hnew]at hb
    obtain⟨rfl,_⟩:=(Obj.cells.injEq ..).mp (Option.some.inj hb)
    exact⟨cs,j,hcs,⟨x,hx,ho⟩,rfl⟩
 refine⟨⟨R.lev,fun t=> ?_,fun i=> ?_,fun lev i hl=> ?_,fun lev i lev' i' h h' e'=> ?_,fun l l' b h h'=> ?_,fun l b lev i h h' e'=> ?_,fun lev hl=> ?_,?_,fun lev hl=> ?_⟩,hle,fun b hb=> ?_,?_⟩
 ·rw[hlen]
  exact df hle (Nat.le_succ _) (fun i hi=>hβ L i (.inr ⟨rfl,hi⟩)) _ _ (fun b hb=>hT b (.inl ⟨.fr t,hb⟩)) (R.fr t)
 ·rw[hlen]
  by_cases hi:i<s.lam.length
  ·have e1:aC (μ++[s.lam]) L i=aG s.lam i:=by rw[←R.lev];exact bY
   have e2:aG s1.lam i=aG s.lam i:=gT hi
   rw[e2,(hβ L i (.inr ⟨rfl,hi⟩)).1,(hβ L i (.inr ⟨rfl,hi⟩)).2]
   refine cU hle (Nat.le_succ _) (fun i hi=>hβ L i (.inr ⟨rfl,hi⟩)) (fun hl=>hT _ (.inr ⟨L,i,by rw[e1];exact hl,rfl⟩)) (fun cs j x cur e fz ho hx hb b' hb'=>hT b' (.inl ⟨.ob L i j,?_⟩)) (R.lam i)
   simp only[aw,e1,ho,hx]
   exact⟨cur,e,fz,hb,hb'⟩
  ·by_cases hi':i=s.lam.length
   ·subst hi'
    have e2:aG s1.lam s.lam.length=ob:=jL
    rw[e2,hβn.1,hβn.2]
    rcases hob with⟨cs,rfl,hc,hr⟩|⟨cs,rfl,hc,hr⟩
    ·simp only[ObR]
     refine⟨cur,e,fz,hnew,hfz,hOn,hc,fun j x hx=> ?_⟩
     refine df hle (Nat.le_succ _) (fun i hi=>hβ L i (.inr ⟨rfl,hi⟩)) _ _ (fun b hb=> ?_) (hr j x hx)
     have hlt:b<w.heap.size:=jx (hr j x hx) hb
     exact⟨heap_alloc_old w _ hlt,hO b (by omega)⟩
    ·simp only[ObR]
     exact⟨trivial,cur,e,fz,hnew,hfz,hOn,hc,fun j x hx=>bk hle x _ (hr j x hx)⟩
   ·have e2:aG s1.lam i= .dead:=rp (by omega)
    rw[e2]
    trivial
 ·have e1:aC (μ++[s.lam]) lev i=bb μ lev i:=bC (by rw[R.lev];exact hl)
  rw[(hβ lev i (.inl hl)).1,(hβ lev i (.inl hl)).2]
  refine cU (hle.below lev) (Nat.le_refl _) (fun i hi=>by omega) (fun h=>hT _ (.inr ⟨lev,i,by rw[e1];exact h,rfl⟩)) (fun cs j x cur e fz ho hx hb b' hb'=>hT b' (.inl ⟨.ob lev i j,?_⟩)) (R.mu lev i hl)
  simp only[aw,e1,ho,hx]
  exact⟨cur,e,fz,hb,hb'⟩
 ·rcases hlive lev i h with⟨h1,h2,h3,_⟩|⟨rfl,rfl,h2⟩<;>rcases hlive lev' i' h' with⟨h1',h2',h3',_⟩|⟨rfl,rfl,h2'⟩
  ·rw[h3,h3']at e';exact R.inj lev i lev' i' h1 h1' e'
  ·rw[h3,hβn.1]at e'
   have:=R.touch_lt (.inr ⟨lev,i,h1,rfl⟩)
   omega
  ·rw[h3',hβn.1]at e'
   have:=R.touch_lt (.inr ⟨lev',i',h1',rfl⟩)
   omega
  ·exact⟨rfl,rfl⟩
 ·rcases hownAt l b h with h1|⟨cs,j,h1,h2,rfl⟩<;>rcases hownAt l' b h' with h1'|⟨cs',j',h1',h2',rfl⟩
  ·exact R.own l l' b h1 h1'
  ·exact absurd h1 ((hown cs' j' b h1' h2').1 l)
  ·exact absurd h1' ((hown cs j b h1 h2).1 l')
  ·rw[h1]at h1'
   injection h1' with h1'
   subst h1'
   rw[(hown cs j b h1 h2).2.2 j' h2']
 ·rcases hlive lev i h' with⟨h2,h3,h4,_⟩|⟨rfl,rfl,h3⟩
  ·rw[h4]at e'
   rcases hownAt l b h with h1|⟨cs,j,h1,h1',rfl⟩
   ·exact R.apart l b lev i h1 h2 e'
   ·exact(hown cs j b h1 h1').2.1 lev i h2 e'
  ·rw[hβn.1]at e'
   rcases hownAt l b h with h1|⟨cs,j,h1,h1',rfl⟩
   ·have:=R.touch_lt (.inl ⟨l,h1⟩)
    omega
   ·rcases hob with⟨cs',e3,hc,hr⟩|⟨cs',e3,hc,hr⟩
    ·rw[h1]at e3
     injection e3 with e3
     subst e3
     obtain⟨x,hx,ho⟩:=h1'
     have:=jx (hr j x hx) ho
     omega
    ·rw[h1]at e3;cases e3
 ·rw[hn lev (by omega)];exact R.nlt lev hl
 ·rw[hnL,hlen]
 ·rw[hn lev (by omega)];exact R.ngt lev hl
 ·rcases hb with⟨l,hb⟩|⟨lev,i,hl,rfl⟩
  ·rcases hownAt l b hb with h1|⟨cs,j,h1,h2,rfl⟩
   ·exact .inl (.inl ⟨l,h1⟩)
   ·exact .inr (.inr ⟨cs,j,h1,h2⟩)
  ·rcases hlive lev i hl with⟨h1,h2,h3,_⟩|⟨rfl,rfl,h2⟩
   ·exact .inl (.inr ⟨lev,i,h1,h3.symm⟩)
   ·exact .inr (.inl hβn.1)
 ·simp only[LVR]
  exact⟨by rw[hlen];omega,by rw[hβn.1]⟩
theorem Rel.newMap {s:S}{μ:Mu}{tm:Array Value}(R:Rel G L s μ tm w):
  let G1:=G.setL L s.lam.length w.heap.size 0 s.pushed
  let w1:=w.alloc (.map #[] 0)
  let s1:S:={s with lam:=s.lam++[.map [] []]}
  Rel G1 L s1 μ tm w1∧Le G w G1 w1∧
  (∀b,fb G1 w1 s1.fr tm (μ++[s1.lam]) b→fb G w s.fr tm (μ++[s.lam]) b∨b=w.heap.size)∧
  LVR G1 w1 L s1.lam.length (.mloc s.lam.length) (.map (some w.heap.size)):=by
 intro G1 w1 s1
 have hβ: ∀lev i,lev<L∨(lev=L∧i<s.lam.length)→G1.β lev i=G.β lev i∧G1.sz lev i=G.sz lev i:=by
  intro lev i h
  have: ¬(lev=L∧i=s.lam.length):=by omega
  simp only[G1,Gh.setL,this,if_false,and_self]
 have hβn:G1.β L s.lam.length=w.heap.size∧G1.sz L s.lam.length=0:=by simp[G1,Gh.setL]
 have hO: ∀b,b≠w.heap.size→G1.O b=G.O b:=fun b h=>by simp[G1,Gh.setL,h]
 have hOn:G1.O w.heap.size=0:=by simp[G1,Gh.setL]
 have hn: ∀lev,lev≠L→G1.n lev=G.n lev:=fun lev h=>by simp[G1,Gh.setL,h]
 have hnL:G1.n L=if s.pushed then s.lam.length+1 else 0:=by
  have:=R.nL
  cases hp:s.pushed<;>simp[G1,Gh.setL,hp,this]at this ⊢
 have hle:Le G w G1 w1:=by
  refine⟨fun b es clk h hb=> ?_,fun lev i h=> ?_,fun b off v h hc=> ?_,fun b cur' e' fz' h=> ?_⟩
  ·have hlt:b<w.heap.size:=gr hb
   rw[hO b (by omega),heap_alloc_old w _ hlt]
   exact⟨h,hb⟩
  ·by_cases hl:lev=L
   ·subst hl
    have:=R.nL
    cases hp:s.pushed<;>simp only[hp,if_true,if_false,Bool.false_eq_true]at this
    ·omega
    ·have hb:=hβ lev i (.inr ⟨rfl,by omega⟩)
     refine⟨?_,hb⟩
     rw[hnL,hp,if_pos rfl];omega
   ·by_cases hlt:lev<L
    ·exact⟨by rw[hn lev hl];exact h,hβ lev i (.inl hlt)⟩
    ·have:=R.ngt lev (by omega)
     omega
  ·have hb:b<w.heap.size:=wO hc
   rw[hO b (by omega),j7 hb]
   exact⟨h,hc⟩
  ·exact⟨cur',_,by rw[heap_alloc_old w _ (gr h)];exact h,rfl⟩
 have hT: ∀b,fb G w s.fr tm (μ++[s.lam]) b→w1.heap[b]? =w.heap[b]? ∧G1.O b=G.O b:=fun b hb=>by
  have:=R.touch_lt hb
  exact⟨heap_alloc_old w _ this,hO b (by omega)⟩
 have hlen:s1.lam.length=s.lam.length+1:=by simp[s1]
 have hnew:w1.heap[w.heap.size]? =some (.map #[] 0):=heap_alloc_new w _
 have hlive: ∀lev i,aK (aC (μ++[s1.lam]) lev i)→(aK (aC (μ++[s.lam]) lev i)∧aC (μ++[s1.lam]) lev i=aC (μ++[s.lam]) lev i∧G1.β lev i=G.β lev i∧(lev<L∨(lev=L∧i<s.lam.length)))∨(lev=L∧i=s.lam.length∧aC (μ++[s1.lam]) lev i= .map [] []):=by
  intro lev i h
  rcases cG (s:=s1) R.lev h with⟨h1,h2⟩|⟨rfl,h1,h2⟩
  ·have e:aC (μ++[s.lam]) lev i=bb μ lev i:=bC (by rw[R.lev];exact h1)
   rw[h2]at h ⊢
   exact .inl ⟨by rw[e];exact h,e.symm,(hβ lev i (.inl h1)).1,.inl h1⟩
  ·rw[hlen]at h1
   by_cases hi:i<s.lam.length
   ·have e:aC (μ++[s.lam]) lev i=aG s.lam i:=by rw[←R.lev];exact bY
    have e2:aG s1.lam i=aG s.lam i:=gT hi
    rw[h2,e2]at h ⊢
    exact .inl ⟨by rw[e];exact h,e.symm,(hβ lev i (.inr ⟨rfl,hi⟩)).1,.inr ⟨rfl,hi⟩⟩
   ·have:i=s.lam.length:=by omega
    subst this
    rw[h2]
    exact .inr ⟨rfl,rfl,jL⟩
 have hownAt: ∀l b,aw G1 w1 s1.fr tm (μ++[s1.lam]) l b→aw G w s.fr tm (μ++[s.lam]) l b:=by
  intro l b h
  cases l with
  |fr t=>exact h
  |ob lev i j=>
   simp only[aw]at h ⊢
   split at h<;>try(exact h.elim)
   rename_i cs hcs
   split at h<;>try(exact h.elim)
   rename_i x hx
   obtain⟨cur',e',fz',hb,ho⟩:=h
   have hl:aK (aC (μ++[s1.lam]) lev i):=by rw[hcs];trivial
   rcases hlive lev i hl with⟨h1,h2,h3,h4⟩|⟨rfl,rfl,h2⟩
   ·rw[←h2,hcs]
    simp only[hx]
    rw[h3]at hb
    have:G.β lev i<w.heap.size:=R.touch_lt (.inr ⟨lev,i,h1,rfl⟩)
    rw[heap_alloc_old w _ this]at hb
    exact⟨cur',e',fz',hb,ho⟩
   ·rw[h2]at hcs
    cases hcs
 refine⟨⟨R.lev,fun t=> ?_,fun i=> ?_,fun lev i hl=> ?_,fun lev i lev' i' h h' e'=> ?_,fun l l' b h h'=> ?_,fun l b lev i h h' e'=> ?_,fun lev hl=> ?_,?_,fun lev hl=> ?_⟩,hle,fun b hb=> ?_,?_⟩
 ·rw[hlen]
  exact df hle (Nat.le_succ _) (fun i hi=>hβ L i (.inr ⟨rfl,hi⟩)) _ _ (fun b hb=>hT b (.inl ⟨.fr t,hb⟩)) (R.fr t)
 ·rw[hlen]
  by_cases hi:i<s.lam.length
  ·have e1:aC (μ++[s.lam]) L i=aG s.lam i:=by rw[←R.lev];exact bY
   have e2:aG s1.lam i=aG s.lam i:=gT hi
   rw[e2,(hβ L i (.inr ⟨rfl,hi⟩)).1,(hβ L i (.inr ⟨rfl,hi⟩)).2]
   refine cU hle (Nat.le_succ _) (fun i hi=>hβ L i (.inr ⟨rfl,hi⟩)) (fun hl=>hT _ (.inr ⟨L,i,by rw[e1];exact hl,rfl⟩)) (fun cs j x cur e fz ho hx hb b' hb'=>hT b' (.inl ⟨.ob L i j,?_⟩)) (R.lam i)
   simp only[aw,e1,ho,hx]
   exact⟨cur,e,fz,hb,hb'⟩
  ·by_cases hi':i=s.lam.length
   ·subst hi'
    have e2:aG s1.lam s.lam.length= .map [] []:=jL
    rw[e2,hβn.1,hβn.2]
    simp only[ObR]
    exact⟨#[],0,hnew,hOn,rfl,by simp[VRL]⟩
   ·have e2:aG s1.lam i= .dead:=rp (by omega)
    rw[e2]
    trivial
 ·have e1:aC (μ++[s.lam]) lev i=bb μ lev i:=bC (by rw[R.lev];exact hl)
  rw[(hβ lev i (.inl hl)).1,(hβ lev i (.inl hl)).2]
  refine cU (hle.below lev) (Nat.le_refl _) (fun i hi=>by omega) (fun h=>hT _ (.inr ⟨lev,i,by rw[e1];exact h,rfl⟩)) (fun cs j x cur e fz ho hx hb b' hb'=>hT b' (.inl ⟨.ob lev i j,?_⟩)) (R.mu lev i hl)
  simp only[aw,e1,ho,hx]
  exact⟨cur,e,fz,hb,hb'⟩
 ·rcases hlive lev i h with⟨h1,h2,h3,_⟩|⟨rfl,rfl,h2⟩<;>rcases hlive lev' i' h' with⟨h1',h2',h3',_⟩|⟨rfl,rfl,h2'⟩
  ·rw[h3,h3']at e';exact R.inj lev i lev' i' h1 h1' e'
  ·rw[h3,hβn.1]at e'
   have:=R.touch_lt (.inr ⟨lev,i,h1,rfl⟩)
   omega
  ·rw[h3',hβn.1]at e'
   have:=R.touch_lt (.inr ⟨lev',i',h1',rfl⟩)
   omega
  ·exact⟨rfl,rfl⟩
 ·exact R.own l l' b (hownAt l b h) (hownAt l' b h')
 ·rcases hlive lev i h' with⟨h2,h3,h4,_⟩|⟨rfl,rfl,h3⟩
  ·rw[h4]at e'
   exact R.apart l b lev i (hownAt l b h) h2 e'
  ·rw[hβn.1]at e'
   have:=R.touch_lt (.inl ⟨l,hownAt l b h⟩)
   omega
 ·rw[hn lev (by omega)];exact R.nlt lev hl
 ·rw[hnL,hlen]
 ·rw[hn lev (by omega)];exact R.ngt lev hl
 ·rcases hb with⟨l,hb⟩|⟨lev,i,hl,rfl⟩
  ·exact .inl (.inl ⟨l,hownAt l b hb⟩)
  ·rcases hlive lev i hl with⟨h1,h2,h3,_⟩|⟨rfl,rfl,h2⟩
   ·exact .inl (.inr ⟨lev,i,h1,h3.symm⟩)
   ·exact .inr hβn.1
 ·simp only[LVR]
  exact⟨by rw[hlen];omega,by rw[hβn.1]⟩
end
end Go.Abs
set_option linter.unusedVariables false
set_option linter.unusedSimpArgs false
namespace Go.Abs
open Go
section
variable {G:Gh}{w:World}{L:Nat}{P:Program}
theorem ku (g o:Nat)(t:TypeId)(fz:Nat×Nat): ∀(vs:List Value) (i:Nat) (cur:Array Value) (w:World),w.heap[g]? =some (.cells cur t fz)→dX cur fz→
    o+i+vs.length≤cur.size→(∀v∈vs,v.oneCell'=true)→(storeCells ⟨g,o,none⟩ vs i).run P w= .ok () (w.setRow g (bW cur (o+i) vs))
  |[],i,cur,w,hg,_,_,_=>by
    simp only[storeCells,bW]
    rw[setRow_self w g cur t fz hg]
    rfl
  |v::rest,i,cur,w,hg,hu,hl,h1=>by
    have hi:o+i<cur.size:=by simp at hl;omega
    have hcell:w.cell? ⟨g,o+i,none⟩=some cur[o+i]:=by simp[World.cell?,hg,hi]
    have hfro:w.frozen? ⟨g,o+i,none⟩=false:=by
      have:=hu (o+i) hi
      obtain⟨lo,hi'⟩:=fz
      simp only[World.frozen?,hg]
      simp only[Bool.and_eq_false_iff,decide_eq_false_iff_not]
      simp only at this
      omega
    have hst:(store ((⟨g,o,none⟩:Addr).add i) v).run P w= .ok () (w.setRow g (cur.setIfInBounds (o+i) v)):=by
      rw[eS,run_store P w _ v _ (h1 v (by simp)),hcell]
      simp[hfro,setCell_eq_setRow w g (o+i) cur t fz v hg]
    have ih:=ku g o t fz rest (i+1) (cur.setIfInBounds (o+i) v) (w.setRow g (cur.setIfInBounds (o+i) v)) (setRow_heap w g cur _ t _ hg) (fun j hj=>hu j (by simpa using hj)) (by simp at hl ⊢; omega) (fun x hx=>h1 x (by simp[hx]))
    simp only[storeCells,Sem.run_bind,hst,Result.andThen_ok,ih,setRow_setRow,bW]
    rfl
theorem HY {b:Nat}{cur cur':Array Value}{e:TypeId}{fz:Nat×Nat}(hb:w.heap[b]? =some (.cells cur e fz))(hO:G.O b=0)(hs:cur'.size=cur.size):Le G w G (w.setRow b cur'):=by
  refine⟨fun b' es clk h hb'=> ?_,fun _ _ h=>⟨h,rfl,rfl⟩,fun b' off v h hc=> ?_,fun b' cur2 e2 fz2 h=> ?_⟩
  · have hne:b'≠b:=fun e=>by subst e;omega
    exact⟨h,by rw[setRow_other w b b' cur' hne];exact hb'⟩
  · have hne:b'≠b:=fun e=>by subst e;omega
    refine⟨h,?_⟩
    rw[←hc]
    simp only[World.cell?]
    rw[setRow_other w b b' cur' hne]
  · by_cases hne:b'=b
    · subst hne
      rw[hb]at h
      obtain⟨rfl,rfl,rfl⟩:=(Obj.cells.injEq ..).mp (Option.some.inj h)
      exact⟨cur',fz,setRow_heap w b' cur cur' e fz hb,hs⟩
    · exact⟨cur2,fz2,by rw[setRow_other w b b' cur' hne];exact h,rfl⟩
theorem AH {H:Mu}{lev i:Nat}{o:Ob}(h:aK (bb H lev i))(l j:Nat):bb (ci H lev i o) l j=if l=lev∧j=i then o else bb H l j:=by
  unfold ci
  cases hl:H[lev]? with
  |none=>simp only[bb,hl]at h;exact h.elim
  |some lam=>
    have hlt:lev<H.length:=(List.getElem?_eq_some_iff.1 hl).1
    have hi:i<lam.length:=by
      simp only[bb,hl]at h
      by_cases hi:i<lam.length
      · exact hi
      · rw[List.getElem?_eq_none (by omega)]at h;exact h.elim
    simp only[bb]
    by_cases e:l=lev
    · subst e
      rw[List.getElem?_set_self hlt,hl]
      simp only[true_and]
      by_cases e2:j=i
      · subst e2;rw[List.getElem?_set_self hi];simp
      · rw[List.getElem?_set_ne (by omega)];simp[e2]
    · rw[List.getElem?_set_ne (by omega)];simp[e]
theorem gW {H:Mu}{lev i:Nat}{o:Ob}:(ci H lev i o).length=H.length∧ ∀l,((ci H lev i o).getD l []).length=(H.getD l []).length:=by
  unfold ci
  cases hl:H[lev]? with
  |none=>exact⟨rfl,fun _=>rfl⟩
  |some lam=>
    refine⟨by simp,fun l=> ?_⟩
    simp only[List.getD_eq_getElem?_getD]
    by_cases e:l=lev
    · subst e
      rw[List.getElem?_set_self (List.getElem?_eq_some_iff.1 hl).1,hl]
      simp
    · rw[List.getElem?_set_ne (by omega)]
theorem Rel.setOb {s s1:S}{μ μ1:Mu}{tm:Array Value}(R:Rel G L s μ tm w){lev i:Nat}{o':Ob}(hl:aK (aC (μ++[s.lam]) lev i)){cur cur':Array Value}{e:TypeId}{fz:Nat×Nat}
    (hb:w.heap[G.β lev i]? =some (.cells cur e fz)) (hs:cur'.size=cur.size)
    (hfr:s1.fr=s.fr) (hp:s1.pushed=s.pushed) (hlen:s1.lam.length=s.lam.length) (hμlen:μ1.length=μ.length) (hH:μ1++[s1.lam]=ci (μ++[s.lam]) lev i o')
    (hob: ∀G' w',Le G w G' w'→G'=G→w'=w.setRow (G.β lev i) cur'→(lev=L→ObR G' w' L s.lam.length (G.β lev i) (G.sz lev i) o')∧(lev<L→ObR (G'.below lev) w' lev 0 (G.β lev i) (G.sz lev i) o'))
    (hown : ∀ cs' k b, o' = .cells cs' → cC cs' cur' k b → aw G w s.fr tm (μ ++ [s.lam]) (.ob lev i k) b ∨
      ((∀l,¬aw G w s.fr tm (μ++[s.lam]) l b)∧(∀lev i,aK (aC (μ++[s.lam]) lev i)→G.β lev i≠b)∧ ∀k',cC cs' cur' k' b→k'=k)):
    Rel G L s1 μ1 tm (w.setRow (G.β lev i) cur')∧Le G w G (w.setRow (G.β lev i) cur')∧
    (∀b,fb G (w.setRow (G.β lev i) cur') s1.fr tm (μ1++[s1.lam]) b→fb G w s.fr tm (μ++[s.lam]) b∨ ∃cs' k,o'= .cells cs'∧cC cs' cur' k b)∧
    (∀l b,aw G (w.setRow (G.β lev i) cur') s1.fr tm (μ1++[s1.lam]) l b→aw G w s.fr tm (μ++[s.lam]) l b∨ ∃cs' k,o'= .cells cs'∧cC cs' cur' k b∧l= .ob lev i k)∧
    (∀k b,aw G (w.setRow (G.β lev i) cur') s1.fr tm (μ1++[s1.lam]) (.ob lev i k) b→ ∃cs',o'= .cells cs'∧cC cs' cur' k b)∧
    (∀l j,aK (aC (μ1++[s1.lam]) l j)→aK (aC (μ++[s.lam]) l j)):=by
  have hO:G.O (G.β lev i)=0:=by
    rcases cG R.lev hl with⟨h1,h2⟩|⟨rfl,h1,h2⟩
    · have:=R.mu lev i h1
      rw[←h2]at this
      revert this hl
      cases aC (μ++[s.lam]) lev i with
      |dead=>intro h;exact h.elim
      |cells cs=>intro _ h;simp only[ObR]at h;obtain⟨_,_,_,_,_,h,_⟩:=h;exact h
      |arr k cs=>intro _ h;simp only[ObR]at h;obtain⟨_,_,_,_,_,_,h,_⟩:=h;exact h
      |map ks vs=>intro _ h;simp only[ObR]at h;obtain⟨_,_,_,h,_⟩:=h;exact h
    · have:=R.lam i
      rw[←h2]at this
      revert this hl
      cases aC (μ++[s.lam]) lev i with
      |dead=>intro h;exact h.elim
      |cells cs=>intro _ h;simp only[ObR]at h;obtain⟨_,_,_,_,_,h,_⟩:=h;exact h
      |arr k cs=>intro _ h;simp only[ObR]at h;obtain⟨_,_,_,_,_,_,h,_⟩:=h;exact h
      |map ks vs=>intro _ h;simp only[ObR]at h;obtain⟨_,_,_,h,_⟩:=h;exact h
  have hle:=HY (G:=G) hb hO hs
  have hset:=AH (o:=o') hl
  have hAt: ∀l j,aC (μ1++[s1.lam]) l j=if l=lev∧j=i then o' else aC (μ++[s.lam]) l j:=fun l j=>by rw[aC,hH];exact hset l j
  have hlvl:lev≤L:=by rcases cG R.lev hl with⟨h1,_⟩|⟨h1,_⟩<;>omega
  have hblk: ∀b,b≠G.β lev i→(w.setRow (G.β lev i) cur').heap[b]? =w.heap[b]? :=fun b h=>setRow_other w _ b cur' h
  have hlive: ∀l j,aK (aC (μ1++[s1.lam]) l j)→aK (aC (μ++[s.lam]) l j):=by
    intro l j h
    rw[hAt]at h
    split at h
    · rename_i e;rw[e.1,e.2];exact hl
    · exact h
  have hne: ∀l j,aK (aC (μ++[s.lam]) l j)→ ¬(l=lev∧j=i)→G.β l j≠G.β lev i:=fun l j h hn e=>hn (R.inj l j lev i h hl e)
  have hownAt: ∀l b,aw G (w.setRow (G.β lev i) cur') s1.fr tm (μ1++[s1.lam]) l b→(aw G w s.fr tm (μ++[s.lam]) l b)∨
      ∃cs' k,o'= .cells cs'∧cC cs' cur' k b∧l= .ob lev i k∧((∀l,¬aw G w s.fr tm (μ++[s.lam]) l b)∧(∀lev i,aK (aC (μ++[s.lam]) lev i)→G.β lev i≠b)∧ ∀k',cC cs' cur' k' b→k'=k):=by
    intro l b h
    cases l with
    |fr t=>rw[hfr]at h;exact .inl h
    |ob l j k=>
      simp only[aw]at h
      split at h<;>try(exact h.elim)
      rename_i cs hcs
      split at h<;>try(exact h.elim)
      rename_i x hx
      obtain⟨cur2,e2,fz2,hb2,ho⟩:=h
      rw[hAt]at hcs
      split at hcs
      · rename_i e
        obtain⟨rfl,rfl⟩:=e
        rw[setRow_heap w _ cur cur' e fz hb]at hb2
        obtain⟨rfl,_⟩:=(Obj.cells.injEq ..).mp (Option.some.inj hb2)
        rcases hown cs k b hcs ⟨x,hx,ho⟩with h|h
        · exact .inl h
        · exact .inr ⟨cs,k,hcs,⟨x,hx,ho⟩,rfl,h⟩
      · rename_i e
        have hl2:aK (aC (μ++[s.lam]) l j):=by rw[hcs];trivial
        rw[hblk _ (hne l j hl2 e)]at hb2
        left
        simp only[aw,hcs,hx]
        exact⟨cur2,e2,fz2,hb2,ho⟩
  have hownBlk: ∀l b,aw G w s.fr tm (μ++[s.lam]) l b→(w.setRow (G.β lev i) cur').heap[b]? =w.heap[b]? ∧G.O b=G.O b:=fun l b h=>⟨hblk b fun e=>R.apart l b lev i h hl e.symm,rfl⟩
  refine⟨⟨by rw[hμlen];exact R.lev,fun t=> ?_,fun j=> ?_,fun l j hlt=> ?_,fun l j l' j' h h' e'=>R.inj l j l' j' (hlive l j h) (hlive l' j' h') e',fun l l' b h h'=> ?_,fun l b l' j h h' e'=> ?_,fun l hlt=> ?_,?_,R.ngt⟩,hle,fun b hb=> ?_,fun l b h=>(hownAt l b h).imp id fun⟨cs,k,h1,h2,h3,_⟩=>⟨cs,k,h1,h2,h3⟩,fun k b h=> ?_,hlive⟩
  · rw[hfr,hlen]
    exact df hle (Nat.le_refl _) (fun _ _=>⟨rfl,rfl⟩) _ _ (fun b hb=>hownBlk (.fr t) b hb) (R.fr t)
  · rw[hlen]
    have e1:aC (μ1++[s1.lam]) L j=aG s1.lam j:=by rw[←R.lev,←hμlen];exact bY
    have e2:aC (μ++[s.lam]) L j=aG s.lam j:=by rw[←R.lev];exact bY
    rw[←e1,hAt]
    split
    · rename_i e
      obtain⟨rfl,rfl⟩:=e
      exact(hob G _ hle rfl rfl).1 rfl
    · rename_i e
      rw[e2]
      refine cU hle (Nat.le_refl _) (fun _ _=>⟨rfl,rfl⟩) (fun h=>⟨hblk _ (hne L j (by rw[e2];exact h) e),rfl⟩) (fun cs k x cur e fz ho hx hb b' hb'=>hownBlk (.ob L j k) b' ?_) (R.lam j)
      simp only[aw,e2,ho,hx]
      exact⟨cur,e,fz,hb,hb'⟩
  · have e1:aC (μ1++[s1.lam]) l j=bb μ1 l j:=bC (by rw[hμlen,R.lev];exact hlt)
    have e2:aC (μ++[s.lam]) l j=bb μ l j:=bC (by rw[R.lev];exact hlt)
    rw[←e1,hAt]
    split
    · rename_i e
      obtain⟨rfl,rfl⟩:=e
      exact(hob G _ hle rfl rfl).2 hlt
    · rename_i e
      rw[e2]
      refine cU (hle.below l) (Nat.le_refl _) (fun _ h=>by omega) (fun h=>⟨hblk _ (hne l j (by rw[e2];exact h) e),rfl⟩) (fun cs k x cur e fz ho hx hb b' hb'=>hownBlk (.ob l j k) b' ?_) (R.mu l j hlt)
      simp only[aw,e2,ho,hx]
      exact⟨cur,e,fz,hb,hb'⟩
  · rcases hownAt l b h with h1|⟨cs,k,h1,h2,rfl,h3⟩<;>rcases hownAt l' b h' with h1'|⟨cs',k',h1',h2',rfl,h3'⟩
    · exact R.own l l' b h1 h1'
    · exact absurd h1 (h3'.1 l)
    · exact absurd h1' (h3.1 l')
    · rw[h1]at h1'
      injection h1' with h1'
      subst h1'
      rw[h3.2.2 k' h2']
  · rcases hownAt l b h with h1|⟨cs,k,h1,h2,rfl,h3⟩
    · exact R.apart l b l' j h1 (hlive l' j h') e'
    · exact h3.2.1 l' j (hlive l' j h') e'
  · have h1:(μ1.getD l []).length=(μ.getD l []).length:=by
      have:=(gW (H:=μ++[s.lam]) (lev:=lev) (i:=i) (o:=o')).2 l
      rw[←hH]at this
      have a1:l<μ1.length:=by rw[hμlen,R.lev];exact hlt
      have a2:l<μ.length:=by rw[R.lev];exact hlt
      simp only[List.getD_eq_getElem?_getD,List.getElem?_append_left a1,List.getElem?_append_left a2]at this ⊢
      exact this
    rw[h1];exact R.nlt l hlt
  · rw[hp,hlen];exact R.nL
  · rcases hb with⟨l,hb⟩|⟨l,j,h,rfl⟩
    · rcases hownAt l b hb with h1|⟨cs,k,h1,h2,_⟩
      · exact .inl (.inl ⟨l,h1⟩)
      · exact .inr ⟨cs,k,h1,h2⟩
    · exact .inl (.inr ⟨l,j,hlive l j h,rfl⟩)
  · simp only[aw]at h
    split at h<;>try(exact h.elim)
    rename_i cs hcs
    split at h<;>try(exact h.elim)
    rename_i x hx
    obtain⟨cur2,e2,fz2,hb2,ho⟩:=h
    rw[hAt,if_pos ⟨rfl,rfl⟩]at hcs
    rw[setRow_heap w _ cur cur' e fz hb]at hb2
    obtain⟨rfl,_⟩:=(Obj.cells.injEq ..).mp (Option.some.inj hb2)
    exact⟨cs,hcs,x,hx,ho⟩
theorem OW {s:S}{μ:Mu}{tm:Array Value}(R:Rel G L s μ tm w){lev i:Nat}{cs:List LV}(h:aC (μ++[s.lam]) lev i= .cells cs):
    ∃cur e fz,w.heap[G.β lev i]? =some (.cells cur e fz)∧dX cur fz∧cs.length≤cur.size∧
      ((lev = L ∧ i < s.lam.length ∧ aG s.lam i = .cells cs ∧ ∀ j x, cs[j]? = some x → LVR G w L s.lam.length x (cur.getD j undef)) ∨
       (lev<L∧bb μ lev i= .cells cs∧ ∀j x,cs[j]? =some x→LVR (G.below lev) w lev 0 x (cur.getD j undef))):=by
  have hl:aK (aC (μ++[s.lam]) lev i):=by rw[h];trivial
  rcases cG R.lev hl with⟨h1,h2⟩|⟨rfl,h1,h2⟩
  · rw[h]at h2
    have:=R.mu lev i h1
    rw[←h2]at this
    simp only[ObR]at this
    obtain⟨cur,e,fz,a,b,_,c,d⟩:=this
    exact⟨cur,e,fz,a,b,c,.inr ⟨h1,h2.symm,d⟩⟩
  · rw[h]at h2
    have:=R.lam i
    rw[←h2]at this
    simp only[ObR]at this
    obtain⟨cur,e,fz,a,b,_,c,d⟩:=this
    exact⟨cur,e,fz,a,b,c,.inl ⟨rfl,h1,h2.symm,d⟩⟩
theorem Rel.takeOb {s s1:S}{μ μ1:Mu}{tm:Array Value}(R:Rel G L s μ tm w){lev i off:Nat}{cs:List LV}{x:LV}(hob:aC (μ++[s.lam]) lev i= .cells cs)(hx:cs[off]? =some x)
    (hfr:s1.fr=s.fr) (hp:s1.pushed=s.pushed) (hlen:s1.lam.length=s.lam.length) (hμlen:μ1.length=μ.length) (hH:μ1++[s1.lam]=ci (μ++[s.lam]) lev i (.cells (cs.set off (strip x)))):
    ∃cur e fz,w.heap[G.β lev i]? =some (.cells cur e fz)∧off<cur.size∧Rel G L s1 μ1 tm w∧
      (∀b,fb G w s1.fr tm (μ1++[s1.lam]) b→fb G w s.fr tm (μ++[s.lam]) b)∧
      ((lev=L∧LVR G w L s.lam.length x (cur.getD off undef))∨(lev<L∧LVR (G.below lev) w lev 0 x (cur.getD off undef)))∧
      (∀b,aD x (cur.getD off undef) b→(∀l,¬aw G w s1.fr tm (μ1++[s1.lam]) l b)∧(∀l j,aK (aC (μ1++[s1.lam]) l j)→G.β l j≠b)∧fb G w s.fr tm (μ++[s.lam]) b):=by
  obtain⟨cur,e,fz,hb,hu,hsz,hcase⟩:=OW R hob
  have hoff:off<cs.length:=(List.getElem?_eq_some_iff.1 hx).1
  have hl:aK (aC (μ++[s.lam]) lev i):=by rw[hob];trivial
  have hown0: ∀k b,cC (cs.set off (strip x)) cur k b→k≠off∧aw G w s.fr tm (μ++[s.lam]) (.ob lev i k) b:=by
    intro k b ⟨y,hy,ho⟩
    by_cases hk:k=off
    · subst hk
      rw[List.getElem?_set_self hoff]at hy
      simp only[Option.some.injEq]at hy
      subst hy
      exact absurd ho ie
    · rw[List.getElem?_set_ne (by omega)]at hy
      refine⟨hk,?_⟩
      simp only[aw,hob,hy]
      exact⟨cur,e,fz,hb,ho⟩
  obtain⟨R1,_,hT,hO1,hO2,hlv⟩:=R.setOb (s1:=s1) (μ1:=μ1) (o':= .cells (cs.set off (strip x))) hl hb (cur':=cur) rfl hfr hp hlen hμlen hH
    (fun G' w' hle hG hw => by
      subst hG
      rw[setRow_self w _ cur e fz hb]at hw
      subst hw
      refine⟨fun hL=> ?_,fun hL=> ?_⟩
      · rcases hcase with⟨_,_,h2,h3⟩|⟨h1,_⟩
        · have:=R.lam i
          rw[h2]at this
          simp only[ObR]at this ⊢
          obtain⟨cur',e',fz',hb',hu',hO',hs',hr'⟩:=this
          rw[hL]
          refine⟨cur',e',fz',hb',hu',hO',by simpa using hs',fun j y hy=> ?_⟩
          by_cases hj:j=off
          · subst hj
            rw[List.getElem?_set_self hoff]at hy
            simp only[Option.some.injEq]at hy
            subst hy
            exact jb (hr' j x hx)
          · rw[List.getElem?_set_ne (by omega)]at hy
            exact hr' j y hy
        · omega
      · rcases hcase with⟨h1,_⟩|⟨_,h2,h3⟩
        · omega
        · have:=R.mu lev i hL
          rw[h2]at this
          simp only[ObR]at this ⊢
          obtain⟨cur',e',fz',hb',hu',hO',hs',hr'⟩:=this
          refine⟨cur',e',fz',hb',hu',hO',by simpa using hs',fun j y hy=> ?_⟩
          by_cases hj:j=off
          · subst hj
            rw[List.getElem?_set_self hoff]at hy
            simp only[Option.some.injEq]at hy
            subst hy
            exact jb (hr' j x hx)
          · rw[List.getElem?_set_ne (by omega)]at hy
            exact hr' j y hy)
    (fun cs' k b he ho => by
      injection he with he
      subst he
      exact .inl (hown0 k b ho).2)
  rw[setRow_self w _ cur e fz hb]at R1 hT hO1 hO2
  refine⟨cur,e,fz,hb,by omega,R1,fun b hb=> ?_,?_,fun b ho=> ?_⟩
  · rcases hT b hb with h|⟨cs',k,he,ho⟩
    · exact h
    · injection he with he
      subst he
      exact .inl ⟨_,(hown0 k b ho).2⟩
  · rcases hcase with⟨h1,_,_,h3⟩|⟨h1,_,h3⟩
    · exact .inl ⟨h1,h3 off x hx⟩
    · exact .inr ⟨h1,h3 off x hx⟩
  · have hown:aw G w s.fr tm (μ++[s.lam]) (.ob lev i off) b:=by
      simp only[aw,hob,hx]
      exact⟨cur,e,fz,hb,ho⟩
    refine⟨fun l h=> ?_,fun l j h=>R.apart _ b l j hown (hlv l j h),.inl ⟨_,hown⟩⟩
    have hold:aw G w s.fr tm (μ++[s.lam]) l b:=by
      rcases hO1 l b h with h|⟨cs',k,he,ho',rfl⟩
      · exact h
      · injection he with he
        subst he
        exact(hown0 k b ho').2
    have hl:=R.own l _ b hold hown
    subst hl
    obtain⟨cs',he,ho'⟩:=hO2 off b h
    injection he with he
    subst he
    exact(hown0 off b ho').1 rfl
end
end Go.Abs
set_option linter.unusedVariables false
set_option linter.unusedSimpArgs false
namespace Go.Abs
open Go
section
variable {G:Gh}{w:World}{L:Nat}{P:Program}
theorem rX: ∀{cs:List LV} {l:List CV},qb cs=some l→l.length=cs.length∧ ∀(j:Nat) c,l[j]? =some c→ ∃x,cs[j]? =some x∧d8 x=some c
 |[],l,h=>by simp only[qb,Option.some.injEq]at h;subst h;exact⟨rfl,fun j c hc=>by simp at hc⟩
 |x::r,l,h=>by
  simp only[qb]at h
  obtain⟨c,h1,h2⟩:=ab.1 h
  obtain⟨l',h3,h4⟩:=ab.1 h2
  simp only[Option.some.injEq]at h4
  subst h4
  obtain⟨e,hg⟩:=rX h3
  refine⟨by simp[e],fun j c' hc=> ?_⟩
  cases j with
  |zero=>simp only[List.getElem?_cons_zero,Option.some.injEq]at hc;subst hc;exact⟨x,rfl,h1⟩
  |succ j=>simpa using hg j c' (by simpa using hc)
theorem CL_of {b:Nat}: ∀{cs:List CV} {off:Nat},(∀(j:Nat) c,cs[j]? =some c→ ∃v,w.cell? ⟨b,off+j,none⟩=some v∧off+j<G.O b∧VR G w c v)→CL G w b off cs
 |[],off,_=>by simp[CL]
 |c::r,off,h=>by
  simp only[CL]
  refine⟨by simpa using h 0 c rfl,CL_of fun j c' hc=> ?_⟩
  have:=h (j+1) c' (by simpa using hc)
  rwa [show off+(j+1)=off+1+j by omega]at this
theorem Jz {l:Lam}{i:Nat}{o:Ob}(h:i<l.length)(j:Nat):aG (l.set i o) j=if j=i then o else aG l j:=by
 simp only[aG]
 by_cases e:j=i
 ·subst e;rw[List.getElem?_set_self h];simp
 ·rw[List.getElem?_set_ne (by omega)];simp[e]
theorem cell_of_heap {b j:Nat}{cur:Array Value}{e:TypeId}{fz:Nat×Nat}(h:w.heap[b]? =some (.cells cur e fz))(hj:j<cur.size):w.cell? ⟨b,j,none⟩=some (cur.getD j undef):=by
 rw[cell_of_row w b j cur e fz h]
 simp[Array.getD,hj]
theorem Rel.freezeOb {s:S}{μ:Mu}{tm:Array Value}(R:Rel G L s μ tm w){i t n:Nat}{x:LV}(hl:aK (aG s.lam i))
  (hx:Le G w (G.setO (G.β L i) n) w→LVR (G.setO (G.β L i) n) w L s.lam.length x (tm.getD t undef)) (hno: ∀b,¬aD x (tm.getD t undef) b):
  let G':=G.setO (G.β L i) n
  let s':S:={s with fr:=upd s.fr t x,lam:=s.lam.set i .dead}
  Rel G' L s' μ tm w∧Ext L (ax G w s μ tm) G w G' w (ax G' w s' μ tm):=by
 intro G' s'
 have hi:=mN hl
 have e0: ∀j,aC (μ++[s.lam]) L j=aG s.lam j:=fun j=>by rw[←R.lev];exact bY
 have e1: ∀j,aC (μ++[s'.lam]) L j=aG s'.lam j:=fun j=>by rw[←R.lev];exact bY
 have hl':aK (aC (μ++[s.lam]) L i):=by rw[e0];exact hl
 have hOb:G.O (G.β L i)=0:=by
  have:=R.lam i
  revert this hl
  cases aG s.lam i with
  |dead=>intro h;exact h.elim
  |cells cs=>intro _ h;simp only[ObR]at h;obtain⟨_,_,_,_,_,h,_⟩:=h;exact h
  |arr k cs=>intro _ h;simp only[ObR]at h;obtain⟨_,_,_,_,_,_,h,_⟩:=h;exact h
  |map ks vs=>intro _ h;simp only[ObR]at h;obtain⟨_,_,_,h,_⟩:=h;exact h
 have hle:Le G w G' w:=by
  refine⟨fun b es clk h hb=>⟨?_,hb⟩,fun _ _ h=>⟨h,rfl,rfl⟩,fun b off v h hc=>⟨?_,hc⟩,fun b cur e fz h=>⟨cur,fz,h,rfl⟩⟩
  ·by_cases hbb:b=G.β L i
   ·subst hbb;omega
   ·rw[cR hbb];exact h
  by_cases hbb:b=G.β L i
  ·subst hbb;omega
  ·rw[cR hbb];exact h
 have hset: ∀j,aG s'.lam j=if j=i then .dead else aG s.lam j:=fun j=>Jz hi j
 have hlen:s'.lam.length=s.lam.length:=by simp[s']
 have hlive: ∀l j,aK (aC (μ++[s'.lam]) l j)→aK (aC (μ++[s.lam]) l j)∧aC (μ++[s'.lam]) l j=aC (μ++[s.lam]) l j∧ ¬(l=L∧j=i):=by
  intro l j h
  rcases cG (s:=s') R.lev h with⟨h1,h2⟩|⟨rfl,h1,h2⟩
  ·have:aC (μ++[s.lam]) l j=bb μ l j:=bC (by rw[R.lev];exact h1)
   rw[h2]at h ⊢
   exact⟨by rw[this];exact h,this.symm,by omega⟩
  ·rw[h2,hset]at h
   rw[h2,hset,e0]
   split at h
   ·exact h.elim
   ·rename_i hj
    rw[if_neg hj]
    exact⟨h,rfl,by simpa using hj⟩
 have hO: ∀l j,aK (aC (μ++[s.lam]) l j)→ ¬(l=L∧j=i)→G'.O (G.β l j)=G.O (G.β l j):=fun l j h hn=>cR fun e=>hn (R.inj l j L i h hl' e)
 have hOo: ∀l b,aw G w s.fr tm (μ++[s.lam]) l b→G'.O b=G.O b:=fun l b h=>cR fun e=>R.apart l b L i h hl' e.symm
 have hownAt: ∀l b,aw G' w s'.fr tm (μ++[s'.lam]) l b→aw G w s.fr tm (μ++[s.lam]) l b:=by
  intro l b h
  cases l with
  |fr u=>
   simp only[aw,s']at h ⊢
   by_cases hu:u=t
   ·subst hu;rw[gg]at h;exact absurd h (hno b)
   ·rw[fp _ _ hu]at h;exact h
  |ob l j k=>
   simp only[aw]at h ⊢
   split at h<;>try(exact h.elim)
   rename_i cs hcs
   obtain⟨_,h2,_⟩:=hlive l j (by rw[hcs];trivial)
   rw[←h2,hcs]
   exact h
 refine⟨⟨R.lev,fun u=> ?_,fun j=> ?_,fun l j hlt=> ?_,fun l j l' j' h h' e'=>R.inj l j l' j' (hlive l j h).1 (hlive l' j' h').1 e',fun l l' b h h'=>R.own l l' b (hownAt l b h) (hownAt l' b h'),fun l b l' j h h' e'=>R.apart l b l' j (hownAt l b h) (hlive l' j h').1 e',R.nlt,?_,R.ngt⟩,?_⟩
 ·rw[hlen]
  by_cases hu:u=t
  ·subst hu
   simp only[s',gg]
   exact hx hle
  ·simp only[s',fp _ _ hu]
   exact df hle (Nat.le_refl _) (fun _ _=>⟨rfl,rfl⟩) _ _ (fun b hb=>⟨rfl,hOo (.fr u) b hb⟩) (R.fr u)
 ·rw[hlen,hset]
  split
  ·trivial
  ·rename_i hj
   refine cU hle (Nat.le_refl _) (fun _ _=>⟨rfl,rfl⟩) (fun h=>⟨rfl,hO L j (by rw[e0];exact h) (by simpa using hj)⟩) (fun cs k x cur e fz ho hx hb b' hb'=>⟨rfl,hOo (.ob L j k) b' ?_⟩) (R.lam j)
   simp only[aw,e0,ho,hx]
   exact⟨cur,e,fz,hb,hb'⟩
 ·have e2:aC (μ++[s.lam]) l j=bb μ l j:=bC (by rw[R.lev];exact hlt)
  refine cU (hle.below l) (Nat.le_refl _) (fun _ h=>by omega) (fun h=>⟨rfl,hO l j (by rw[e2];exact h) (by omega)⟩) (fun cs k x cur e fz ho hx hb b' hb'=>⟨rfl,hOo (.ob l j k) b' ?_⟩) (R.mu l j hlt)
  simp only[aw,e2,ho,hx]
  exact⟨cur,e,fz,hb,hb'⟩
 ·rw[hlen];exact R.nL
 ·refine⟨hle,rfl,rfl,rfl,Nat.le_refl _,fun b hb hn=>⟨rfl,cR fun e=>hn (.inr ⟨L,i,hl',e.symm⟩)⟩,fun b hb=> .inl ?_,fun _ _=>⟨fun _=>⟨rfl,rfl⟩,rfl⟩⟩
  rcases hb with⟨l,hb⟩|⟨l,j,h,rfl⟩
  ·exact .inl ⟨l,hownAt l b hb⟩
  ·exact .inr ⟨l,j,(hlive l j h).1,rfl⟩
theorem yz {t:Nat}{s s':S}{μ:Mu}{tm:Array Value}(h:wZ t s=some s')(R:Rel G L s μ tm w):
  ∃G',Rel G' L s' μ tm w∧Ext L (ax G w s μ tm) G w G' w (ax G' w s' μ tm):=by
 unfold wZ at h
 split at h
 rotate_left
 ·rename_i i hfr
  split at h<;>try(simp at h;done)
  rename_i ks vs hob'
  simp only[Option.some.injEq]at h
  subst h
  have hob:=R.lam i
  rw[hob']at hob
  simp only[ObR]at hob
  obtain⟨es,clk,hb,hO,hk,hr⟩:=hob
  have hv:=R.fr t
  rw[hfr]at hv
  simp only[LVR]at hv
  refine⟨_,R.freezeOb (n:=1) (by rw[hob'];trivial) (fun hle=> ?_) (fun b hb=>by simp[aD]at hb)⟩
  rw[hv.2]
  simp only[LVR,VR]
  exact⟨_,es,clk,rfl,hb,by rw[dU];omega,hk,fW hle vs _ hr⟩
 ·simp at h
 rename_i i off hfr
 split at h<;>try(simp at h;done)
 rename_i h0
 simp only[decide_eq_true_eq]at h0
 subst h0
 split at h<;>try(simp at h;done)
 rename_i cs hcs
 obtain⟨l,hl,h⟩:=ab.1 h
 simp only[Option.some.injEq]at h
 subst h
 have hob:=R.lam i
 rw[hcs]at hob
 simp only[ObR]at hob
 obtain⟨cur,e,fz,hb,hu,hO,hsz,hr⟩:=hob
 have hv:=R.fr t
 rw[hfr]at hv
 simp only[LVR]at hv
 obtain⟨e1,hg⟩:=rX hl
 refine⟨_,R.freezeOb (n:=cur.size) (by rw[hcs];trivial) (fun hle=> ?_) (fun b hb=>by simp[aD]at hb)⟩
 rw[hv.2]
 simp only[LVR,VR]
 refine⟨_,_,rfl,CL_of fun j c hc=> ?_⟩
 obtain⟨x,hx,hgc⟩:=hg j c hc
 have hj:j<cur.size:=by
  have:=(List.getElem?_eq_some_iff.1 hx).1
  omega
 refine⟨cur.getD j undef,?_,?_,bk hle c _ (eH hgc (hr j x hx))⟩
 ·rw[Nat.zero_add];exact cell_of_heap hb hj
 ·rw[dU];omega
theorem qj: ∀{ts:List Nat} {s s':S} {μ:Mu} {tm:Array Value} {G:Gh},ow ts s=some s'→Rel G L s μ tm w→
  ∃G',Rel G' L s' μ tm w∧Ext L (ax G w s μ tm) G w G' w (ax G' w s' μ tm)
 |[],s,s',μ,tm,G,h,R=>by
  simp only[ow,Option.some.injEq]at h
  subst h
  exact⟨G,R,Ext.refl G w fun _ h=>h⟩
 |t::r,s,s',μ,tm,G,h,R=>by
  simp only[ow]at h
  obtain⟨s1,h1,h2⟩:=ab.1 h
  obtain⟨G1,R1,E1⟩:=yz h1 R
  obtain⟨G2,R2,E2⟩:=qj h2 R1
  exact⟨G2,R2,E1.trans E2⟩
theorem vp {isA:Bool}{sz:Nat}: ∀(n:Nat) (cs:List CV),(jC isA sz n cs).length=n
 |0,cs=>rfl
 |n+1,cs=>by simp[jC,vp n]
theorem tC: ∀(n:Nat) {cs:List CV},gn cs=true→gn (cs.drop n)=true
 |0,cs,h=>h
 |n+1,[],h=>rfl
 |n+1,c::r,h=>by
  simp only[gn]at h
  split at h<;>try(simp at h;done)
  simpa using tC n h
theorem xG {isA:Bool}{sz b:Nat}: ∀(n off:Nat) (cs:List CV),(isA=true∨(sz=1∧gn cs=true))→n*sz≤cs.length→CL G w b off cs→
  (∀x∈jC isA sz n cs,x.cells.length=sz)∧EL G w b sz off (jC isA sz n cs)
 |0,off,cs,_,_,_=>by simp[jC,EL]
 |n+1,off,cs,hz,hl,h=>by
  have hl':n*sz+sz≤cs.length:=by rw[Nat.add_mul]at hl;omega
  obtain⟨h1,h2⟩:=xG n (off+sz) (cs.drop sz) (hz.imp id fun hz=>⟨hz.1,tC sz hz.2⟩) (by simp only[List.length_drop];omega) (nW sz h)
  cases isA with
  |true=>
   simp only[jC,List.mem_cons,forall_eq_or_imp,EL]
   refine⟨⟨?_,h1⟩,wD sz h,h2⟩
   simp only[CV.cells,List.length_take];omega
  |false=>
   obtain⟨hz1,hs⟩:sz=1∧gn cs=true:=by rcases hz with hz|hz<;>simp_all
   subst hz1
   cases cs with
   |nil=>simp at hl'
   |cons c r=>
    simp only[jC,List.headD_cons,List.mem_cons,forall_eq_or_imp]
    simp only[gn]at hs
    split at hs<;>try(simp at hs;done)
    rename_i hs1
    simp only[CL]at h
    cases c<;>simp only[oK,Bool.false_eq_true]at hs1<;>simp only[EL]<;>exact⟨⟨rfl,h1⟩,h.1,h2⟩
theorem vy {t:Nat}{e:TypeId}{s s':S}{μ:Mu}{tm:Array Value}(h:rl P t e s=some s')(R:Rel G L s μ tm w):
  ∃G',Rel G' L s' μ tm w∧Ext L (ax G w s μ tm) G w G' w (ax G' w s' μ tm):=by
 unfold rl at h
 split at h<;>try(simp at h;done)
 rename_i i off len hfr
 split at h<;>try(simp at h;done)
 rename_i h0
 simp only[decide_eq_true_eq]at h0
 subst h0
 split at h<;>try(simp at h;done)
 rename_i sz cs hcs
 obtain⟨n,hn,h⟩:=ab.1 h
 obtain⟨hsz,h⟩:=aJ.1 h
 obtain⟨hg,h⟩:=aJ.1 h
 simp only[Option.some.injEq]at h
 subst h
 have hsz:=Nat.eq_of_beq_eq_true hsz
 subst hsz
 simp only[Bool.and_eq_true,Bool.or_eq_true]at hg
 obtain⟨hg1,hg2⟩:=hg
 have hg2:=Nat.le_of_ble_eq_true hg2
 have hob:=R.lam i
 rw[hcs]at hob
 simp only[ObR]at hob
 obtain⟨hk,cur,e',fz,hb,hu,hO,hle,hr⟩:=hob
 have hv:=R.fr t
 rw[hfr]at hv
 simp only[LVR]at hv
 obtain⟨hi,cap,cur2,e2,fz2,hv1,hv2,hv3,hv4,hv5⟩:=hv
 refine⟨_,R.freezeOb (n:=cur.size) (by rw[hcs];trivial) (fun hle'=> ?_) (fun b hb=>by simp[aD]at hb)⟩
 rw[hv1]
 simp only[LVR,VR]
 have hcl:CL (G.setO (G.β L i) cur.size) w (G.β L i) 0 cs:=CL_of fun j c hc=>by
  have hj:j<cur.size:=by
   have:=(List.getElem?_eq_some_iff.1 hc).1
   omega
  exact⟨cur.getD j undef,by rw[Nat.zero_add];exact cell_of_heap hb hj,by rw[dU];omega,bk hle' c _ (hr j c hc)⟩
 obtain ⟨k1, k2⟩ := xG (isA := ef P e) (sz := sz) len 0 cs (by
  rcases hg1 with h|⟨h1,h2⟩
  ·exact .inl h
  ·exact .inr ⟨Nat.eq_of_beq_eq_true h1,h2⟩) hg2 hcl
 exact⟨_,len,cap,rfl,(vp len cs).symm,hv2,.inr ⟨G.β L i,0,sz,rfl,k1,k2⟩⟩
theorem mI: ∀{ts:List (Nat×TypeId)} {s s':S} {μ:Mu} {tm:Array Value} {G:Gh},jE P ts s=some s'→Rel G L s μ tm w→
  ∃G',Rel G' L s' μ tm w∧Ext L (ax G w s μ tm) G w G' w (ax G' w s' μ tm)
 |[],s,s',μ,tm,G,h,R=>by
  simp only[jE,Option.some.injEq]at h
  subst h
  exact⟨G,R,Ext.refl G w fun _ h=>h⟩
 |t::r,s,s',μ,tm,G,h,R=>by
  simp only[jE]at h
  obtain⟨s1,h1,h2⟩:=ab.1 h
  obtain⟨G1,R1,E1⟩:=vy h1 R
  obtain⟨G2,R2,E2⟩:=mI h2 R1
  exact⟨G2,R2,E1.trans E2⟩
end
end Go.Abs
set_option linter.unusedVariables false
set_option linter.unusedSimpArgs false
namespace Go.Abs
open Go
def KOK {α:Type}(L:Nat)(G:Gh)(w:World)(s:S)(μ:Mu)(a:Act)(dst:Option Tmp)(k:LV→S→Mu→Option α)(r:α)(K:Act→World→Prop):Prop:=
 ∀v s' μ' cv w' G',k v s' μ'=some r→Rel G' L (s'.put dst v) μ' (a.put dst cv).tmps w'→
  Ext L (ax G w s μ a.tmps) G w G' w' (ax G' w' (s'.put dst v) μ' (a.put dst cv).tmps)→K (a.put dst cv) w'
def POK {α:Type}(L:Nat)(G:Gh)(w:World)(s:S)(μ:Mu)(a:Act)(p:CV→S→Mu→Option α)(r:α)(Q:Exit→Act→World→Prop):Prop:=
 ∀v s' μ' pv w' G',p v s' μ'=some r→Rel G' L s' μ' a.tmps w'→VR G' w' v pv→
  Ext L (ax G w s μ a.tmps) G w G' w' (ax G' w' s' μ' a.tmps)→Q (.panic [{v:=pv,recovered:=false}]) a w'
section
variable {P:Program}{α:Type}{L:Nat}{G:Gh}{w:World}{s:S}{μ:Mu}{a:Act}{o:Oper}{k:LV→S→Mu→Option α}{p:CV→S→Mu→Option α}{r:α}{K:Act→World→Prop}{Q:Exit→Act→World→Prop}
theorem dw {cv:Value}{w':World}(h:(execOp a.eval o).run P w= .ok (.value cv) w')(hK:K (a.put o.dst cv) w'):o.wp P a w K Q:=by
 unfold Oper.wp;rw[h];exact hK
theorem ma {w':World}(h:(execOp a.eval o).run P w= .ok .skip w')(hK:K (a.put o.dst undef) w'):o.wp P a w K Q:=by
 unfold Oper.wp;rw[h];exact hK
theorem Dm {v:Value}{w':World}(h:(execOp a.eval o).run P w= .halt (.panic v) w')(hQ:Q (.panic [{v,recovered:=false}]) a w'):o.wp P a w K Q:=by
 unfold Oper.wp;rw[h];exact hQ
theorem dD (R:Rel G L s μ a.tmps w)(hd: ∀d,o.dst=some d→d<a.tmps.size)(hk:KOK L G w s μ a o.dst k r K){ts:List Nat}{v:LV}{cv:Value}
  (h:k v (ac ts s) μ=some r) (hrun:(execOp a.eval o).run P w= .ok (.value cv) w) (hv:LVR G w L s.lam.length v cv)
  (ho: ∀b,aD v cv b→ ∃t,t∈ts∧aD (s.fr t) (a.tmps.getD t undef) b):o.wp P a w K Q:=by
 obtain⟨h1,h2⟩:=KP (dst:=o.dst) R hv ho hd
 exact dw hrun (hk v _ μ cv w G h h1 h2)
theorem cw (R:Rel G L s μ a.tmps w)(hd: ∀d,o.dst=some d→d<a.tmps.size)(hk:KOK L G w s μ a o.dst k r K){ts:List Nat}{c:CV}
  (h:k (.cv c) (ac ts s) μ=some r) (hrun: ∃cv,(execOp a.eval o).run P w= .ok (.value cv) w∧VR G w c cv):o.wp P a w K Q:=by
 obtain⟨cv,h1,h2⟩:=hrun
 exact dD R hd hk h h1 (by simpa[LVR]using h2) (fun b hb=>by simp[aD]at hb)
theorem LL {x:LV}{v:Value}{n:Int}{t ty:TypeId}(h:F2 P t x=some n)(hv:LVR G w L s.lam.length x v):(Builtin.len_ #[t] ty #[v]).run P w= .ok (.int .i64 n) w:=by
 unfold F2 at h
 split at h
 ·rename_i hu
  obtain⟨l,h1,h2⟩:=ab.1 h
  simp only[Option.some.injEq]at h2
  rw[fi h1]at hv
  simp only[LVR,VR]at hv
  subst hv
  have e: ∀b:ByteArray,(Builtin.len_ #[t] ty #[.string b]).run P w= .ok (goInt (b.size:Nat)) w:=fun b=>by simp[Builtin.len_,run_underlying hu]
  rw[e,←h2]
  rfl
 ·rename_i e hu
  unfold NF at h
  have key: ∀A m c,v= .slice A m c→(m:Int)=n→(Builtin.len_ #[t] ty #[v]).run P w= .ok (.int .i64 n) w:=by
   intro A m c e em
   subst e
   simp[Builtin.len_,run_underlying hu,goInt,em]
  have key2: ∀xs,VR G w (.sl xs) v→(xs.length:Int)=n→(Builtin.len_ #[t] ty #[v]).run P w= .ok (.int .i64 n) w:=by
   intro xs hx e
   simp only[VR]at hx
   obtain⟨A,len,cap,e1,e2,_⟩:=hx
   exact key A len cap e1 (by rw[e2];exact e)
  split at h<;>simp only[Option.some.injEq,reduceCtorEq]at h
  ·simp only[LVR]at hv;exact key2 _ hv h
  ·simp only[LVR,VR]at hv;exact key none 0 0 hv h
  ·simp only[LVR]at hv;exact key2 _ (fV hv) h
  ·simp only[LVR]at hv
   obtain⟨_,cap,cur,e,fz,e1,_⟩:=hv
   exact key _ _ cap e1 h
  ·simp only[LVR,VR]at hv
   obtain⟨_,cap,cur,e,fz,e1,_⟩:=hv
   exact key _ _ cap e1 h
 ·simp at h
theorem vC {x:LV}{v:Value}(h:oz x=some false)(hv:LVR G w L s.lam.length x v)(x':Operand)(he:a.eval x'=v)(ho:o.op= .nilCheck x'):
  (execOp a.eval o).run P w= .ok (.value v) w:=by
 have: ∀u,(match u with| .pointer none| .nilIface| .nilFunc=>False| .func (.method _) _ _=>False|_=>True)→a.eval x'=u→(execOp a.eval o).run P w= .ok (.value u) w:=by
  intro u hu e
  simp only[execOp,ho,e]
  cases u with
  |pointer A=>cases A<;>first|exact hu.elim|rfl
  |func fn f c=>cases fn<;>first|exact hu.elim|rfl
  |nilIface=>exact hu.elim
  |nilFunc=>exact hu.elim
  |_=>rfl
 refine this v ?_ he
 unfold oz at h
 split at h<;>simp only[Option.some.injEq,reduceCtorEq,Bool.true_eq_false,Bool.false_eq_true]at h<;>simp only[LVR,VR]at hv
 ·obtain⟨_,_,rfl,_⟩:=hv;trivial
 ·obtain⟨_,rfl⟩:=hv;trivial
 ·obtain⟨_,rfl,_⟩:=hv;trivial
 ·obtain⟨_,rfl,_⟩:=hv;trivial
 ·obtain⟨_,rfl⟩:=hv;trivial
 ·obtain⟨_,rfl,_⟩:=hv;trivial
 ·obtain⟨_,rfl,_⟩:=hv;trivial
 ·obtain⟨_,rfl,_⟩:=hv;trivial
theorem HE {nl:Nat}{x:LV}{v:Value}(hv:LVR G w L nl x v):LVR G w L nl (oT x) v∧ ∀b,aD (oT x) v b→aD x v b:=by
 cases x with
 |tloc i t n=>
  simp only[LVR,oT]at hv ⊢
  exact⟨⟨hv.1,hv.2.1⟩,fun b hb=>by simp[aD]at hb⟩
 |cv c=>
  cases c with
  |tref lev i t n=>
   simp only[LVR,VR,oT,sQ]at hv ⊢
   exact⟨⟨hv.1,hv.2.1⟩,fun b hb=>by simp[aD]at hb⟩
  |_=>exact⟨hv,fun _ hb=>hb⟩
 |_=>exact⟨hv,fun _ hb=>hb⟩
end
end Go.Abs
set_option linter.unusedVariables false
set_option linter.unusedSimpArgs false
namespace Go.Abs
open Go
section
variable {P:Program}{ρ:Rho}{α:Type}{L:Nat}{G:Gh}{w:World}{s:S}{μ:Mu}{a:Act}{o:Oper}{h:OpHint}{k:LV→S→Mu→Option α}{p:CV→S→Mu→Option α}{r:α}{K:Act→World→Prop}{Q:Exit→Act→World→Prop}
theorem cK {x:Sem Value}{v:Value}{w':World}(h:x.run P w= .ok v w'):(do pure (Next.value (←x)):Sem Next).run P w= .ok (.value v) w':=by
 rw[Sem.run_bind,h];rfl
theorem cx (R:Rel G L s μ a.tmps w){x:Operand}{c:CV}(e:evA h s.fr x= .cv c):VR G w c (a.eval x):=by
 have:=(a8 R h x).1
 rw[e]at this
 simpa[LVR]using this
theorem gN (R:Rel G L s μ a.tmps w){x:Operand}{k:IntKind}{n:Int}(e:evA h s.fr x= .cv (.v (.int k n))):a.eval x= .int k n:=by
 have:=cx R e
 simpa[VR]using this
theorem j5 (R:Rel G L s μ a.tmps w){x:Option Operand}{d:Int}{β:Type}{k:Int→Option β}{r:β}(hb:db (evA h s.fr) x d k=some r):
  ∃n,j0 (x.map a.eval) d n∧k n=some r:=by
 rcases BU hb with⟨rfl,h1⟩|⟨o,kd,n,rfl,h1,h2⟩
 ·exact⟨d,.inl ⟨rfl,rfl⟩,h1⟩
 ·exact⟨n,.inr ⟨kd,by simp[gN R h1]⟩,h2⟩
theorem Iv {x:Operand}(ho:o.op= .move x∨o.op= .assign x)(R:Rel G L s μ a.tmps w)(hd: ∀d,o.dst=some d→d<a.tmps.size)(hk:KOK L G w s μ a o.dst k r K)
  (hop:k (evA h s.fr x) (ac h.take s) μ=some r):o.wp P a w K Q:=
 dD R hd hk hop (by rcases ho with ho|ho<;>simp[execOp,ho]) (a8 R h x).1 (a8 R h x).2
theorem Pv {c x y:Operand}(ho:o.op= .pick c x y)(R:Rel G L s μ a.tmps w)(hd: ∀d,o.dst=some d→d<a.tmps.size)(hk:KOK L G w s μ a o.dst k r K)
  (hop:opt (aQ (evA h s.fr c)) (fun t=>k (vY t (evA h s.fr x) (evA h s.fr y)) (ac h.take s) μ)=some r):o.wp P a w K Q:=by
 obtain⟨t,h1,h2⟩:=ab.1 hop
 have hc:=cx R (fh h1)
 simp only[VR]at hc
 obtain⟨hv,hw⟩:=Kk (t:=t) (a8 R h x).1 (a8 R h y).1
 refine dD R hd hk h2 (cv:=if t=true then a.eval x else a.eval y) (by simp[execOp,ho,hc,asBool]) hv fun b hb=> ?_
 rcases hw b hb with hb|hb
 ·exact(a8 R h x).2 b hb
 ·exact(a8 R h y).2 b hb
theorem N1 {t:TypeId}{parts:Array (Nat×Operand)}(ho:o.op= .build t parts)(R:Rel G L s μ a.tmps w)(hd: ∀d,o.dst=some d→d<a.tmps.size)(hk:KOK L G w s μ a o.dst k r K)
  (hop:opt (dq (evA h s.fr) parts.toList) (fun ps=>opt (zN P t ps) fun c=>k (.cv c) (ac h.take s) μ)=some r):o.wp P a w K Q:=by
 obtain⟨ps,h1,h2⟩:=ab.1 hop
 obtain⟨c,h3,h4⟩:=ab.1 h2
 refine cw R hd hk h4 ?_
 have hp:=nT R h h1
 unfold zN at h3
 obtain⟨z,hz,h3⟩:=ab.1 h3
 obtain⟨zv,i,_,_,hzr,hzl⟩:=iY (G:=G) (w:=w) hz
 have hparts:(parts.map fun q=>(q.1,a.eval q.2)).toList=parts.toList.map fun q=>(q.1,a.eval q.2):=by simp
 split at h3
 ·rename_i fs hu
  obtain⟨pl,hpl,h3⟩:=ab.1 h3
  obtain⟨cs,hf,h3⟩:=ab.1 h3
  simp only[Option.some.injEq]at h3
  subst h3
  obtain⟨b,hb,hr,_⟩:=pI hp hzl hf
  have hmap: ∀(l:List Field) (pl:List (Nat×Nat)),iN P l=some pl→(l.mapM fun f=>(do pure (f.offset,←sizeOf f.type):Sem (Nat×Nat))).run P w= .ok pl w:=by
   intro l
   induction l with
   |nil=>intro pl h;simp only[iN,Option.some.injEq]at h;subst h;simp
   |cons f l ih=>
    intro pl h
    simp only[iN]at h
    obtain⟨n,hn,h⟩:=ab.1 h
    obtain⟨q,hq,h⟩:=ab.1 h
    simp only[Option.some.injEq]at h
    subst h
    simp only[List.mapM_cons,Sem.run_bind,dE hn,Result.andThen_ok,Sem.run_pure,ih q hq]
  have hm:=hmap fs.toList pl hpl
  have hm2:(fs.mapM fun f=>(do pure (f.offset,←sizeOf f.type):Sem (Nat×Nat))).run P w= .ok pl.toArray w:=by
   rw[Array.mapM_eq_mapM_toList,Sem.run_map,hm]
   rfl
  refine⟨.agg b,?_,by simp only[VR];exact⟨b,rfl,hr⟩⟩
  simp only[execOp,ho]
  refine cK ?_
  have hpe:(fun(x:Nat)=>(pl.toArray)[x]?)=fun(i:Nat)=>pl[i]? :=by funext i;simp
  simp only[Instr.build,Sem.run_bind,hzr,Result.andThen_ok,run_underlying hu,hm2,hparts,hpe,hb,Sem.run_pure]
 ·rename_i n e hu
  obtain⟨sz,hsz,h3⟩:=ab.1 h3
  obtain⟨cs,hf,h3⟩:=ab.1 h3
  simp only[Option.some.injEq]at h3
  subst h3
  obtain⟨b,hb,hr,_⟩:=pI hp hzl hf
  refine⟨.agg b,?_,by simp only[VR];exact⟨b,rfl,hr⟩⟩
  simp only[execOp,ho]
  refine cK ?_
  simp only[Instr.build,Sem.run_bind,hzr,Result.andThen_ok,run_underlying hu,dE hsz,hparts,hb,Sem.run_pure]
 ·simp at h3
theorem Fy {x:Operand}(ho:o.op= .nilCheck x)(R:Rel G L s μ a.tmps w)(hd: ∀d,o.dst=some d→d<a.tmps.size)(hk:KOK L G w s μ a o.dst k r K)
  (hop:opt (oz (evA h s.fr x)) (fun b=>ay (!b) (k (oT (evA h s.fr x)) (ac h.take s) μ))=some r):o.wp P a w K Q:=by
 obtain⟨b,h1,h2⟩:=ab.1 hop
 obtain⟨h3,h4⟩:=aJ.1 h2
 have hb:b=false:=by simpa using h3
 subst hb
 obtain⟨h5,h6⟩:=HE (a8 R h x).1
 exact dD R hd hk h4 (vC h1 (a8 R h x).1 x rfl ho) h5 fun b hb=>(a8 R h x).2 b (h6 b hb)
theorem NZ {op:BinOp}{t ty:TypeId}{x y:Operand}(ho:o.op= .binOp op t x y ty)(R:Rel G L s μ a.tmps w)(hd: ∀d,o.dst=some d→d<a.tmps.size)(hk:KOK L G w s μ a o.dst k r K)
  (hop:(nM P op t x y (evA h s.fr x) (evA h s.fr y) fun c=>k (.cv c) (ac h.take s) μ)=some r):o.wp P a w K Q:=by
 obtain⟨c,h1,h2⟩:=In (fun _ e=>by subst e;rfl) (fun _ e=>by subst e;rfl) hop
 refine cw R hd hk h2 ?_
 obtain⟨cv,h3,h4⟩:=Lm h1 (a8 R h x).1 (a8 R h y).1 (fun cc e=>by subst e;rfl) (fun cc e=>by subst e;rfl)
 refine⟨cv,?_,by subst h4;simp[VR]⟩
 simp only[execOp,ho]
 exact cK h3
theorem Pw {op:UnOp}{t:TypeId}{x:Operand}(ho:o.op= .unOp op t x)(R:Rel G L s μ a.tmps w)(hd: ∀d,o.dst=some d→d<a.tmps.size)(hk:KOK L G w s μ a o.dst k r K)
  (hop:opt (unA op (evA h s.fr x)) (fun c=>k (.cv c) (ac h.take s) μ)=some r):o.wp P a w K Q:=by
 obtain⟨c,h1,h2⟩:=ab.1 hop
 refine cw R hd hk h2 ?_
 obtain⟨cv,h3,h4⟩:=Pc (P:=P) h1 (a8 R h x).1
 refine⟨cv,?_,by subst h4;simp[VR]⟩
 simp only[execOp,ho]
 exact cK h3
theorem vm {t:TypeId}{x:Operand}{d:TypeDesc}(ho:o.op= .makeInterface t x)(hu:P.underlying t=some d)(hni: ∀ms,d≠ .interface ms)(R:Rel G L s μ a.tmps w)(hd: ∀d,o.dst=some d→d<a.tmps.size)(hk:KOK L G w s μ a o.dst k r K)
  (hop:opt (d8 (evA h s.fr x)) (fun c=>k (.cv (.iface t c)) (ac h.take s) μ)=some r):o.wp P a w K Q:=by
 obtain⟨c,h1,h2⟩:=ab.1 hop
 refine cw R hd hk h2 ⟨.iface t (a.eval x),?_,by simp only[VR];exact⟨_,rfl,eH h1 (a8 R h x).1⟩⟩
 simp only[execOp,ho]
 refine cK ?_
 simp only[Instr.makeInterface,Sem.run_bind,run_underlying hu,Result.andThen_ok]
 cases d<;>first|exact absurd rfl (hni _)|rfl
theorem Fx {f:FuncId}{first captured:Array Operand}(ho:o.op= .makeFunc (.func f) first captured)(hf:first.toList=[])(R:Rel G L s μ a.tmps w)(hd: ∀d,o.dst=some d→d<a.tmps.size)(hk:KOK L G w s μ a o.dst k r K)
  (hop:k (.lclo f (captured.toList.map fun x=>strip1 (evA h s.fr x))) (ac h.take s) μ=some r):o.wp P a w K Q:=by
 have hf':first= #[]:=by cases first;simp_all
 subst hf'
 refine dD R hd hk hop (cv:= .func (.func f) #[] (captured.map a.eval)) ?_ ?_ (fun b hb=>by simp[aD]at hb)
 ·simp only[execOp,ho];exact cK (by simp[Instr.makeFunc])
 ·simp only[LVR]
  refine⟨_,rfl,?_⟩
  rw[Array.toList_map]
  generalize captured.toList=l
  induction l with
  |nil=>simp[bR]
  |cons x l ih=>
   simp only[List.map_cons,bR]
   exact⟨_,_,rfl,(ic (a8 R h x).1).2,(ic (a8 R h x).1).1,ih⟩
theorem It {x:Operand}{i:Nat}(ho:o.op= .extract x i)(R:Rel G L s μ a.tmps w)(hd: ∀d,o.dst=some d→d<a.tmps.size)(hk:KOK L G w s μ a o.dst k r K)
  (hop:opt (aX (evA h s.fr x)) (fun xs=>opt (xs[i]?) fun v=>k v (ac h.take s) μ)=some r):o.wp P a w K Q:=by
 obtain⟨xs,h1,h2⟩:=ab.1 hop
 obtain⟨v,h3,h4⟩:=ab.1 h2
 have hv:=(a8 R h x).1
 rw[xO h1]at hv
 simp only[LVR]at hv
 obtain⟨vs,e,hl⟩:=hv
 obtain⟨cv,h5,h6,h7⟩:=(oX hl).2 i v h3
 refine dD R hd hk h4 (cv:=cv) ?_ h6 (fun b hb=>absurd hb (mr h7))
 simp only[execOp,ho,e]
 refine cK ?_
 have h5':vs[i]? =some cv:=by simpa using h5
 simp[Instr.extract,h5']
theorem N4 {x:Operand}{t:TypeId}{c:CV}(ho:o.op= .panic x)(R:Rel G L s μ a.tmps w)(hp:POK L G w s μ a p r Q)(he:evA h s.fr x= .cv (.iface t c))
  (hop:p (.iface t c) (ac h.take s) μ=some r):o.wp P a w K Q:=by
 obtain⟨R',hh⟩:=Rel.strips h.take R
 have hl:=aT h.take s
 have hv:=cx R he
 have hv':=hv
 simp only[VR]at hv'
 obtain⟨u,e,_⟩:=hv'
 refine Dm (v:=a.eval x) (w':=w) ?_ (hp _ _ μ _ w G hop R' hv (Ext.refl G w fun b hb=> ?_))
 ·rw[e];simp only[execOp,ho,e];rfl
 ·rcases hb with⟨l,hb⟩|hb
  ·exact .inl ⟨l,(hh l b (by rw[←hl.1];exact hb)).2⟩
  ·exact .inr (by rw[←hl.1];exact hb)
end
end Go.Abs
