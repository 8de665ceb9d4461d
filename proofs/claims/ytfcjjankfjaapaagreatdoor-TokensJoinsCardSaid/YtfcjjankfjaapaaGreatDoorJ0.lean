/-
  The statement TokensJoinsCardSaid, proved; part 1 of 8 of its proof.
  An abstract interpreter for loaded Go code: values (slices and pointees by their content), a local heap for a function's own variables, an outer heap for what came in by pointer. Definitions only; what it says of the machine is proved in the texts behind it.
  What the abstract interpreter's values say of the machine's values and memory, and that it stays said while the machine goes on.
  How a relation between abstract and concrete state is carried over a step: what is set, what is stripped, what is new.
  Operands, and operations that only compute.
  Values read by their kind: what is read is what was there.
  Operations on numbers, bools, strings and structs by value.
  '==' and '!=' of structs, and of anything against nil.
  Reading what never changes: loads, fields, elements, parts of strings and slices.
  Values of several cells: zeros, structs and slices built out of parts.
  New blocks: what was known stays known, and the new block is known.
  New variables of the call's own.
  An object is turned: a store into a variable, or its right to append taken out.
  A variable that nobody writes any more is known by its content from there on.
  One operation: what the interpreter does, the machine does. Operations that turn no memory.
-/
import Derived.Orders
import Derived.LoopN
import Derived.Laws.Sem
import Derived.Laws.World
import Derived.Laws.AppendOwn
import Derived.WalkKit
set_option linter.all false
set_option linter.unusedSectionVars false
set_option linter.unusedVariables false
namespace Go.Abs
open Go
inductive CV where
 |undef
 |v (x:Value)
 |agg (cs:List CV)
 |sl (xs:List CV)
 |view (cs:List CV)
 |ref (lev i off:Nat)
 |msl (lev i off len:Nat)
 |clo (f:FuncId) (caps:List CV)
 |iface (t:TypeId) (x:CV)
 |mview (ks:List Value) (vs:List CV)
 |mref (lev i:Nat)
 |tref (lev i:Nat) (t:TypeId) (n:Nat)
 deriving Inhabited
inductive LV where
 |cv (c:CV)
 |osl (xs:List CV)
 |loc (i off:Nat)
 |lsl (i off len:Nat)
 |lclo (f:FuncId) (caps:List LV)
 |ltup (xs:List LV)
 |mloc (i:Nat)
 |tloc (i:Nat) (t:TypeId) (n:Nat)
 |ost (xs:List Value)
 |stl (n:Nat)
 deriving Inhabited
inductive Ob where
 |cells (cs:List LV)
 |arr (sz:Nat) (cs:List CV)
 |dead
 |map (ks:List Value) (vs:List CV)
 deriving Inhabited
abbrev Lam:=List Ob
abbrev Mu:=List Lam
inductive Out where
 |ret (v:LV) (μ:Mu)
 |panic (v:CV) (μ:Mu)
abbrev Fr:=Nat→LV
structure S where
 fr:Fr
 lam:Lam
 pushed:Bool
inductive St where
 |norm (s:S) (μ:Mu)
 |exit (id:Nat) (s:S) (μ:Mu)
 |ret (s:S) (μ:Mu)
 |panic (v:CV) (s:S) (μ:Mu)
structure OpHint where
 take:List Nat:=[]
 freeze:List Nat:=[]
 fza:List (Nat×TypeId):=[]
 cell:Bool:=false
 arr:Bool:=false
 outer:Bool:=false
 push:Bool:=false
 own:Bool:=false
structure Hints where
 ops:List ((Nat×Nat)×OpHint):=[]
 live:List (Nat×List (Nat×Nat)×List (Nat×Nat)):=[]
 cuts:List (Nat×List (Nat×Nat)×List (Nat×Nat)):=[]
 objs:List (Nat×List (Nat×List Nat)):=[]
 res:List (Nat×Nat):=[]
 pan:List (Nat×Nat):=[]
 dfr:Option Nat:=none
 deriving Inhabited
@[reducible] def CV.int (k:IntKind) (n:Int):CV:= .v (.int k n)
@[reducible] def CV.bool (b:Bool):CV:= .v (.bool b)
@[reducible] def CV.str (l:List UInt8):CV:= .v (.string ⟨⟨l⟩⟩)
@[reducible] def LV.int (k:IntKind) (n:Int):LV:= .cv (.v (.int k n))
@[reducible] def LV.bool (b:Bool):LV:= .cv (.v (.bool b))
@[reducible] def LV.str (l:List UInt8):LV:= .cv (.v (.string ⟨⟨l⟩⟩))
def opt {α β:Type}(x:Option α)(k:α→Option β):Option β:=match x with|some a=>k a|none=>none
def aB {β:Type}(b:Bool)(k:Option β):Option β:=cond b k none
def bd (n:Nat):Bool:=decide (n≤1099511627776)
def upd (g:Fr)(t:Nat)(v:LV):Fr:=fun u=>match Nat.beq u t with|true=>v|false=>g u
def dP:List (Nat×LV)→Fr
 |[],_=> .cv .undef
 |(s,v)::r,t=>match Nat.beq s t with|true=>v|false=>dP r t
def kK:List Nat→Nat→Bool
 |[],_=>false
 |a::r,t=>match Nat.beq a t with|true=>true|false=>kK r t
def strip1:LV→LV
 | .cv c=> .cv c
 | .osl xs=> .cv (.sl xs)
 | .loc i off=> .loc i off
 | .lsl i off len=> .lsl i off len
 | .lclo f caps=> .lclo f caps
 | .mloc i=> .mloc i
 | .tloc i t n=> .tloc i t n
 | .ost xs=> .stl xs.length
 | .stl n=> .stl n
 | .ltup _=> .cv .undef
def strip:LV→LV
 | .cv c=> .cv c
 | .osl xs=> .cv (.sl xs)
 | .loc i off=> .loc i off
 | .lsl i off len=> .lsl i off len
 | .lclo f caps=> .lclo f caps
 | .mloc i=> .mloc i
 | .tloc i t n=> .tloc i t n
 | .ost xs=> .stl xs.length
 | .stl n=> .stl n
 | .ltup xs=> .ltup (xs.map strip1)
@[simp] def nM:LV→Bool
 | .osl _=>true
 | .ost _=>true
 |_=>false
def S.set (s:S)(t:Nat)(v:LV):S:={s with fr:=upd s.fr t v}
def S.put (s:S)(dst:Option Nat)(v:LV):S:=match dst with|some t=>s.set t v|none=>s
def ad:List Nat→S→S
 |[],s=>s
 |t::r,s=>ad r (s.set t (strip (s.fr t)))
def gp:Value→LV
 | .agg cs=> .cv (.agg (cs.toList.map .v))
 | .tuple cs=> .ltup (cs.toList.map fun c=> .cv (.v c))
 |x=> .cv (.v x)
def evA (h:OpHint)(fr:Fr):Operand→LV
 | .tmp t=>match kK h.take t with|true=>fr t|false=>strip (fr t)
 | .const c=>gp c
 | .global _=> .cv .undef
 | .func f=> .cv (.clo f [])
def CV.cells:CV→List CV
 | .agg cs=>cs
 |c=>[c]
def o5:CV→Bool
 | .undef=>false
 | .agg _=>false
 | .v x=>x.oneCell'
 |_=>true
def gA:List CV→Bool
 |[]=>true
 |c::r=>match o5 c with|true=>gA r|false=>false
def gQ:CV→Bool
 | .agg cs=>gA cs
 |c=>o5 c
def LV.cells:LV→Option (List LV)
 | .cv c=>match gQ c with|true=>some (c.cells.map .cv)|false=>none
 | .ltup _=>none
 |x=>some [x]
def aF (k:IntKind):LV→Option Int
 | .cv (.v (.int k' n))=>match decide (k=k')with|true=>some n|false=>none
 |_=>none
def aM:LV→Option Bool
 | .cv (.v (.bool b))=>some b
 |_=>none
def aL:LV→Option (List UInt8)
 | .cv (.v (.string s))=>some s.data.toList
 |_=>none
def bL:LV→Option (List CV)
 | .cv (.sl xs)=>some xs
 | .cv (.v (.slice none 0 0))=>some []
 | .osl xs=>some xs
 |_=>none
def eX:LV→Option (List CV)
 | .osl xs=>some xs
 | .cv (.v (.slice none 0 0))=>some []
 |_=>none
def wL:LV→Option (List Value)
 | .ost xs=>some xs
 | .cv (.v (.slice none 0 0))=>some []
 |_=>none
def sV:List CV→Option (List Value)
 |[]=>some []
 | .v x::r=>match x.oneCell' with|true=>opt (sV r) fun l=>some (x::l)|false=>none
 |_::_=>none
def dm:LV→Option CV
 | .cv c=>some c
 | .osl xs=>some (.sl xs)
 |_=>none
def lH:LV→Option (List CV)
 | .cv (.agg cs)=>some cs
 |_=>none
def aS:LV→Option (List LV)
 | .ltup xs=>some xs
 |_=>none
def aA {α:Type}:List α→Option (α×List α)
 |a::r=>some (a,r)
 |[]=>none
def aO {α:Type}:List α→Option Unit
 |[]=>some ()
 |_::_=>none
def jb {β:Type}(d:TypeDesc)(c:LV)(k:CV→Option β):Option β:=
 match d with
 | .int ik=>opt (aF ik c) fun n=>k (.v (.int ik n))
 | .bool=>opt (aM c) fun b=>k (.v (.bool b))
 | .string=>opt (aL c) fun l=>k (.v (.string ⟨⟨l⟩⟩))
 | .slice _=>opt (bL c) fun xs=>k (.sl xs)
 |_=>opt (dm c) k
def fl {β:Type}:List TypeDesc→List CV→(List CV→Option β)→Option β
 |[],cs,k=>opt (aO cs) fun _=>k []
 |d::ds,cs,k=>opt (aA cs) fun q=>jb d (.cv q.1) fun c=>fl ds q.2 fun r=>k (c::r)
def z8 (P:Program):(depth:Nat)→TypeId→List TypeDesc
 |0,_=>[]
 |d+1,t=>match P.underlying t with
  |some (.struct fs)=>fs.toList.flatMap fun f=>z8 P d f.type
  |some (.array n e)=>(List.replicate n ()).flatMap fun _=>z8 P d e
  |some x=>[x]
  |none=>[]
def eo (P:Program)(t:TypeId):Bool:=
 match P.underlying t with
 |some (.struct _)=>true
 |some (.array _ _)=>true
 |_=>false
def io {β:Type}(P:Program)(t:TypeId)(v:LV)(k:CV→Option β):Option β:=
 match eo P t with
 |true=>opt (lH v) fun cs=>fl (z8 P 8 t) cs fun cs=>k (.agg cs)
 |false=>match P.underlying t with
  |some d=>jb d v k
  |none=>none
def f7 {β:Type}(P:Program)(t:TypeId)(c:CV)(k:CV→Option β):Option β:=io P t (.cv c) k
def i7 {β:Type}(P:Program)(own:Bool)(t:TypeId)(v:LV)(k:LV→Option β):Option β:=
 match own with
 |true=>opt (eX v) fun xs=>k (.osl xs)
 |false=>io P t v fun c=>k (.cv c)
def ef {β:Type}(P:Program):List TypeId→List LV→(List LV→Option β)→Option β
 |[],vs,k=>opt (aO vs) fun _=>k []
 |t::ts,vs,k=>opt (aA vs) fun q=>i7 P false t q.1 fun x=>ef P ts q.2 fun r=>k (x::r)
def dy {β:Type}(P:Program)(own:Bool)(t:TypeId)(v:LV)(k:LV→Option β):Option β:=
 match P.underlying t with
 |some (.tuple ts)=>opt (aS v) fun xs=>ef P ts.toList xs fun xs=>k (.ltup xs)
 |_=>i7 P own t v k
def m7 (op:BinOp)(k:IntKind)(a:Int)(k':IntKind)(b:Int):Option CV:=
 match op with
 | .shl| .shr=>match decide (b<0)with
  |true=>none
  |false=>match op with
   | .shl=>some (.int k (k.wrap (a*2^(min b.toNat k.bits))))
   |_=>some (.int k (a.fdiv (2^(min b.toNat k.bits))))
 |_=>match decide (k=k')with
  |false=>none
  |true=>match op with
   | .add=>some (.int k (k.wrap (a+b)))
   | .sub=>some (.int k (k.wrap (a-b)))
   | .mul=>some (.int k (k.wrap (a*b)))
   | .quo=>match decide (b=0)with|true=>none|false=>some (.int k (k.wrap (a.tdiv b)))
   | .rem=>match decide (b=0)with|true=>none|false=>some (.int k (a.tmod b))
   | .and=>some (.int k (k.wrap (BitVec.ofInt k.bits a &&& BitVec.ofInt k.bits b).toNat))
   | .or=>some (.int k (k.wrap (BitVec.ofInt k.bits a ||| BitVec.ofInt k.bits b).toNat))
   | .xor=>some (.int k (k.wrap (BitVec.ofInt k.bits a ^^^ BitVec.ofInt k.bits b).toNat))
   | .andNot=>some (.int k (k.wrap (BitVec.ofInt k.bits a &&& ~~~BitVec.ofInt k.bits b).toNat))
   | .eql=>some (.bool (decide (a=b)))
   | .neq=>some (.bool (!decide (a=b)))
   | .lss=>some (.bool (decide (a<b)))
   | .leq=>some (.bool (decide (a≤b)))
   | .gtr=>some (.bool (decide (b<a)))
   | .geq=>some (.bool (decide (b≤a)))
   |_=>none
def CD (op:BinOp)(a b:List UInt8):Option CV:=
 match op with
 | .add=>match bd (a.length+b.length)with|true=>some (.str (a++b))|false=>none
 | .eql=>some (.bool (decide (a=b)))
 | .neq=>some (.bool (!decide (a=b)))
 | .lss=>some (.bool (Op.bytesLess a b))
 | .leq=>some (.bool (Op.bytesLess a b||decide (a=b)))
 | .gtr=>some (.bool (!(Op.bytesLess a b||decide (a=b))))
 | .geq=>some (.bool (!Op.bytesLess a b))
 |_=>none
def A7:CV→CV→Option Bool
 | .v (.int k a),.v (.int k' b)=>match decide (k=k')with|true=>some (decide (a=b))|false=>none
 | .v (.bool a),.v (.bool b)=>some (a == b)
 | .v (.string a),.v (.string b)=>some (decide (a.data.toList=b.data.toList))
 |_,_=>none
def oJ:List CV→List CV→Option Bool
 |[],[]=>some true
 |a::as,b::bs=>opt (A7 a b) fun x=>opt (oJ as bs) fun y=>some (x&&y)
 |_,_=>none
def uu (P:Program)(t:TypeId):Option (List TypeDesc):=
 match P.underlying t with
 |some (.struct fs)=>
  match (fs.toList.zipIdx.all fun q => q.1.offset == q.2 && q.1.name != "_" &&
    (match P.underlying q.1.type with|some (.int _)=>true|some .bool=>true|some .string=>true|_=>false))&& !P.stoodInHeld t&& !P.eqGuardType P.depth t with
  |true=>some (fs.toList.map fun f=>(P.underlying f.type).getD .invalid)
  |false=>none
 |_=>none
def wU:TypeDesc→CV→Bool
 | .int k,.v (.int k' _)=>decide (k=k')
 | .bool,.v (.bool _)=>true
 | .string,.v (.string _)=>true
 |_,_=>false
def iA:List TypeDesc→List CV→Bool
 |[],[]=>true
 |d::ds,c::cs=>wU d c&&iA ds cs
 |_,_=>false
def jZ:LV→Option Bool
 | .cv (.v (.pointer none))=>some true
 | .cv (.view _)=>some false
 | .cv (.ref _ _ _)=>some false
 | .cv (.clo _ _)=>some false
 | .cv (.iface _ _)=>some false
 | .loc _ _=>some false
 | .lclo _ _=>some false
 | .tloc _ _ _=>some false
 | .cv (.tref _ _ _ _)=>some false
 |_=>none
def kY:CV→CV
 | .tref lev i _ _=> .ref lev i 0
 |c=>c
def pg:LV→LV
 | .tloc i _ _=> .loc i 0
 | .cv c=> .cv (kY c)
 |x=>x
def rQ (typed:Bool)(i:Nat)(t:TypeId)(n:Nat):LV:=match typed with|true=> .tloc i t n|false=> .loc i 0
def Ma:LV→Option Bool
 | .cv (.v (.pointer none))=>some true
 | .cv (.view _)=>some false
 | .cv (.ref _ _ _)=>some false
 | .loc _ _=>some false
 |_=>none
def Ai:LV→Option Bool
 | .cv (.v .nilIface)=>some true
 | .cv (.iface _ _)=>some false
 |_=>none
def PU:LV→Option Bool
 | .cv (.v (.slice none 0 0))=>some true
 | .cv (.sl (_::_))=>some false
 | .osl (_::_)=>some false
 |_=>none
def sA (d:TypeDesc)(c:Value)(a:LV):Option Bool:=
 match d,c with
 | .pointer _,.pointer none=>Ma a
 | .interface _,.nilIface=>Ai a
 | .slice _,.slice none 0 0=>PU a
 |_,_=>none
def jv:Operand→Option Value
 | .const c=>some c
 |_=>none
def p7 (P:Program)(op:BinOp)(t:TypeId)(x y:Operand)(a b:LV):Option CV:=
 match a,b with
 | .cv (.v (.int k m)),.cv (.v (.int k' n))=>m7 op k m k' n
 | .cv (.v (.string m)),.cv (.v (.string n))=>CD op m.data.toList n.data.toList
 | .cv (.v (.bool m)),.cv (.v (.bool n))=>match op,P.underlying t with
  | .eql,some .bool=>some (.bool (m == n))
  | .neq,some .bool=>some (.bool (!(m == n)))
  |_,_=>none
 | .cv (.agg m),.cv (.agg n)=>
  opt (uu P t) fun ds => aB (iA ds m) (aB (iA ds n) (opt (oJ m n) fun r => match op with
  | .eql=>some (.bool r)
  | .neq=>some (.bool (!r))
  |_=>none))
 |a,b=>opt (P.underlying t) fun d=>
  let go (r:Bool):Option CV:=match op with
   | .eql=>some (.bool r)
   | .neq=>some (.bool (!r))
   |_=>none
  match jv y with
  |some c=>opt (sA d c a) go
  |none=>opt (jv x) fun c=>opt (sA d c b) go
def vG (op:BinOp)(k:IntKind)(a:Int)(k':IntKind)(b:Int):Option CV:=
 match op with
 | .shl=>some (.int k (k.wrap (a*2^(min b.toNat k.bits))))
 | .shr=>some (.int k (a.fdiv (2^(min b.toNat k.bits))))
 |_=>match decide (k=k')with
  |false=>none
  |true=>match op with
   | .quo=>some (.int k (k.wrap (a.tdiv b)))
   | .rem=>some (.int k (a.tmod b))
   |_=>m7 op k a k' b
def yt:Operand→Option Value
 | .const .nilIface=>some .nilIface
 | .const (.pointer none)=>some (.pointer none)
 | .const (.slice none 0 0)=>some (.slice none 0 0)
 |_=>none
def Hg (op:BinOp)(r:Bool):Option CV:=
 match op with
 | .eql=>some (.bool r)
 | .neq=>some (.bool (!r))
 |_=>none
def la (op:BinOp)(a b:LV):Bool:=
 match a,b with
 | .cv (.v (.int _ _)),.cv (.v (.int _ n))=>match op with
  | .quo=> !decide (n=0)
  | .rem=> !decide (n=0)
  | .shl=> !decide (n<0)
  | .shr=> !decide (n<0)
  |_=>true
 | .cv (.v (.string m)),.cv (.v (.string n))=>match op with
  | .add=>bd (m.data.toList.length+n.data.toList.length)
  |_=>true
 |_,_=>true
def wy (P:Program)(op:BinOp)(t:TypeId)(x y:Operand)(a b:LV):Option CV:=
 match a,b with
 | .cv (.v (.int k m)),.cv (.v (.int k' n))=>vG op k m k' n
 | .cv (.v (.string m)),.cv (.v (.string n))=>match op with
  | .add=>some (.str (m.data.toList++n.data.toList))
  |_=>CD op m.data.toList n.data.toList
 |a,b=>p7 P op t x y a b
def Ge (x y:Operand)(a b:LV):Option (Value×LV):=
 match yt y with
 |some c=>some (c,a)
 |none=>match jv y with
  |some _=>none
  |none=>match yt x with
   |some c=>some (c,b)
   |none=>none
def nZ {β:Type}(P:Program)(op:BinOp)(t:TypeId)(x y:Operand)(a b:LV)(f:CV→Option β):Option β:=
 match Ge x y a b with
 |some q=>opt (P.underlying t) fun d=>opt (sA d q.1 q.2) fun r=>opt (Hg op r) f
 |none=>aB (la op a b) (opt (wy P op t x y a b) f)
theorem Lu {op:BinOp}{k k':IntKind}{a b:Int}{c:CV}(hg:la op (.cv (.v (.int k a))) (.cv (.v (.int k' b)))=true)(h:vG op k a k' b=some c):m7 op k a k' b=some c:=by
 cases op
 case shl=>simp only[la,Bool.not_eq_true']at hg;simp only[vG]at h;simp only[m7,hg];exact h
 case shr=>simp only[la,Bool.not_eq_true']at hg;simp only[vG]at h;simp only[m7,hg];exact h
 case quo=>
  simp only[la,Bool.not_eq_true']at hg
  simp only[vG]at h
  simp only[m7,hg]
  exact h
 case rem=>
  simp only[la,Bool.not_eq_true']at hg
  simp only[vG]at h
  simp only[m7,hg]
  exact h
 all_goals
  simp only[vG]at h
  split at h
  ·cases h
  ·exact h
theorem GX {P:Program}{op:BinOp}{t:TypeId}{x y:Operand}{a b:LV}{c:CV}(hg:la op a b=true)(h:wy P op t x y a b=some c):p7 P op t x y a b=some c:=by
 unfold wy at h
 split at h
 ·exact Lu hg h
 ·split at h
  ·simp only[la]at hg
   simp only[p7,CD,hg]
   exact h
  ·exact h
 ·exact h
theorem xc {x:Operand}{c:Value}(h:yt x=some c):x= .const c∧(c= .nilIface∨c= .pointer none∨c= .slice none 0 0):=by
 unfold yt at h
 split at h<;>first|(cases h;done)|(simp only[Option.some.injEq]at h;subst h;exact⟨rfl,by simp⟩)
theorem Ka {β:Type}{P:Program}{op:BinOp}{t:TypeId}{x y:Operand}{a b:LV}{f:CV→Option β}{r:β}(hx: ∀v,x= .const v→a=gp v)(hy: ∀v,y= .const v→b=gp v)(h:nZ P op t x y a b f=some r):
  ∃c,p7 P op t x y a b=some c∧f c=some r:=by
 have key: ∀{n:Value} {l:LV},(opt (P.underlying t) fun d=>opt (sA d n l) fun r=>opt (Hg op r) f)=some r→ ∃c,(opt (P.underlying t) fun d=>opt (sA d n l) (Hg op))=some c∧f c=some r:=by
  intro n l h
  cases hu:P.underlying t with
  |none=>rw[hu]at h;cases h
  |some d=>
   rw[hu]at h
   simp only[opt]at h ⊢
   cases hn:sA d n l with
   |none=>rw[hn]at h;cases h
   |some b=>
    rw[hn]at h
    simp only at h ⊢
    cases he:Hg op b with
    |none=>rw[he]at h;cases h
    |some c=>rw[he]at h;exact⟨c,rfl,h⟩
 unfold nZ Ge at h
 cases hny:yt y with
 |some n=>
  rw[hny]at h
  obtain⟨rfl,hc⟩:=xc hny
  have hb:=hy n rfl
  subst hb
  obtain⟨c,h1,h2⟩:=key h
  refine⟨c,?_,h2⟩
  unfold p7
  split
  ·rename_i e;rcases hc with rfl|rfl|rfl<;>simp[gp]at e
  ·rename_i e;rcases hc with rfl|rfl|rfl<;>simp[gp]at e
  ·rename_i e;rcases hc with rfl|rfl|rfl<;>simp[gp]at e
  ·rename_i e;rcases hc with rfl|rfl|rfl<;>simp[gp]at e
  ·simp only[jv]
   exact h1
 |none=>
  rw[hny]at h
  have plain:aB (la op a b) (opt (wy P op t x y a b) f)=some r→ ∃c,p7 P op t x y a b=some c∧f c=some r:=by
   intro h
   unfold aB at h
   cases hg:la op a b with
   |false=>rw[hg]at h;cases h
   |true=>
    rw[hg]at h
    simp only[cond_true]at h
    cases hb:wy P op t x y a b with
    |none=>rw[hb]at h;cases h
    |some c=>rw[hb]at h;exact⟨c,GX hg hb,h⟩
  cases hcy:jv y with
  |some cy=>rw[hcy]at h;exact plain h
  |none=>
   rw[hcy]at h
   cases hnx:yt x with
   |none=>rw[hnx]at h;exact plain h
   |some n=>
    rw[hnx]at h
    obtain⟨rfl,hc⟩:=xc hnx
    have ha:=hx n rfl
    subst ha
    obtain⟨c,h1,h2⟩:=key h
    refine⟨c,?_,h2⟩
    unfold p7
    split
    ·rename_i e;rcases hc with rfl|rfl|rfl<;>simp[gp]at e
    ·rename_i e;rcases hc with rfl|rfl|rfl<;>simp[gp]at e
    ·rename_i e;rcases hc with rfl|rfl|rfl<;>simp[gp]at e
    ·rename_i e;rcases hc with rfl|rfl|rfl<;>simp[gp]at e
    ·rw[hcy]
     simp only[jv,opt]
     exact h1
def unA (op:UnOp):LV→Option CV
 | .cv (.v (.bool b))=>match op with| .not=>some (.bool (!b))|_=>none
 | .cv (.v (.int k n))=>match op with
  | .neg=>some (.int k (k.wrap (0-n)))
  | .xor=>some (.int k (k.wrap (BitVec.ofInt k.bits (if k.signed then -1 else k.max) ^^^ BitVec.ofInt k.bits n).toNat))
  |_=>none
 |_=>none
def xj (t:Bool)(a b:LV):LV:=
 match a,b with
 | .cv (.v (.bool x)),.cv (.v (.bool y))=> .cv (.v (.bool (cond t x y)))
 |a,b=>match t with|true=>a|false=>b
def bn (l:List UInt8)(i:Int):Option UInt8:=match decide (0≤i)with|true=>l[i.toNat]? |false=>none
def bY (xs:List CV)(i:Int):Option CV:=match decide (0≤i)with|true=>xs[i.toNat]? |false=>none
def dk {α:Type}(xs:List α)(lo hi:Int):Option (List α):=
 match decide (0≤lo)&&decide (lo≤hi)&&decide (hi≤(xs.length:Int))with
 |true=>some ((xs.drop lo.toNat).take (hi-lo).toNat)
 |false=>none
def bk:List CV→Option (List UInt8)
 |[]=>some []
 | .v (.int .u8 n)::r=>match decide (0≤n)&&decide (n<256)with
  |true=>opt (bk r) fun l=>some (UInt8.ofNat n.toNat::l)
  |false=>none
 |_::_=>none
def noB:CV→Bool
 | .v (.int .u8 _)=>false
 |_=>true
def iU:List CV→Bool
 |[]=>true
 |y::_=>noB y
def PT:LV→Option Int
 | .cv (.sl xs)=>some (xs.length:Int)
 | .cv (.v (.slice none 0 0))=>some 0
 | .osl xs=>some (xs.length:Int)
 | .lsl _ _ len=>some (len:Int)
 | .cv (.msl _ _ _ len)=>some (len:Int)
 | .stl n=>some (n:Int)
 |_=>none
def Hy (P:Program)(t:TypeId)(x:LV):Option Int:=
 match P.underlying t with
 |some .string=>opt (aL x) fun l=>some (l.length:Int)
 |some (.slice _)=>PT x
 |_=>none
def zeroCells (P:Program)(t:TypeId):Option (List CV):=
 match P.info? t with
 |some i=>match i.zero with
  |some z=>match z with
   | .agg cs=>some (cs.toList.map .v)
   |x=>some [.v x]
  |none=>none
 |none=>none
def cO (P:Program)(t:TypeId):Option Nat:=match P.info? t with|some i=>some i.size|none=>none
def mC (P:Program)(t:TypeId):Bool:=match P.info? t with|some i=>Nat.ble i.bytes 128&&Nat.ble 1 i.size|none=>false
def cU {α:Type}:List α→Nat→List α→List α
 |cs,_,[]=>cs
 |cs,off,v::r=>cU (cs.set off v) (off+1) r
def mh (place:Nat→Option (Nat×Nat)):List CV→List (Nat×CV)→Option (List CV)
 |cs,[]=>some cs
 |cs,(i,c)::r=>
  match place i with
  |none=>none
  |some q=>match Nat.beq c.cells.length q.2&&Nat.ble (q.1+q.2) cs.length with
   |true=>mh place (cU cs q.1 c.cells) r
   |false=>none
def iT (P:Program):List Field→Option (List (Nat×Nat))
 |[]=>some []
 |f::r=>opt (cO P f.type) fun n=>opt (iT P r) fun l=>some ((f.offset,n)::l)
def dv (ev:Operand→LV):List (Nat×Operand)→Option (List (Nat×CV))
 |[]=>some []
 |q::r=>opt (dm (ev q.2)) fun c=>aB (gQ c) (opt (dv ev r) fun l=>some ((q.1,c)::l))
def A1 (P:Program)(t:TypeId)(parts:List (Nat×CV)):Option CV:=
 opt (zeroCells P t) fun z=>
 match P.underlying t with
 |some (.struct fs)=>opt (iT P fs.toList) fun pl=>opt (mh (fun i=>pl[i]?) z parts) fun cs=>some (.agg cs)
 |some (.array _ e)=>opt (cO P e) fun n=>opt (mh (fun i=>some (i*n,n)) z parts) fun cs=>some (.agg cs)
 |_=>none
def vJ (sz:Nat):Nat→List (Nat×CV)→Option (List CV)
 |_,[]=>some []
 |n,(i,c)::r=>match Nat.beq i n&&Nat.beq c.cells.length sz with
  |true=>opt (vJ sz (n+1) r) fun l=>some (c::l)
  |false=>none
def kG (P:Program)(s:TypeId)(f:Nat):Option (Nat×TypeId):=
 match P.underlying s with
 |some (.struct fs)=>match fs[f]? with
  |some f=>match cO P f.type with
   |some (_+1)=>some (f.offset,f.type)
   |_=>none
  |none=>none
 |_=>none
def gt (P:Program)(t:TypeId)(cs:List CV)(off:Nat):Option CV:=
 match eo P t with
 |true=>opt (cO P t) fun n=>match Nat.ble (off+n) cs.length with
  |true=>some (.agg ((cs.drop off).take n))
  |false=>none
 |false=>cs[off]?
def o6 (P:Program)(t:TypeId)(cs:List CV)(off:Nat):Option CV:=opt (P.underlying t) fun _=>gt P t cs off
def fq (sz:Nat)(c:CV):Bool:=Nat.beq c.cells.length sz&&gQ c
def fK (sz:Nat):List CV→Bool
 |[]=>true
 |c::r=>match fq sz c with|true=>fK sz r|false=>false
def qH:List LV→Option (List CV)
 |[]=>some []
 |x::r=>opt (dm x) fun c=>opt (qH r) fun l=>some (c::l)
def a8 (μ:Mu)(lev i:Nat):Ob:=
 match μ[lev]? with
 |some l=>match l[i]? with|some o=>o|none=> .dead
 |none=> .dead
def aH (l:Lam)(i:Nat):Ob:=match l[i]? with|some o=>o|none=> .dead
def bD (μ:Mu)(lev i:Nat)(o:Ob):Mu:=
 match μ[lev]? with
 |some l=>μ.set lev (l.set i o)
 |none=>μ
def oZ (P:Program)(t:TypeId)(o:Ob)(off:Nat):Option LV:=
 match o with
 | .cells cs=>match eo P t with
  |true=>opt (cO P t) fun n=>match Nat.ble (off+n) cs.length with
   |true=>opt (qH ((cs.drop off).take n)) fun l=>some (.cv (.agg l))
   |false=>none
  |false=>match cs[off]? with
   |some x=>some (strip x)
   |none=>none
 | .arr _ cs=>opt (gt P t cs off) fun c=>some (.cv c)
 | .dead=>none
 | .map _ _=>none
def bB (P:Program)(t:TypeId)(o:Ob)(off:Nat):Option LV:=opt (P.underlying t) fun _=>oZ P t o off
def ie (P:Program)(t:TypeId)(o:Ob)(off:Nat):Option (LV×Ob):=opt (P.underlying t) fun _=>
 match eo P t with
 |true=>none
 |false=>match o with
  | .cells cs=>match cs[off]? with
   |some x=>some (x,.cells (cs.set off (strip x)))
   |none=>none
  |_=>none
def bI (P:Program)(t:TypeId)(o:Ob)(off:Nat)(v:LV):Option Ob:=
 match o with
 | .cells cs=>opt v.cells fun vs=>opt (cO P t) fun n=>match Nat.beq vs.length n&&Nat.ble (off+n) cs.length with
  |true=>some (.cells (cU cs off vs))
  |false=>none
 | .arr sz cs=>opt (dm v) fun c=>opt (cO P t) fun n=>match fq n c&&Nat.ble (off+n) cs.length with
  |true=>some (.arr sz (cU cs off c.cells))
  |false=>none
 | .dead=>none
 | .map _ _=>none
mutual
def below (n:Nat):CV→Bool
 | .undef=>true
 | .v _=>true
 | .agg cs=>bN n cs
 | .sl cs=>bN n cs
 | .view cs=>bN n cs
 | .ref lev _ _=>decide (lev<n)
 | .msl lev _ _ _=>decide (lev<n)
 | .clo _ cs=>bN n cs
 | .iface _ c=>below n c
 | .mview _ vs=>bN n vs
 | .mref lev _=>decide (lev<n)
 | .tref lev _ _ _=>decide (lev<n)
def bN (n:Nat):List CV→Bool
 |[]=>true
 |c::r=>match below n c with|true=>bN n r|false=>false
end
def yy (lev:Nat):LV→Bool
 | .cv c=>below (lev+1) c
 | .osl xs=>bN (lev+1) xs
 |_=>false
def lR (L:Nat):LV→Option CV
 | .cv c=>some c
 | .osl xs=>some (.sl xs)
 | .loc i off=>some (.ref L i off)
 | .lsl i off len=>some (.msl L i off len)
 | .mloc i=>some (.mref L i)
 | .tloc i t n=>some (.tref L i t n)
 |_=>none
def kl (L:Nat):List LV→Option (List CV)
 |[]=>some []
 |x::r=>opt (lR L x) fun c=>opt (kl L r) fun l=>some (c::l)
def tM (L:Nat):LV→Option LV
 | .osl xs=>some (.osl xs)
 | .lclo f caps=>opt (kl L caps) fun cs=>some (.cv (.clo f cs))
 |x=>opt (lR L x) fun c=>some (.cv c)
def fJ (L:Nat):List LV→Option (List LV)
 |[]=>some []
 |x::r=>opt (tM L x) fun c=>opt (fJ L r) fun l=>some (c::l)
def dR (L:Nat):Lam→Option Lam
 |[]=>some []
 | .dead::r=>opt (dR L r) fun l=>some (.dead::l)
 | .arr sz cs::r=>opt (dR L r) fun l=>some (.arr sz cs::l)
 | .map ks vs::r=>opt (dR L r) fun l=>some (.map ks vs::l)
 | .cells cs::r=>opt (fJ L cs) fun cs=>opt (dR L r) fun l=>some (.cells cs::l)
def ij:LV→Bool
 | .cv _=>true
 | .osl _=>true
 |_=>false
def fw:List LV→Bool
 |[]=>true
 |x::r=>match ij x with|true=>fw r|false=>false
def oN:LV→Bool
 | .cv _=>true
 | .osl _=>true
 | .ltup xs=>fw xs
 |_=>false
def lF (n:Nat):LV→Bool
 | .cv c=>below n c
 | .osl xs=>bN n xs
 |_=>false
def fD (n:Nat):LV→Bool
 | .ltup xs=>xs.all (lF n)
 |x=>lF n x
structure Rho where
 call:FuncId→List LV→Mu→Option Out
 loop:Hints→List (Nat×Nat)→Code→S→Mu→Option St
 seg:Hints→List (Nat×Nat)→Code→S→Mu→Option St
 dcall:FuncId→Option CV→List LV→Mu→Option Mu
section
variable (P:Program)(ρ:Rho)
variable {α:Type}
def callK (r:Option Out)(k:LV→Mu→Option α)(p:CV→Mu→Option α):Option α:=
 opt r fun
  | .ret v μ=>k v μ
  | .panic v μ=>p v μ
def dz (μ:Mu):Option (Mu×Lam):=match μ.reverse with|l::r=>some (r.reverse,l)|[]=>none
def gD:LV→Option (List CV)
 | .cv (.view cs)=>some cs
 |_=>none
def oS:LV→Option (Nat×Nat×Nat)
 | .cv (.ref lev i off)=>some (lev,i,off)
 |_=>none
def Bz:LV→Option (Nat×Nat×Nat×Nat)
 | .cv (.msl lev i off len)=>some (lev,i,off,len)
 |_=>none
def jJ {β:Type}(P:Program)(b:Bool)(t:TypeId)(v:LV)(k:LV→Option β):Option β:=match b with|true=>dy P false t v k|false=>k v
def gn (h:OpHint)(t:TypeId)(a:LV)(s:S)(μ:Mu)(k:LV→S→Mu→Option α):Option α:=
 match a with
 | .loc i off=>match h.outer with
  |true=>none
  |false=>match h.cell with
   |false=>opt (bB P t (aH s.lam i) off) fun v=>jJ P h.arr t v fun v=>k v s μ
   |true=>opt (ie P t (aH s.lam i) off) fun q=>k q.1 {s with lam:=s.lam.set i q.2} μ
 | .cv _=>match h.outer with
  |false=>opt (gD a) fun cs=>opt (o6 P t cs 0) fun c=>k (.cv c) s μ
  |true=>opt (oS a) fun q=>match h.cell with
   |false=>opt (bB P t (a8 μ q.1 q.2.1) q.2.2) fun v=>dy P false t v fun v=>k v s μ
   |true=>opt (ie P t (a8 μ q.1 q.2.1) q.2.2) fun r=>dy P true t r.1 fun v=>k v s (bD μ q.1 q.2.1 r.2)
 |_=>none
def vO (t:TypeId)(o:Ob)(off:Nat)(v:LV)(k:Ob→Option α):Option α:=
 match o with
 | .arr sz cs=>opt (dm v) fun c=>opt (cO P t) fun n=>aB (fq n c&&Nat.ble (off+n) cs.length) (k (.arr sz (cU cs off c.cells)))
 |o=>opt (bI P t o off v) k
def gB (h:OpHint)(t:TypeId)(a v:LV)(s:S)(μ:Mu)(k:LV→S→Mu→Option α):Option α:=
 match a with
 | .loc i off=>match h.outer with
  |true=>none
  |false=>vO P t (aH s.lam i) off v fun o=>k (.cv .undef) {s with lam:=s.lam.set i o} μ
 | .cv _=>match h.outer with
  |false=>none
  |true=>opt (oS a) fun q=>aB (yy q.1 v) (opt (bI P t (a8 μ q.1 q.2.1) q.2.2 v) fun o=>k (.cv .undef) s (bD μ q.1 q.2.1 o))
 |_=>none
def eH (h:OpHint)(s:TypeId)(a:LV)(f:Nat)(k:LV→Option α):Option α:=
 opt (kG P s f) fun q=>match a with
 | .loc i off=>k (.loc i (off+q.1))
 | .cv _=>match h.outer with
  |false=>opt (gD a) fun cs=>fl (z8 P 8 s) cs fun cs=>aB (Nat.ble q.1 cs.length) (k (.cv (.view (cs.drop q.1))))
  |true=>opt (oS a) fun r=>k (.cv (.ref r.1 r.2.1 (r.2.2+q.1)))
 |_=>none
def Bw (s:TypeId)(x:LV)(f:Nat):Option LV:=
 opt (kG P s f) fun q=>opt (lH x) fun cs=>opt (o6 P q.2 cs q.1) fun c=>some (.cv c)
def ex (i:Int)(len:Nat):Bool:=decide (0≤i)&&decide (i<(len:Int))
def eI (h:OpHint)(t:TypeId)(x:LV)(i:Int)(k:LV→Option α):Option α:=
 match P.underlying t with
 |some (.slice e)=>opt (cO P e) fun n=>match x with
  | .lsl id off len=>aB (ex i len) (k (.loc id (off+i.toNat*n)))
  | .osl xs=>opt (bY xs i) fun c=>f7 P e c fun c=>aB (Nat.beq c.cells.length n) (k (.cv (.view c.cells)))
  | .cv _=>match h.outer with
   |false=>opt (bL x) fun xs=>opt (bY xs i) fun c=>f7 P e c fun c=>aB (Nat.beq c.cells.length n) (k (.cv (.view c.cells)))
   |true=>opt (Bz x) fun q=>aB (ex i q.2.2.2) (k (.cv (.ref q.1 q.2.1 (q.2.2.1+i.toNat*n))))
  |_=>none
 |some (.array len e)=>opt (cO P e) fun n=>match x with
  | .loc id off=>aB (ex i len) (k (.loc id (off+i.toNat*n)))
  | .cv _=>match h.outer with
   |false=>opt (gD x) fun cs=>aB (ex i len) (aB (Nat.ble (i.toNat*n) cs.length) (k (.cv (.view (cs.drop (i.toNat*n))))))
   |true=>opt (oS x) fun q=>aB (ex i len) (k (.cv (.ref q.1 q.2.1 (q.2.2+i.toNat*n))))
  |_=>none
 |_=>none
def jX (t:TypeId)(x:LV)(i:Int)(k:LV→Option α):Option α:=
 match P.underlying t with
 |some .string=>opt (aL x) fun l=>opt (bn l i) fun b=>k (.cv (.v (.int .u8 (b.toNat:Int))))
 |some (.array len e)=>match x with
  | .cv _=>opt (lH x) fun cs=>opt (cO P e) fun n=>aB (ex i len) (opt (o6 P e cs (i.toNat*n)) fun c=>f7 P e c fun c=>k (.cv c))
  |_=>none
 |_=>none
def lE:LV→Option Int
 | .cv (.v (.int _ n))=>some n
 |_=>none
def cV (ev:Operand→LV)(x:Option Operand)(d:Int)(k:Int→Option α):Option α:=
 match x with
 |none=>k d
 |some x=>opt (lE (ev x)) k
def jF (n:Nat)(a:Int)(xs:List CV):Bool:=match decide (a=0)with|true=>true|false=>fK n xs
def gz (t:TypeId)(x:LV)(lo hi:Option Operand)(ev:Operand→LV)(k:LV→Option α):Option α:=
 match P.underlying t with
 |some .string=>opt (aL x) fun l=>cV ev lo 0 fun a=>cV ev hi (l.length:Int) fun b=>opt (dk l a b) fun r=>k (.cv (.v (.string ⟨⟨r⟩⟩)))
 |some (.slice e)=>opt (cO P e) fun n=>match x with
  | .cv _=>opt (bL x) fun xs=>cV ev lo 0 fun a=>cV ev hi (xs.length:Int) fun b=>aB (jF n a xs) (opt (dk xs a b) fun r=>k (.cv (.sl r)))
  | .osl xs=>cV ev lo 0 fun a=>cV ev hi (xs.length:Int) fun b=>aB (jF n a xs) (opt (dk xs a b) fun r=>k (.cv (.sl r)))
  | .lsl id off len=>cV ev lo 0 fun a=>cV ev hi (len:Int) fun b=>
   aB (decide (a=0)&&decide (0≤b)&&decide (b≤(len:Int))) (k (.lsl id off b.toNat))
  | .ost xs=>cV ev lo 0 fun a=>cV ev hi (xs.length:Int) fun b=>
   aB (decide (a=0)&&decide (0≤b)&&decide (b<(xs.length:Int))) (k (.ost (xs.take b.toNat)))
  |_=>none
 |_=>none
def jT (isAgg:Bool)(sz:Nat):Nat→List CV→List CV
 |0,_=>[]
 |n+1,cs=>(match isAgg with|false=>cs.headD .undef|true=> .agg (cs.take sz))::jT isAgg sz n (cs.drop sz)
def fL (sz:Nat)(xs ys:List CV):Bool:=bd (xs.length+ys.length)&&fK sz xs&&fK sz ys
def fg (h:OpHint)(t:TypeId)(xt:Option TypeId)(x y:LV)(s:S)(μ:Mu)(k:LV→S→Mu→Option α):Option α:=
 match P.underlying t with
 | some (.slice e) => opt (cO P e) fun sz => aB (mC P e) (opt (zeroCells P e) fun z => aB (Nat.beq z.length sz) (match xt with
  |none=>none
  |some xt=>match h.own with
  |true=>opt (wL x) fun xs=>match P.underlying xt with
   |some (.slice _)=>opt (bL y) fun ys=>opt (sV ys) fun vs=>aB (Nat.beq sz 1&&bd (xs.length+vs.length)) (k (.ost (xs++vs)) s μ)
   |_=>none
  |false=>opt (eX x) fun xs=>match P.underlying xt with
   |some .string=>opt (aL y) fun l=>aB (Nat.beq e 5&&(Nat.beq sz 1&&bd (xs.length+l.length)&&fK 1 xs)) (k (.osl (xs++l.map fun b=> .v (.int .u8 (b.toNat:Int)))) s μ)
   |some (.slice _)=>opt (bL y) fun ys=>aB ((Nat.beq e 5||iU ys)&&fL sz xs ys) (k (.osl (xs++ys)) s μ)
   |_=>none))
 |_=>none
def cZ (h:OpHint)(src dst:TypeId)(x:LV)(s:S)(μ:Mu)(k:LV→S→Mu→Option α):Option α:=
 match P.underlying dst with
 |some (.int ik)=>match P.underlying src with
  |some (.int _)=>opt (lE x) fun n=>k (.cv (.v (.int ik (ik.wrap n)))) s μ
  |_=>none
 |some .string=>match P.underlying src with
  |some .string=>opt (aL x) fun l=>k (.cv (.v (.string ⟨⟨l⟩⟩))) s μ
  |some (.slice e)=>match P.underlying e with
   |some (.int .u8)=>match x with
    | .lsl id off len=>match aH s.lam id with
     | .arr _ cs=>aB (Nat.ble (off+len) cs.length) (opt (bk ((cs.drop off).take len)) fun l=>k (.cv (.v (.string ⟨⟨l⟩⟩))) s μ)
     |_=>none
    |_=>opt (bL x) fun xs=>opt (bk xs) fun l=>k (.cv (.v (.string ⟨⟨l⟩⟩))) s μ
   |_=>none
  |_=>none
 |some (.slice e)=>match P.underlying src with
  |some .string=>match P.underlying e with
   | some (.int .u8) => opt (aL x) fun l => aB (bd l.length) (match h.arr with
    |true=>k (.lsl s.lam.length 0 l.length) {s with lam:=s.lam++[.arr 1 (l.map fun b=> .v (.int .u8 (b.toNat:Int)))]} μ
    |false=>k (.cv (.sl (l.map fun b=> .v (.int .u8 (b.toNat:Int))))) s μ)
   |_=>none
  |_=>none
 |_=>none
def yk (t:Nat)(s:S):Option S:=
 match s.fr t with
 | .loc i off=>match decide (off=0)with
  |true=>match aH s.lam i with
   | .cells cs=>opt (qH cs) fun l=>some {s with fr:=upd s.fr t (.cv (.view l)),lam:=s.lam.set i .dead}
   |_=>none
  |false=>none
 | .mloc i=>match aH s.lam i with
  | .map ks vs=>some {s with fr:=upd s.fr t (.cv (.mview ks vs)),lam:=s.lam.set i .dead}
  |_=>none
 | .ost xs=>some {s with fr:=upd s.fr t (.cv (.sl (xs.map .v)))}
 |_=>none
def oO:List Nat→S→Option S
 |[],s=>some s
 |t::r,s=>opt (yk t s) fun s=>oO r s
def r5 (t:Nat)(e:TypeId)(s:S):Option S:=
 match s.fr t with
 | .lsl i off len=>match decide (off=0)with
  |true=>match aH s.lam i with
   | .arr sz cs=>opt (cO P e) fun n=>aB (Nat.beq sz n) (aB ((eo P e||(Nat.beq n 1&&gA cs))&&Nat.ble (len*n) cs.length) (some {s with fr:=upd s.fr t (.cv (.sl (jT (eo P e) n len cs))),lam:=s.lam.set i .dead}))
   |_=>none
  |false=>none
 |_=>none
def jV:List (Nat×TypeId)→S→Option S
 |[],s=>some s
 |q::r,s=>opt (r5 P q.1 q.2 s) fun s=>jV r s
def optE {α β:Type}(x:Option α)(f:α→Option β)(g:Option β):Option β:=match x with|some a=>f a|none=>g
def Hr (d:TypeDesc)(v:LV):Option Value:=
 match d with
 | .int k=>opt (aF k v) fun n=>some (.int k n)
 | .string=>opt (aL v) fun l=>some (.string ⟨⟨l⟩⟩)
 | .bool=>opt (aM v) fun b=>some (.bool b)
 |_=>none
def BC:TypeDesc→Value→Bool
 | .bool,.bool _=>true
 | .int k,.int k' _=>decide (k'=k)
 | .string,.string _=>true
 |_,_=>false
def j2 (d:TypeDesc):List Value→Bool
 |[]=>true
 |x::r=>match BC d x with|true=>j2 d r|false=>false
def ql:Value→Value→Bool
 | .int _ a,.int _ b=>decide (a=b)
 | .string a,.string b=>decide (a.data.toList=b.data.toList)
 | .bool a,.bool b=>a == b
 |_,_=>false
def j1:List Value→Value→Option Nat
 |[],_=>none
 |x::r,k=>match ql k x with|true=>some 0|false=>opt (j1 r k) fun n=>some (n+1)
def fU:List Value→List CV→Value→Option CV
 |x::ks,c::vs,k=>match ql k x with|true=>some c|false=>fU ks vs k
 |_,_,_=>none
def kI (ks:List Value)(k:Value):List Value:=match j1 ks k with|some _=>ks|none=>ks++[k]
def kJ (ks:List Value)(vs:List CV)(k:Value)(c:CV):List CV:=match j1 ks k with|some i=>vs.set i c|none=>vs++[c]
def xJ (P:Program)(t:TypeId):Option CV:=
 match P.info? t with
 |some i=>match i.zero with
  |some z=>match z with
   | .agg cs=>some (.agg (cs.toList.map .v))
   |x=>some (.v x)
  |none=>none
 |none=>none
def z7 (P:Program)(t:TypeId):Option (TypeDesc×TypeId):=
 match P.underlying t with
 |some (.map k e)=>opt (P.underlying k) fun d=>some (d,e)
 |_=>none
def gE (t:TypeId)(m x y:LV)(s:S)(μ:Mu)(k:LV→S→Mu→Option α):Option α:=
 opt (z7 P t) fun q=>opt (Hr q.1 x) fun kv=>opt (dm y) fun c=>match m with
  | .mloc i=>match aH s.lam i with
   | .map ks vs=>aB (j2 q.1 ks) (k (.cv .undef) {s with lam:=s.lam.set i (.map (kI ks kv) (kJ ks vs kv c))} μ)
   |_=>none
  | .cv (.mref lev i)=>match a8 μ lev i with
   | .map ks vs=>aB (j2 q.1 ks&&below (lev+1) c) (k (.cv .undef) s (bD μ lev i (.map (kI ks kv) (kJ ks vs kv c))))
   |_=>none
  |_=>none
def tB (m:LV)(s:S)(μ:Mu):Option (List Value×List CV):=
 match m with
 | .cv (.mview ks vs)=>some (ks,vs)
 | .cv (.v (.map none))=>some ([],[])
 | .mloc i=>match aH s.lam i with| .map ks vs=>some (ks,vs)|_=>none
 | .cv (.mref lev i)=>match a8 μ lev i with| .map ks vs=>some (ks,vs)|_=>none
 |_=>none
def iB (t:TypeId)(m x:LV)(ok:Bool)(s:S)(μ:Mu)(k:LV→Option α):Option α:=
 opt (z7 P t) fun q => opt (Hr q.1 x) fun kv => opt (tB m s μ) fun p => aB (j2 q.1 p.1) (
  optE (fU p.1 p.2 kv)
   (fun c=>f7 P q.2 c fun c=>match ok with|true=>k (.ltup [.cv c,.cv (.v (.bool true))])|false=>k (.cv c))
   (opt (xJ P q.2) fun z=>match ok with|true=>k (.ltup [.cv z,.cv (.v (.bool false))])|false=>k (.cv z)))
def iv (x:LV)(t:TypeId)(ok:Bool)(k:LV→Option α):Option α:=
 match P.underlying t with
 |some (.interface _)=>none
 |some _=>match ok with
  |false=>none
  |true=>opt (xJ P t) fun z=>match x with
   | .cv (.iface u c)=>match Nat.beq u t with
    |true=>k (.ltup [.cv c,.cv (.v (.bool true))])
    |false=>k (.ltup [.cv z,.cv (.v (.bool false))])
   | .cv (.v .nilIface)=>k (.ltup [.cv z,.cv (.v (.bool false))])
   |_=>none
 |none=>none
def fQ (h:OpHint)(t:TypeId)(f:FuncId)(args:List LV)(s:S)(μ:Mu)(k:LV→S→Mu→Option α)(p:CV→S→Mu→Option α):Option α:=
 match h.push with
 | false => aB (!s.pushed && fw args) (
   callK (ρ.call f args μ) (fun v μ=>dy P h.own t v fun v=>k v s μ) (fun v μ=>p v s μ))
 |true=>opt (fJ μ.length args) fun args=>opt (dR μ.length s.lam) fun l=>
   callK (ρ.call f args (μ++[l])) (fun v μ=>opt (dz μ) fun q=>dy P h.own t v fun v=>k v {s with lam:=q.2,pushed:=true} q.1)
    (fun v μ=>opt (dz μ) fun q=>p v {s with lam:=q.2,pushed:=true} q.1)
def vL (t:Nat):List Operand→Bool
 |[]=>false
 | .tmp u::r=>match Nat.beq u t with|true=>true|false=>vL t r
 |_::r=>vL t r
def fp:List Operand→Bool
 |[]=>true
 | .tmp t::r=>match vL t r with|true=>false|false=>fp r
 |_::r=>fp r
def cK (h:OpHint)(o:Oper)(s0:S)(μ:Mu)(k:LV→S→Mu→Option α)(p:CV→S→Mu→Option α):Option α:=
 let ev:=evA h s0.fr
 let s:=ad h.take s0
 match o.op with
 | .move x=>k (ev x) s μ
 | .assign x=>k (ev x) s μ
 | .pick c a b=>opt (aM (ev c)) fun t=>k (xj t (ev a) (ev b)) s μ
 | .alloc e=>opt (zeroCells P e) fun cs=>k (rQ h.cell s.lam.length e cs.length) {s with lam:=s.lam++[.cells (cs.map .cv)]} μ
 | .box e x=>opt (ev x).cells fun cs=>k (.loc s.lam.length 0) {s with lam:=s.lam++[.cells cs]} μ
 | .build t parts=>opt (dv ev parts.toList) fun ps=>opt (A1 P t ps) fun c=>k (.cv c) s μ
 | .buildSlice t len parts=>match P.underlying t with
  | some (.slice e) => opt (cO P e) fun sz => aB (mC P e) (opt (zeroCells P e) fun _ => opt (dv ev parts.toList) fun ps => opt (vJ sz 0 ps) fun xs =>
   aB (Nat.beq xs.length len) (aB ((Nat.beq e 5 || iU xs) && Nat.ble (len * sz) 10000) (match h.arr with
   |false=>k (.osl xs) s μ
   |true=>k (.lsl s.lam.length 0 len) {s with lam:=s.lam++[.arr sz (xs.flatMap CV.cells)]} μ)))
  |_=>none
 | .load t a=>gn P h t (ev a) s μ k
 | .store t a v=>gB P h t (ev a) (ev v) s μ k
 | .nilCheck x=>opt (jZ (ev x)) fun b=>aB (!b) (k (pg (ev x)) s μ)
 | .binOp op t x y _=>nZ P op t x y (ev x) (ev y) fun c=>k (.cv c) s μ
 | .unOp op _ x=>opt (unA op (ev x)) fun c=>k (.cv c) s μ
 | .convert src dst x=>cZ P h src dst (ev x) s μ k
 | .makeInterface t x=>match P.underlying t with
  |some (.interface _)=>none
  |some _=>opt (dm (ev x)) fun c=>k (.cv (.iface t c)) s μ
  |none=>none
 | .makeFunc fn first captured=>match fn with
  | .func f=>match first.toList with
   |[]=>k (.lclo f (captured.toList.map fun x=>strip1 (ev x))) s μ
   |_::_=>none
  |_=>none
 | .slice t x lo hi mx=>match mx with
  |none=>gz P t (ev x) lo hi ev fun v=>k v s μ
  |some _=>none
 | .fieldAddr t x f=>eH P h t (ev x) f fun v=>k v s μ
 | .field t x f=>opt (Bw P t (ev x) f) fun v=>k v s μ
 | .indexAddr t x i=>opt (lE (ev i)) fun i=>eI P h t (ev x) i fun v=>k v s μ
 | .index t x i=>opt (lE (ev i)) fun i=>jX P t (ev x) i fun v=>k v s μ
 | .extract t i=>opt (aS (ev t)) fun xs=>opt (xs[i]?) fun v=>k v s μ
 | .panic x=>match ev x with
  | .cv (.iface t c)=>p (.iface t c) s μ
  |_=>none
 | .typeAssert x _ t ok=>iv P (ev x) t ok fun v=>k v s μ
 | .makeMap _ r=>match r with
  |some _=>none
  |none=>k (.mloc s.lam.length) {s with lam:=s.lam++[.map [] []]} μ
 | .insert t m x y=>gE P t (ev m) (ev x) (ev y) s μ k
 | .mapUpdate t m x y=>gE P t (ev m) (ev x) (ev y) s μ k
 | .lookup t m x ok=>iB P t (ev m) (ev x) ok s μ fun v=>k v s μ
 | .call c=>match c.callee with
  | .builtin b=>match b with
   | .len=>match c.args.toList,c.argTypes.toList with
    |[x],[t]=>opt (Hy P t (ev x)) fun n=>k (.cv (.v (.int .i64 n))) s μ
    |_,_=>none
   | .append=>match c.args.toList,c.argTypes.toList with
    |[x,y],[t,xt]=>fg P h t (some xt) (ev x) (ev y) s μ k
    |_,_=>none
   | .max=>match c.args.toList with
    |[x,y]=>opt (aF .i64 (ev x)) fun a=>opt (aF .i64 (ev y)) fun b=>k (.cv (.v (.int .i64 (max a b)))) s μ
    |_=>none
   | .min=>match c.args.toList with
    |[x,y]=>opt (aF .i64 (ev x)) fun a=>opt (aF .i64 (ev y)) fun b=>k (.cv (.v (.int .i64 (min a b)))) s μ
    |_=>none
   |_=>none
  | .value f => aB (fp c.args.toList) (match ev f with
   | .cv (.clo f caps)=>fQ P ρ h o.type f (c.args.toList.map ev++caps.map .cv) s μ k p
   | .lclo f caps=>fQ P ρ h o.type f (c.args.toList.map ev++caps) s μ k p
   |_=>none)
  | .invoke _ _=>none
 |_=>none
def opK (h:OpHint)(o:Oper)(s:S)(μ:Mu)(k:LV→S→Mu→Option α)(p:CV→S→Mu→Option α):Option α:=
 opt (oO h.freeze s) fun s=>opt (jV P h.fza s) fun s=>cK P ρ h o s μ k p
def Lt (r i:Nat):List ((Nat×Nat)×OpHint)→OpHint
 |[]=>{}
 |q::l=>match Nat.beq q.1.1 r&&Nat.beq q.1.2 i with|true=>q.2|false=>Lt r i l
def Hints.op (H:Hints)(r i:Nat):OpHint:=Lt r i H.ops
def mf (ops:Array Oper)(j:Nat):Option Nat:=match ops[j]? with|some o=>o.dst|none=>none
def d9:LV→Option (Option Bool)
 | .cv (.v (.bool b))=>some (some b)
 | .cv (.v (.tuple _))=>some none
 |_=>none
def eM (H:Hints)(r:Nat)(ops:Array Oper):List Nat→S→Mu→(S→Mu→Option α)→(CV→S→Mu→Option α)→Option α
 |[],s,μ,k,_=>k s μ
 |i::rest,s,μ,k,p=>match ops[i]? with
  |none=>none
  |some o=>match o.guard with
   |none=>opK P ρ (H.op r i) o s μ (fun v s μ=>eM H r ops rest (s.put o.dst v) μ k p) p
   |some g=>opt (mf ops g.1) fun d=>opt (d9 (s.fr d)) fun q=>match q with
    |none=>eM H r ops rest (s.put o.dst (.cv (.v Go.undef))) μ k p
    |some b=>cond b
     (match g.2 with
     |true=>opK P ρ (H.op r i) o (s.set d (.cv (.v (.bool true)))) μ (fun v s μ=>eM H r ops rest (s.put o.dst v) μ k p) p
     |false=>eM H r ops rest ((s.set d (.cv (.v (.bool true)))).put o.dst (.cv (.v Go.undef))) μ k p)
     (match g.2 with
     |false=>opK P ρ (H.op r i) o (s.set d (.cv (.v (.bool false)))) μ (fun v s μ=>eM H r ops rest (s.put o.dst v) μ k p) p
     |true=>eM H r ops rest ((s.set d (.cv (.v (.bool false)))).put o.dst (.cv (.v Go.undef))) μ k p)
inductive Kind where
 |plain
 |rd
 |wr
 |ap
 |look
 |ou
 |all
def aX (h:OpHint)(o:Oper):Kind:=
 match o.op with
 | .load _ _=>match h.outer with
  |true=>match h.cell with|true=> .ou|false=> .look
  |false=>match h.cell with|true=> .wr|false=> .rd
 | .store _ _ _=>match h.outer with|true=> .ou|false=> .wr
 | .alloc _=> .ap
 | .box _ _=> .ap
 | .buildSlice _ _ _=>match h.arr with|true=> .ap|false=> .plain
 | .convert _ _ _=>match h.arr with|true=> .all|false=> .rd
 | .call c=>match c.callee with
  | .builtin _=> .plain
  |_=>match h.push with|true=> .all|false=> .ou
 | .panic _=> .all
 | .typeAssert _ _ _ _=> .all
 | .makeMap _ _=> .all
 | .insert _ _ _ _=> .all
 | .mapUpdate _ _ _ _=> .all
 | .lookup _ _ _ _=> .all
 |_=> .plain
def eC:Kind→Kind→Bool
 | .all,_=>false
 |_,.all=>false
 | .plain,_=>true
 |_,.plain=>true
 | .rd,.rd=>true
 | .rd,.ap=>true
 | .rd,.ou=>true
 | .ou,.rd=>true
 | .wr,.ou=>true
 | .ou,.wr=>true
 | .ap,.ou=>true
 | .ou,.ap=>true
 | .look,.look=>true
 | .look,.rd=>true
 | .rd,.look=>true
 | .look,.wr=>true
 | .wr,.look=>true
 | .look,.ap=>true
 | .ap,.look=>true
 |_,_=>false
def jj (h:OpHint):Bool:=match h.freeze,h.fza with|[],[]=>true|_,_=>false
def jK (h:OpHint)(o:Oper):List Nat:=match o.dst with|some d=>d::h.take|none=>h.take
def ye:List Nat→List Nat→Bool
 |[],_=>true
 |a::r,l=>match kK l a with|true=>false|false=>ye r l
def Hb (o:Oper):List Nat:=match o.dst with|some d=>[d]|none=>[]
def tz (H:Hints)(r:Nat)(ops:Array Oper)(j i:Nat):Bool:=
 match ops[j]?,ops[i]? with
 |some x,some y=>ye (Hb x) (y.looksAt ops)&&ye (jK (H.op r j) x) (jK (H.op r i) y)&&ye (Hb y) (x.looksAt ops)&&
  eC (aX (H.op r j) x) (aX (H.op r i) y)
 |_,_=>false
def iF (ops:Array Oper)(i:Nat):List Nat:=
 match ops[i]? with
 |some o=>(o.after.toList.filter (Region.binds .any)).map fun e=>e.on
 |none=>[]
def xu (rows:List (List Nat)):List Nat→List Nat
 |[]=>[]
 |p::r=>p::(rows.getD p []++xu rows r)
def eS (ops:Array Oper):Nat→List (List Nat)
 |0=>[]
 |n+1=>eS ops n++[xu (eS ops n) (iF ops n)]
def AW (f:Nat→Bool):Nat→Bool
 |0=>true
 |n+1=>match f n with|true=>AW f n|false=>false
def ltB (i:Nat):List Nat→Bool
 |[]=>true
 |p::r=>match Nat.blt p i with|true=>ltB i r|false=>false
def Bo (H:Hints)(r:Nat)(ops:Array Oper):Bool:=
 AW (fun i=>ltB i (iF ops i)&&jj (H.op r i)&&AW (fun j=>kK ((eS ops ops.size).getD i []) j||tz H r ops j i) i) ops.size
end
mutual
def Sq:LV→List Nat
 | .loc i _=>[i]
 | .lsl i _ _=>[i]
 | .mloc i=>[i]
 | .tloc i _ _=>[i]
 | .lclo _ caps=>oU caps
 | .ltup xs=>oU xs
 | .cv _=>[]
 | .osl _=>[]
 | .ost _=>[]
 | .stl _=>[]
def oU:List LV→List Nat
 |[]=>[]
 |x::r=>Sq x++oU r
end
def nT (l:Lam):Nat→List Nat→List Nat→List Nat
 |0,_,acc=>acc
 |_+1,[],acc=>acc
 |n+1,i::todo,acc=>match kK acc i with
  |true=>nT l n todo acc
  |false=>match aH l i with
   | .cells cs=>nT l n (oU cs++todo) (acc++[i])
   |_=>nT l n todo (acc++[i])
def nK:List Nat→Nat→Nat→Option Nat
 |[],_,_=>none
 |a::r,n,i=>match Nat.beq a i with|true=>some n|false=>nK r (n+1) i
mutual
def eq (m:List Nat):LV→Option LV
 | .cv c=>some (.cv c)
 | .osl xs=>some (.osl xs)
 | .ost xs=>some (.ost xs)
 | .stl n=>some (.stl n)
 | .loc i off=>opt (nK m 0 i) fun j=>some (.loc j off)
 | .lsl i off len=>opt (nK m 0 i) fun j=>some (.lsl j off len)
 | .mloc i=>opt (nK m 0 i) fun j=>some (.mloc j)
 | .tloc i t n=>opt (nK m 0 i) fun j=>some (.tloc j t n)
 | .lclo f caps=>opt (ee m caps) fun l=>some (.lclo f l)
 | .ltup xs=>opt (ee m xs) fun l=>some (.ltup l)
def ee (m:List Nat):List LV→Option (List LV)
 |[]=>some []
 |x::r=>opt (eq m x) fun y=>opt (ee m r) fun l=>some (y::l)
end
def dX (m:List Nat):List Ob→Option (List Ob)
 |[]=>some []
 | .dead::r=>opt (dX m r) fun l=>some (.dead::l)
 | .arr sz cs::r=>opt (dX m r) fun l=>some (.arr sz cs::l)
 | .map ks vs::r=>opt (dX m r) fun l=>some (.map ks vs::l)
 | .cells cs::r=>opt (ee m cs) fun cs=>opt (dX m r) fun l=>some (.cells cs::l)
def iN:List Nat→List LV→List (Nat×LV)
 |t::ts,v::vs=>(t,v)::iN ts vs
 |_,_=>[]
def Ae (m:Nat)(v:LV):Option LV:=
 match m with
 |0=>some (strip v)
 |1=>opt (eX v) fun xs=>some (.osl xs)
 |4=>opt (wL v) fun xs=>some (.ost xs)
 |_=>opt (bL v) fun xs=>some (.cv (.sl xs))
def sm (fr:Fr):List (Nat×Nat)→Option (List LV)
 |[]=>some []
 |q::r=>opt (Ae q.2 (fr q.1)) fun v=>opt (sm fr r) fun l=>some (v::l)
def dH {α:Type}(live:List (Nat×Nat))(s:S)(k:S→Option α):Option α:=
 opt (sm s.fr live) fun vs=>
 match s.pushed with
 |true=>k {s with fr:=dP (iN (live.map Prod.fst) vs)}
 |false=>
  let m:=nT s.lam 1000 (oU vs) []
  opt (ee m vs) fun vs=>opt (dX m (m.map (aH s.lam))) fun l=>k {fr:=dP (iN (live.map Prod.fst) vs),lam:=l,pushed:=false}
def sZ (L m:Nat):CV→Bool
 | .ref lev i _=>match Nat.blt lev L with|true=>true|false=>Nat.blt i m
 | .tref lev i _ _=>match Nat.blt lev L with|true=>true|false=>Nat.blt i m
 |c=>below L c
mutual
def fC (L m:Nat):LV→Bool
 | .cv c=>sZ L m c
 | .osl xs=>bN L xs
 | .ost _=>true
 | .stl _=>true
 | .loc i _=>Nat.blt i m
 | .lsl i _ _=>Nat.blt i m
 | .mloc i=>Nat.blt i m
 | .tloc i _ _=>Nat.blt i m
 | .lclo _ caps=>e8 L m caps
 | .ltup _=>false
def e8 (L m:Nat):List LV→Bool
 |[]=>true
 |x::r=>match fC L m x with|true=>e8 L m r|false=>false
end
def pf (L m:Nat):Ob→Bool
 | .cells cs=>e8 L m cs
 | .arr _ cs=>bN L cs
 | .map _ vs=>bN L vs
 | .dead=>true
def gu (L m:Nat):List Ob→Bool
 |[]=>true
 |x::r=>match pf L m x with|true=>gu L m r|false=>false
def Lw:List (Nat×Nat)→Option Nat
 |[]=>none
 |q::r=>match Nat.ble 1000000 q.1 with|true=>some (q.1-1000000)|false=>Lw r
def fj (fr:Fr):List (Nat×Nat)→List (Nat×LV)
 |[]=>[]
 |q::r=>(q.1,fr q.1)::fj fr r
def xH:List (Nat×LV)→List LV
 |[]=>[]
 |q::r=>q.2::xH r
def i6 {α:Type}(L:Nat)(live:List (Nat×Nat))(s:S)(k:S→Option α):Option α:=
 match Lw live with
 |none=>k s
 |some m=>aB (s.pushed&&Nat.ble m s.lam.length&&e8 L m (xH (fj s.fr live))&&gu L m (s.lam.take m)) (k {fr:=dP (fj s.fr live),lam:=s.lam.take m,pushed:=true})
def wA {α:Type}(m:Nat)(v:LV)(k:LV→Option α):Option α:=
 match m with
 |0=>k v
 |1=>opt (eX v) fun xs=>k (.osl xs)
 |3=>opt (dm v) fun c=>k (.cv c)
 |_=>opt (bL v) fun xs=>k (.cv (.sl xs))
def fm {α:Type}:List Nat→List LV→(List LV→Option α)→Option α
 |[],cs,k=>k cs
 |m::ms,c::cs,k=>wA m c fun c=>fm ms cs fun r=>k (c::r)
 |_::_,[],_=>none
def kO {α:Type}:List (Nat×List Nat)→S→(S→Option α)→Option α
 |[],s,k=>k s
 |q::r,s,k=>match Nat.beq q.1 1000000 with
  |true=>kO r {s with pushed:=true} k
  |false=>match aH s.lam q.1 with
   | .cells cs=>fm q.2 cs fun cs=>kO r {s with lam:=s.lam.set q.1 (.cells cs)} k
   |_=>none
def tD (r:Nat):List (Nat×List (Nat×List Nat))→List (Nat×List Nat)
 |[]=>[]
 |q::l=>match Nat.beq q.1 r with|true=>q.2|false=>tD r l
def bH:Code→Nat
 | .region id _ _=>id
 | .seq a b=>match bH a with|0=>bH b|n+1=>n+1
 | .cond _ a b=>match bH a with|0=>bH b|n+1=>n+1
 | .block _ c=>bH c
 | .loop c=>bH c
 |_=>0
def LM (r:Nat):List (Nat×List (Nat×Nat)×List (Nat×Nat))→List (Nat×Nat)×List (Nat×Nat)
 |[]=>([],[])
 |q::l=>match Nat.beq q.1 r with|true=>q.2|false=>LM r l
def Ha (r:Nat):List (Nat×List (Nat×Nat)×List (Nat×Nat))→Option (List (Nat×Nat)×List (Nat×Nat))
 |[]=>none
 |q::l=>match Nat.beq q.1 r with|true=>some q.2|false=>Ha r l
def Hints.lives (H:Hints)(r:Nat):List (Nat×Nat)×List (Nat×Nat):=LM r H.live
def Hc (n:Nat)(kp:Option Nat)(d:Nat):Bool:=
 match Nat.blt d n with
 |true=>match kp with|some t=> !Nat.beq d t|none=>true
 |false=>false
def lN (n:Nat)(kp:Option Nat):List Oper→Bool
 |[]=>true
 |o::r=>match o.dst with
  |none=>lN n kp r
  |some d=>match Hc n kp d with|true=>lN n kp r|false=>false
def dE (n:Nat)(kp:Option Nat):Code→Bool
 | .region _ ops _=>lN n kp ops.toList
 | .seq a b=>match dE n kp a with|true=>dE n kp b|false=>false
 | .cond _ x y=>match dE n kp x with|true=>dE n kp y|false=>false
 | .block _ c=>dE n kp c
 | .loop c=>dE n kp c
 |_=>true
def bP (P:Program)(ρ:Rho)(H:Hints){α:Type}:Code→S→Mu→(St→Option α)→Option α
 | .skip,s,μ,k=>k (.norm s μ)
 | .region id ops draw,s,μ,k=>match draw with
  |false=>eM P ρ H id ops (List.range ops.size) s μ (fun s μ=>k (.norm s μ)) fun v s μ=>k (.panic v s μ)
  |true=>aB (Bo H id ops) (eM P ρ H id ops (List.range ops.size) s μ (fun s μ=>k (.norm s μ)) fun _ _ _=>none)
 | .seq a b,s,μ,k=>bP P ρ H a s μ fun st=>match st with
  | .norm s μ=>match Ha (bH b) H.cuts with
   |none=>bP P ρ H b s μ k
   |some lv=>kO (tD (bH b) H.objs) s fun s=>dH lv.1 s fun s=>i6 μ.length lv.1 s fun s=>opt (ρ.seg H lv.2 b s μ) k
  | .exit i s μ=>k (.exit i s μ)
  | .ret s μ=>k (.ret s μ)
  | .panic v s μ=>k (.panic v s μ)
 | .cond c x y,s,μ,k=>opt (aM (evA {} s.fr c)) fun b=>cond b (bP P ρ H x s μ k) (bP P ρ H y s μ k)
 | .block id c,s,μ,k=>bP P ρ H c s μ fun st=>match st with
  | .exit i s μ=>match Nat.beq i id with|true=>k (.norm s μ)|false=>k (.exit i s μ)
  | .norm s μ=>k (.norm s μ)
  | .ret s μ=>k (.ret s μ)
  | .panic v s μ=>k (.panic v s μ)
 | .loop c,s,μ,k=>kO (tD (bH c) H.objs) s fun s=>dH (H.lives (bH c)).1 s fun s=>i6 μ.length (H.lives (bH c)).1 s fun s=>opt (ρ.loop H (H.lives (bH c)).2 c s μ) k
 | .exit id,s,μ,k=>k (.exit id s μ)
 | .ret,s,μ,k=>k (.ret s μ)
 |_,_,_,_=>none
def lP (P:Program)(ρ:Rho)(H:Hints)(lv:List (Nat×Nat))(c:Code)(s:S)(μ:Mu):Option St:=
 bP P ρ H c s μ fun st=>match st with
  | .norm s μ=>kO (tD (bH c) H.objs) s fun s=>dH (H.lives (bH c)).1 s fun s=>i6 μ.length (H.lives (bH c)).1 s fun s=>ρ.loop H lv c s μ
  | .exit i s μ=>dH lv s fun s=>some (.exit i s μ)
  | .ret s μ=>dH H.res s fun s=>some (.ret s μ)
  | .panic v s μ=>dH H.pan s fun s=>some (.panic v s μ)
def sM (P:Program)(ρ:Rho)(H:Hints)(lv:List (Nat×Nat))(c:Code)(s:S)(μ:Mu):Option St:=
 bP P ρ H c s μ fun st=>match st with
  | .norm s μ=>dH lv s fun s=>some (.norm s μ)
  | .exit i s μ=>dH lv s fun s=>some (.exit i s μ)
  | .ret s μ=>dH H.res s fun s=>some (.ret s μ)
  | .panic v s μ=>dH H.pan s fun s=>some (.panic v s μ)
def jA:Nat→List LV→List (Nat×LV)
 |_,[]=>[]
 |n,v::r=>(n,v)::jA (n+1) r
def Jh (P:Program)(s:S):ResultVar→Option LV
 | .tmp t=>some (s.fr t)
 | .cell a t=>match s.fr a with
  | .loc i off=>bB P t (aH s.lam i) off
  |_=>none
def tI (P:Program)(s:S):List ResultVar→Option (List LV)
 |[]=>some []
 |x::r=>opt (Jh P s x) fun v=>opt (tI P s r) fun l=>some (v::l)
def eA (vs:List LV):LV:=
 match vs with
 |[v]=>v
 |vs=> .ltup (vs.map strip1)
def fR (P:Program)(rs:List ResultVar)(s:S)(μ:Mu):Option Out:=
 opt (tI P s rs) fun vs=>
 let v:=eA vs
 aB (oN v) (match s.pushed with
  |false=>some (.ret v μ)
  |true=>aB (fD μ.length v) (some (.ret v μ)))
def zZ (P:Program)(ρ:Rho)(H:Hints)(fn:Func)(c:Code)(args:List LV)(μ:Mu):Option Out:=
 aB (Nat.ble args.length fn.ntmps && dE fn.ntmps none c && !(fn.name == "runtime.NumGoroutine")) (
 bP P ρ H c {fr:=dP (jA 0 args),lam:=[],pushed:=false} μ fun st=>match st with
  | .norm s μ=>fR P fn.results.toList s μ
  | .ret s μ=>fR P fn.results.toList s μ
  | .panic v _ μ=>aB (below μ.length v) (some (.panic v μ))
  | .exit _ _ _=>none)
def jU {α:Type}(ρ:Rho)(t:Nat)(pv:Option CV)(s:S)(μ:Mu)(k:S→Mu→Option α):Option α:=
 match s.fr t with
 | .lclo f caps=>opt (fJ μ.length caps) fun args=>opt (dR μ.length s.lam) fun l=>
   opt (ρ.dcall f pv args (μ++[l])) fun μ2=>opt (dz μ2) fun q=>k {s with lam:=q.2,pushed:=true} q.1
 |_=>none
def yg (P:Program)(ρ:Rho)(t:Nat)(rs:List ResultVar)(st:St):Option Out:=
 match st with
 | .norm s μ=>jU ρ t none s μ fun s μ=>fR P rs s μ
 | .ret s μ=>jU ρ t none s μ fun s μ=>fR P rs s μ
 | .panic v s μ=>jU ρ t (some v) s μ fun s μ=>fR P rs s μ
 | .exit _ _ _=>none
def PB:LV→Bool
 | .lclo _ _=>true
 |_=>false
def yl (t:Nat)(o:Oper):Bool:=
 match o.guard,o.dst,o.op with
 |none,none,.defer c=>match c.callee with
  | .value (.tmp u)=>match c.args.toList with|[]=>Nat.beq u t|_=>false
  |_=>false
 |_,_,_=>false
def oI (P:Program)(ρ:Rho)(H:Hints)(fn:Func)(c:Code)(t:Nat)(args:List LV)(μ:Mu):Option Out:=
 match c with
 | .seq a (.seq (.region id ops draw) b)=>match draw with
  |true=>none
  |false=>match ops[ops.size-1]? with
   |none=>none
   | some o => aB (Nat.ble args.length fn.ntmps && dE fn.ntmps none a && lN fn.ntmps none ops.toList && dE fn.ntmps (some t) b && !(fn.name == "runtime.NumGoroutine") && yl t o) (
    bP P ρ H a {fr:=dP (jA 0 args),lam:=[],pushed:=false} μ fun st=>match st with
     | .norm s μ=>eM P ρ H id ops (List.range (ops.size-1)) s μ (fun s μ=>aB (PB (s.fr t)) (bP P ρ H b s μ (yg P ρ t fn.results.toList))) (fun _ _ _=>none)
     |_=>none)
 |_=>none
def sc (o:Oper):Bool:=
 match o.guard,o.op with
 |none,.call c=>match c.callee with| .builtin .recover=>true|_=>false
 |_,_=>false
def Co (pv:Option CV):LV:=match pv with|some v=> .cv v|none=> .cv (.v .nilIface)
def oK (P:Program)(ρ:Rho)(H:Hints)(fn:Func)(c:Code)(pv:Option CV)(args:List LV)(μ:Mu):Option Mu:=
 match c with
 | .seq (.region id ops draw) b=>match draw with
  |true=>none
  |false=>match ops[0]? with
   |none=>none
   | some o => aB (Nat.ble args.length fn.ntmps && lN fn.ntmps none ops.toList && dE fn.ntmps none b && !(fn.name == "runtime.NumGoroutine") && sc o && fn.results.isEmpty) (
    eM P ρ H id ops (List.range' 1 (ops.size-1)) (S.put {fr:=dP (jA 0 args),lam:=[],pushed:=false} o.dst (Co pv)) μ
     (fun s μ => bP P ρ H b s μ fun st => match st with
      | .norm s μ=>some μ
      | .ret s μ=>some μ
      |_=>none) (fun _ _ _=>none))
 |_=>none
structure Env where
 P:Program
 hints:FuncId→Hints
 prim:FuncId→Option (List LV→Mu→Option Out)
def aC (E:Env)(ρ:Rho)(f:FuncId)(args:List LV)(μ:Mu):Option Out:=
 match E.prim f with
 |some g=>g args μ
 |none=>match E.P.funcs[f]? with
  |some fn=>match fn.body with
   |some c=>match(E.hints f).dfr with
    |none=>zZ E.P ρ (E.hints f) fn c args μ
    |some t=>oI E.P ρ (E.hints f) fn c t args μ
   |none=>none
  |none=>none
def gd (E:Env)(ρ:Rho)(f:FuncId)(pv:Option CV)(args:List LV)(μ:Mu):Option Mu:=
 match E.P.funcs[f]? with
 |some fn=>match fn.body with
  |some c=>oK E.P ρ (E.hints f) fn c pv args μ
  |none=>none
 |none=>none
def evn (E:Env):Nat→Rho
 |0=>{call:=fun _ _ _=>none,loop:=fun _ _ _ _ _=>none,seg:=fun _ _ _ _ _=>none,dcall:=fun _ _ _ _=>none}
 |n+1=>{call:=aC E (evn E n),loop:=fun H lv c s μ=>lP E.P (evn E n) H lv c s μ,seg:=fun H lv c s μ=>sM E.P (evn E n) H lv c s μ,dcall:=gd E (evn E n)}
end Go.Abs
set_option linter.unusedVariables false
namespace Go.Abs
open Go
structure Gh where
 O:Nat→Nat
 β:Nat→Nat→Nat
 n:Nat→Nat
 sz:Nat→Nat→Nat
section
variable (G:Gh)(w:World)
mutual
def VR:CV→Value→Prop
 | .undef,_=>True
 | .v x,c=>c=x
 | .agg cs,c=> ∃vs:Array Value,c= .agg vs∧VRL cs vs.toList
 | .sl xs,c=> ∃A len cap,c= .slice A len cap∧len=xs.length∧len≤cap∧(len=0∨ ∃b off s,A=some ⟨b,off,none⟩∧(∀x∈xs,x.cells.length=s)∧EL b s off xs)
 | .view cs,c=> ∃b off,c= .pointer (some ⟨b,off,none⟩)∧CL b off cs
 | .ref lev i off,c=>i<G.n lev∧c= .pointer (some ⟨G.β lev i,off,none⟩)
 | .msl lev i off len,c=>i<G.n lev∧ ∃cap cur e fz,c= .slice (some ⟨G.β lev i,off,none⟩) len cap∧len≤cap∧w.heap[G.β lev i]? =some (.cells cur e fz)∧off+cap*G.sz lev i≤cur.size
 | .clo f caps,c=> ∃vs:Array Value,c= .func (.func f) #[] vs∧VRL caps vs.toList
 | .iface t x,c=> ∃v,c= .iface t v∧VR x v
 | .mview ks vs,c=> ∃r es clk,c= .map (some r)∧w.heap[r]? =some (.map es clk)∧0<G.O r∧es.toList.map MapEntry.key=ks∧VRL vs (es.toList.map MapEntry.val)
 | .mref lev i,c=>i<G.n lev∧c= .map (some (G.β lev i))
 | .tref lev i t n,c=>i<G.n lev∧c= .pointer (some ⟨G.β lev i,0,none⟩)∧ ∃cur fz,w.heap[G.β lev i]? =some (.cells cur t fz)∧cur.size=n
def VRL:List CV→List Value→Prop
 |[],vs=>vs=[]
 |c::cs,vs=> ∃v r,vs=v::r∧VR c v∧VRL cs r
def CL (b:Nat):Nat→List CV→Prop
 |_,[]=>True
 |off,c::r=>(∃v,w.cell? ⟨b,off,none⟩=some v∧off<G.O b∧VR c v)∧CL b (off+1) r
def EL (b s:Nat):Nat→List CV→Prop
 |_,[]=>True
 | off, x :: r => (match x with
  | .agg cs=>CL b off cs
  |c=> ∃v,w.cell? ⟨b,off,none⟩=some v∧off<G.O b∧VR c v)∧EL b s (off+s) r
end
end
def k7 (G:Gh)(w:World)(xs:List CV)(v:Value):Prop:=
 (xs=[]∧v= .slice none 0 0)∨
 ∃b cap cur e s,v= .slice (some ⟨b,0,none⟩) xs.length cap∧w.heap[b]? =some (.cells cur e (0,0))∧xs.length≤cap∧cap≤maxLen∧
  cap*s≤cur.size∧(∀x∈xs,x.cells.length=s)∧(xs=[]→cap=0)∧EL G w b s 0 xs∧G.O b=xs.length*s∧((bk xs).isSome=true→xs≠[]→e=5)
theorem yP {e:TypeId}{xs:List CV}(h:(Nat.beq e 5||iU xs)=true):(bk xs).isSome=true→xs≠[]→e=5:=by
 intro hb hne
 rw[Bool.or_eq_true]at h
 rcases h with h|h
 ·exact Nat.eq_of_beq_eq_true h
 ·exfalso
  cases xs with
  |nil=>exact hne rfl
  |cons y r=>
   simp only[iU]at h
   unfold noB at h
   split at h
   ·cases h
   ·rename_i hy
    unfold bk at hb
    split at hb
    ·rename_i heq;cases heq
    ·rename_i n r' heq
     injection heq with h1 h2
     exact hy n h1
    ·simp at hb
theorem qL: ∀(xs ys:List CV),(bk (xs++ys)).isSome=true→(bk xs).isSome=true
 |[],ys,_=>rfl
 |y::r,ys,h=>by
  rw[List.cons_append]at h
  unfold bk at h ⊢
  split at h
  ·rename_i heq;cases heq
  ·rename_i n r' heq
   injection heq with h1 h2
   subst h1 h2
   simp only
   split at h
   ·have:(bk (r++ys)).isSome=true:=by
     cases hx:bk (r++ys)with
     |none=>rw[hx]at h;simp[opt]at h
     |some l=>rfl
    have:=qL r ys this
    cases hx:bk r with
    |none=>rw[hx]at this;cases this
    |some l=>rfl
   ·cases h
  ·simp at h
theorem qM: ∀(xs ys:List CV),(bk (xs++ys)).isSome=true→(bk ys).isSome=true
 |[],ys,h=>h
 |y::r,ys,h=>by
  rw[List.cons_append]at h
  unfold bk at h
  split at h
  ·rename_i heq;cases heq
  ·rename_i n r' heq
   injection heq with h1 h2
   subst h2
   split at h
   ·refine qM r ys ?_
    cases hx:bk (r++ys)with
    |none=>rw[hx]at h;simp[opt]at h
    |some l=>rfl
   ·cases h
  ·simp at h
theorem C3 {e:TypeId}{xs ys:List CV}(h:(Nat.beq e 5||iU ys)=true)(hne:ys≠[]):(bk (xs++ys)).isSome=true→xs++ys≠[]→e=5:=
 fun h1 _=>yP h (qM xs ys h1) hne
def oD (G:Gh)(w:World)(xs:List Value)(v:Value):Prop:=
 (xs=[]∧v= .slice none 0 0)∨
 ∃b cap cur e,v= .slice (some ⟨b,0,none⟩) xs.length cap∧w.heap[b]? =some (.cells cur e (0,0))∧xs.length≤cap∧cap≤maxLen∧cap≤cur.size∧G.O b=0∧ ∀(j:Nat) x,xs[j]? =some x→cur.getD j undef=x
mutual
def LVR (G:Gh)(w:World)(L nl:Nat):LV→Value→Prop
 | .cv c,v=>VR G w c v
 | .osl xs,v=>k7 G w xs v
 | .ost xs,v=>oD G w xs v
 | .stl n,v=> ∃A cap,v= .slice A n cap
 | .loc i off,v=>i<nl∧v= .pointer (some ⟨G.β L i,off,none⟩)
 | .lsl i off len,v=>i<nl∧ ∃cap cur e fz,v= .slice (some ⟨G.β L i,off,none⟩) len cap∧len≤cap∧cap≤maxLen∧w.heap[G.β L i]? =some (.cells cur e fz)∧off+cap*G.sz L i≤cur.size
 | .lclo f caps,v=> ∃vs:Array Value,v= .func (.func f) #[] vs∧bV G w L nl caps vs.toList
 | .ltup xs,v=> ∃vs:Array Value,v= .tuple vs∧bV G w L nl xs vs.toList
 | .mloc i,v=>i<nl∧v= .map (some (G.β L i))
 | .tloc i t n,v=>i<nl∧v= .pointer (some ⟨G.β L i,0,none⟩)∧ ∃cur fz,w.heap[G.β L i]? =some (.cells cur t fz)∧cur.size=n
def bV (G:Gh)(w:World)(L nl:Nat):List LV→List Value→Prop
 |[],vs=>vs=[]
 |c::cs,vs=> ∃v r,vs=v::r∧nM c=false∧LVR G w L nl c v∧bV G w L nl cs r
end
def d7 (cur:Array Value)(fz:Nat×Nat):Prop:= ∀j,j<cur.size→ ¬(fz.1≤j∧j<fz.2)
def rb (G:Gh)(w:World)(ks:List Value)(vs:List CV)(es:Array MapEntry):Prop:=es.toList.map MapEntry.key=ks∧VRL G w vs (es.toList.map MapEntry.val)
def ObR (G:Gh)(w:World)(L nl:Nat)(b sz:Nat):Ob→Prop
 | .dead=>True
 | .cells cs=> ∃cur e fz,w.heap[b]? =some (.cells cur e fz)∧d7 cur fz∧G.O b=0∧cs.length≤cur.size∧ ∀j x,cs[j]? =some x→LVR G w L nl x (cur.getD j undef)
 | .arr k cs=>k=sz∧ ∃cur e fz,w.heap[b]? =some (.cells cur e fz)∧d7 cur fz∧G.O b=0∧cs.length≤cur.size∧ ∀j x,cs[j]? =some x→VR G w x (cur.getD j undef)
 | .map ks vs=> ∃es clk,w.heap[b]? =some (.map es clk)∧G.O b=0∧rb G w ks vs es
def aE:LV→Value→Nat→Prop
 | .osl _,.slice (some a) _ _,b=>a.block=b
 | .ost _,.slice (some a) _ _,b=>a.block=b
 |_,_,_=>False
inductive Loc where
 |fr (t:Nat)
 |ob (lev i k:Nat)
def Gh.below (G:Gh)(lev:Nat):Gh:={G with n:=fun l=>if l≤lev then G.n l else 0}
def aD (H:Mu)(lev i:Nat):Ob:=a8 H lev i
def ax (G:Gh)(w:World)(fr:Fr)(tm:Array Value)(H:Mu):Loc→Nat→Prop
 | .fr t,b=>aE (fr t) (tm.getD t undef) b
 | .ob lev i k,b=>match aD H lev i with
  | .cells cs=>match cs[k]? with
   |some x=> ∃cur e fz,w.heap[G.β lev i]? =some (.cells cur e fz)∧aE x (cur.getD k undef) b
   |none=>False
  |_=>False
def aK:Ob→Prop
 | .dead=>False
 |_=>True
def fb (G:Gh)(w:World)(fr:Fr)(tm:Array Value)(H:Mu)(b:Nat):Prop:=
 (∃l,ax G w fr tm H l b)∨ ∃lev i,aK (aD H lev i)∧G.β lev i=b
structure Rel (G:Gh) (L:Nat) (s:S) (μ:Mu) (tm:Array Value) (w:World):Prop where
 lev:μ.length=L
 fr: ∀t,LVR G w L s.lam.length (s.fr t) (tm.getD t undef)
 lam: ∀i,ObR G w L s.lam.length (G.β L i) (G.sz L i) (aH s.lam i)
 mu: ∀lev i,lev<L→ObR (G.below lev) w lev 0 (G.β lev i) (G.sz lev i) (a8 μ lev i)
 inj: ∀lev i lev' i',aK (aD (μ++[s.lam]) lev i)→aK (aD (μ++[s.lam]) lev' i')→G.β lev i=G.β lev' i'→lev=lev'∧i=i'
 own: ∀l l' b,ax G w s.fr tm (μ++[s.lam]) l b→ax G w s.fr tm (μ++[s.lam]) l' b→l=l'
 apart: ∀l b lev i,ax G w s.fr tm (μ++[s.lam]) l b→aK (aD (μ++[s.lam]) lev i)→G.β lev i≠b
 nlt: ∀lev,lev<L→G.n lev=(μ.getD lev []).length
 nL:G.n L=if s.pushed then s.lam.length else 0
 ngt: ∀lev,L<lev→G.n lev=0
structure Le (G:Gh) (w:World) (G':Gh) (w':World):Prop where
 map: ∀(b:Nat) (es:Array MapEntry) (clk:Nat),0<G.O b→w.heap[b]? =some (.map es clk)→0<G'.O b∧w'.heap[b]? =some (.map es clk)
 ref: ∀lev i,i<G.n lev→i<G'.n lev∧G'.β lev i=G.β lev i∧G'.sz lev i=G.sz lev i
 imm: ∀(b off:Nat) (v:Value),off<G.O b→w.cell? ⟨b,off,none⟩=some v→off<G'.O b∧w'.cell? ⟨b,off,none⟩=some v
 blk: ∀(b:Nat) (cur:Array Value) (e:TypeId) (fz:Nat×Nat),w.heap[b]? =some (.cells cur e fz)→ ∃(cur':Array Value) (fz':Nat×Nat),w'.heap[b]? =some (.cells cur' e fz')∧cur'.size=cur.size
theorem Le.refl (G:Gh)(w:World):Le G w G w:=⟨fun _ _ _ h hb=>⟨h,hb⟩,fun _ _ h=>⟨h,rfl,rfl⟩,fun _ _ _ h hc=>⟨h,hc⟩,fun b cur e fz h=>⟨cur,fz,h,rfl⟩⟩
theorem Le.trans {G G1 G2:Gh}{w w1 w2:World}(a:Le G w G1 w1)(b:Le G1 w1 G2 w2):Le G w G2 w2:=by
 refine⟨fun bl es clk h hb=> ?_,fun lev i h=> ?_,fun bl off v h hc=> ?_,fun bl cur e fz h=> ?_⟩
 ·obtain⟨h1,h2⟩:=a.map bl es clk h hb
  exact b.map bl es clk h1 h2
 ·obtain⟨h1,h2,h3⟩:=a.ref lev i h
  obtain⟨k1,k2,k3⟩:=b.ref lev i h1
  exact⟨k1,k2.trans h2,k3.trans h3⟩
 ·obtain⟨h1,h2⟩:=a.imm bl off v h hc
  exact b.imm bl off v h1 h2
 ·obtain⟨c1,f1,h1,e1⟩:=a.blk bl cur e fz h
  obtain⟨c2,f2,h2,e2⟩:=b.blk bl c1 e f1 h1
  exact⟨c2,f2,h2,e2.trans e1⟩
section
variable {G G':Gh}{w w':World}(h:Le G w G' w')
include h
mutual
theorem bm: ∀(c:CV) (v:Value),VR G w c v→VR G' w' c v
 | .undef,v,_=>by simp[VR]
 | .v x,v,hv=>by simpa[VR]using hv
 | .agg cs,v,hv=>by
  simp only[VR]at hv ⊢
  obtain⟨vs,e,hl⟩:=hv
  exact⟨vs,e,gj cs _ hl⟩
 | .sl xs,v,hv=>by
  simp only[VR]at hv ⊢
  obtain⟨A,len,cap,e,h1,h2,h3⟩:=hv
  refine⟨A,len,cap,e,h1,h2,h3.imp id ?_⟩
  rintro⟨b,off,s,e1,hs,hl⟩
  exact⟨b,off,s,e1,hs,d6 b s off xs hl⟩
 | .view cs,v,hv=>by
  simp only[VR]at hv ⊢
  obtain⟨b,off,e,hl⟩:=hv
  exact⟨b,off,e,xL b off cs hl⟩
 | .ref lev i off,v,hv=>by
  simp only[VR]at hv ⊢
  obtain⟨h1,e⟩:=hv
  obtain⟨a,b,_⟩:=h.ref lev i h1
  exact⟨a,by rw[b];exact e⟩
 | .msl lev i off len,v,hv=>by
  simp only[VR]at hv ⊢
  obtain⟨h1,cap,cur,e,fz,hv,hc,hb,hs⟩:=hv
  obtain⟨a,b,c⟩:=h.ref lev i h1
  obtain⟨cur',fz',hb',hs'⟩:=h.blk _ _ _ _ hb
  exact⟨a,cap,cur',e,fz',by rw[b];exact hv,hc,by rw[b];exact hb',by rw[hs',c];exact hs⟩
 | .clo f caps,v,hv=>by
  simp only[VR]at hv ⊢
  obtain⟨vs,e,hl⟩:=hv
  exact⟨vs,e,gj caps _ hl⟩
 | .iface t x,v,hv=>by
  simp only[VR]at hv ⊢
  obtain⟨u,e,hl⟩:=hv
  exact⟨u,e,bm x u hl⟩
 | .mview ks vs,v,hv=>by
  simp only[VR]at hv ⊢
  obtain⟨r,es,clk,e,h1,h2,h3,h4⟩:=hv
  obtain⟨k1,k2⟩:=h.map r es clk h2 h1
  exact⟨r,es,clk,e,k2,k1,h3,gj vs _ h4⟩
 | .mref lev i,v,hv=>by
  simp only[VR]at hv ⊢
  obtain⟨h1,e⟩:=hv
  obtain⟨a,b,_⟩:=h.ref lev i h1
  exact⟨a,by rw[b];exact e⟩
 | .tref lev i t n,v,hv=>by
  simp only[VR]at hv ⊢
  obtain⟨h1,e,cur,fz,h2,h3⟩:=hv
  obtain⟨a,b,_⟩:=h.ref lev i h1
  obtain⟨cur',fz',hb',hs'⟩:=h.blk _ _ _ _ h2
  exact⟨a,by rw[b];exact e,cur',fz',by rw[b];exact hb',by rw[hs',h3]⟩
theorem gj: ∀(cs:List CV) (vs:List Value),VRL G w cs vs→VRL G' w' cs vs
 |[],vs,hv=>by simpa[VRL]using hv
 |c::cs,vs,hv=>by
  simp only[VRL]at hv ⊢
  obtain⟨v,r,e,h1,h2⟩:=hv
  exact⟨v,r,e,bm c v h1,gj cs r h2⟩
theorem xL (b:Nat): ∀(off:Nat) (cs:List CV),CL G w b off cs→CL G' w' b off cs
 |_,[],_=>by simp[CL]
 |off,c::cs,hv=>by
  simp only[CL]at hv ⊢
  obtain⟨⟨v,hc,ho,h1⟩,h2⟩:=hv
  obtain⟨a,b⟩:=h.imm _ _ _ ho hc
  exact⟨⟨v,b,a,bm c v h1⟩,xL _ (off+1) cs h2⟩
theorem d6 (b s:Nat): ∀(off:Nat) (cs:List CV),EL G w b s off cs→EL G' w' b s off cs
 |_,[],_=>by simp[EL]
 |off,.agg cs::r,hv=>by
  simp only[EL]at hv ⊢
  exact⟨xL b off cs hv.1,d6 b s (off+s) r hv.2⟩
 |off,.undef::r,hv=>by
  simp only[EL]at hv ⊢
  obtain⟨⟨v,hc,ho,h1⟩,h2⟩:=hv
  obtain⟨a,b⟩:=h.imm _ _ _ ho hc
  exact⟨⟨v,b,a,by simp[VR]⟩,d6 _ s (off+s) r h2⟩
 |off,.v x::r,hv=>by
  simp only[EL]at hv ⊢
  obtain⟨⟨v,hc,ho,h1⟩,h2⟩:=hv
  obtain⟨a,b⟩:=h.imm _ _ _ ho hc
  exact⟨⟨v,b,a,bm (.v x) v h1⟩,d6 _ s (off+s) r h2⟩
 |off,.sl x::r,hv=>by
  simp only[EL]at hv ⊢
  obtain⟨⟨v,hc,ho,h1⟩,h2⟩:=hv
  obtain⟨a,b⟩:=h.imm _ _ _ ho hc
  exact⟨⟨v,b,a,bm (.sl x) v h1⟩,d6 _ s (off+s) r h2⟩
 |off,.view x::r,hv=>by
  simp only[EL]at hv ⊢
  obtain⟨⟨v,hc,ho,h1⟩,h2⟩:=hv
  obtain⟨a,b⟩:=h.imm _ _ _ ho hc
  exact⟨⟨v,b,a,bm (.view x) v h1⟩,d6 _ s (off+s) r h2⟩
 |off,.ref x y z::r,hv=>by
  simp only[EL]at hv ⊢
  obtain⟨⟨v,hc,ho,h1⟩,h2⟩:=hv
  obtain⟨a,b⟩:=h.imm _ _ _ ho hc
  exact⟨⟨v,b,a,bm (.ref x y z) v h1⟩,d6 _ s (off+s) r h2⟩
 |off,.msl x y z l::r,hv=>by
  simp only[EL]at hv ⊢
  obtain⟨⟨v,hc,ho,h1⟩,h2⟩:=hv
  obtain⟨a,b⟩:=h.imm _ _ _ ho hc
  exact⟨⟨v,b,a,bm (.msl x y z l) v h1⟩,d6 _ s (off+s) r h2⟩
 |off,.clo f x::r,hv=>by
  simp only[EL]at hv ⊢
  obtain⟨⟨v,hc,ho,h1⟩,h2⟩:=hv
  obtain⟨a,b⟩:=h.imm _ _ _ ho hc
  exact⟨⟨v,b,a,bm (.clo f x) v h1⟩,d6 _ s (off+s) r h2⟩
 |off,.iface t x::r,hv=>by
  simp only[EL]at hv ⊢
  obtain⟨⟨v,hc,ho,h1⟩,h2⟩:=hv
  obtain⟨a,b⟩:=h.imm _ _ _ ho hc
  exact⟨⟨v,b,a,bm (.iface t x) v h1⟩,d6 _ s (off+s) r h2⟩
 |off,.mview x y::r,hv=>by
  simp only[EL]at hv ⊢
  obtain⟨⟨v,hc,ho,h1⟩,h2⟩:=hv
  obtain⟨a,b⟩:=h.imm _ _ _ ho hc
  exact⟨⟨v,b,a,bm (.mview x y) v h1⟩,d6 _ s (off+s) r h2⟩
 |off,.mref x y::r,hv=>by
  simp only[EL]at hv ⊢
  obtain⟨⟨v,hc,ho,h1⟩,h2⟩:=hv
  obtain⟨a,b⟩:=h.imm _ _ _ ho hc
  exact⟨⟨v,b,a,bm (.mref x y) v h1⟩,d6 _ s (off+s) r h2⟩
 |off,.tref x y t n::r,hv=>by
  simp only[EL]at hv ⊢
  obtain⟨⟨v,hc,ho,h1⟩,h2⟩:=hv
  obtain⟨a,b⟩:=h.imm _ _ _ ho hc
  exact⟨⟨v,b,a,bm (.tref x y t n) v h1⟩,d6 _ s (off+s) r h2⟩
end
theorem lr {ks:List Value}{vs:List CV}{es:Array MapEntry}(hm:rb G w ks vs es):rb G' w' ks vs es:=⟨hm.1,gj h vs _ hm.2⟩
end
end Go.Abs
set_option linter.unusedVariables false
namespace Go.Abs
open Go
structure Ext (L:Nat) (T:Nat→Prop) (G:Gh) (w:World) (G':Gh) (w':World) (T':Nat→Prop):Prop where
 le:Le G w G' w'
 os:w'.os=w.os
 tape:w'.tape=w.tape
 output:w'.output=w.output
 size:w.heap.size≤w'.heap.size
 keep: ∀b,b<w.heap.size→ ¬T b→w'.heap[b]? =w.heap[b]? ∧G'.O b=G.O b
 grow: ∀b,T' b→T b∨w.heap.size≤b
 lev: ∀l,l<L→(∀i,G'.β l i=G.β l i∧G'.sz l i=G.sz l i)∧G'.n l=G.n l
theorem Ext.refl {L:Nat}{T T':Nat→Prop}(G:Gh)(w:World)(h: ∀b,T' b→T b):Ext L T G w G w T':=
 ⟨Le.refl G w,rfl,rfl,rfl,Nat.le_refl _,fun _ _ _=>⟨rfl,rfl⟩,fun b hb=> .inl (h b hb),fun _ _=>⟨fun _=>⟨rfl,rfl⟩,rfl⟩⟩
theorem Ext.trans {L:Nat}{T T1 T2:Nat→Prop}{G G1 G2:Gh}{w w1 w2:World}(a:Ext L T G w G1 w1 T1)(b:Ext L T1 G1 w1 G2 w2 T2):Ext L T G w G2 w2 T2:=by
 refine⟨a.le.trans b.le,b.os.trans a.os,b.tape.trans a.tape,b.output.trans a.output,Nat.le_trans a.size b.size,fun x hx hT=> ?_,fun x hx=> ?_,fun l hl=> ?_⟩
 ·obtain⟨h1,h2⟩:=a.keep x hx hT
  have h3: ¬T1 x:=fun h=>by
   rcases a.grow x h with h|h
   ·exact hT h
   ·omega
  obtain⟨h4,h5⟩:=b.keep x (Nat.lt_of_lt_of_le hx a.size) h3
  exact⟨h4.trans h1,h5.trans h2⟩
 ·rcases b.grow x hx with h|h
  ·exact a.grow x h
  ·exact .inr (Nat.le_trans a.size h)
 ·obtain⟨h1,h2⟩:=a.lev l hl
  obtain⟨h3,h4⟩:=b.lev l hl
  exact⟨fun i=>⟨(h3 i).1.trans (h1 i).1,(h3 i).2.trans (h1 i).2⟩,h4.trans h2⟩
theorem Ext.drew {L:Nat}{T T':Nat→Prop}{G G':Gh}{w w':World}(h:Ext L T G w G' w' T'):Ext L T G w G' w'.drew T':=
 ⟨⟨h.le.map,h.le.ref,h.le.imm,h.le.blk⟩,h.os,h.tape,h.output,h.size,h.keep,h.grow,h.lev⟩
theorem Ext.weaken {L:Nat}{T T1 T' T1':Nat→Prop}{G G':Gh}{w w':World}(h:Ext L T G w G' w' T')(h1: ∀b,T b→T1 b)(h2: ∀b,T1' b→T' b):Ext L T1 G w G' w' T1':=
 ⟨h.le,h.os,h.tape,h.output,h.size,fun b hb hn=>h.keep b hb fun ht=>hn (h1 b ht),fun b hb=>(h.grow b (h2 b hb)).imp (h1 b) id,h.lev⟩
section
variable {G G':Gh}{w w':World}{L nl nl':Nat}
theorem jN (h:Le G w G' w'){xs:List CV}{v:Value}(ho: ∀a n c,v= .slice (some a) n c→w'.heap[a.block]? =w.heap[a.block]? ∧G'.O a.block=G.O a.block)(hv:k7 G w xs v):k7 G' w' xs v:=by
 rcases hv with hv|⟨b,cap,cur,e,s,rfl,hb,h1,h2,h3,h4,h5,h6,h7,h8⟩
 ·exact .inl hv
 ·obtain⟨k1,k2⟩:=ho _ _ _ rfl
  exact .inr ⟨b,cap,cur,e,s,rfl,k1.trans hb,h1,h2,h3,h4,h5,d6 h b s 0 xs h6,k2.trans h7,h8⟩
theorem rc {xs:List Value}{v:Value}(ho: ∀a n c,v= .slice (some a) n c→w'.heap[a.block]? =w.heap[a.block]? ∧G'.O a.block=G.O a.block)(hv:oD G w xs v):oD G' w' xs v:=by
 rcases hv with hv|⟨b,cap,cur,e,rfl,hb,h1,h2,h3,h4,h5⟩
 ·exact .inl hv
 ·obtain⟨k1,k2⟩:=ho _ _ _ rfl
  exact .inr ⟨b,cap,cur,e,rfl,k1.trans hb,h1,h2,h3,k2.trans h4,h5⟩
theorem mN {x:LV}{v:Value}{b:Nat}(h:nM x=false): ¬aE x v b:=by
 cases x<;>simp[aE]at h ⊢
mutual
theorem cY (h:Le G w G' w')(hn:nl≤nl')(hβ: ∀i,i<nl→G'.β L i=G.β L i∧G'.sz L i=G.sz L i): ∀(x:LV) (v:Value),
  (∀b,aE x v b→w'.heap[b]? =w.heap[b]? ∧G'.O b=G.O b)→LVR G w L nl x v→LVR G' w' L nl' x v
 | .cv c,v,ho,hv=>by simp only[LVR]at hv ⊢; exact bm h c v hv
 | .osl xs,v,ho,hv=>by
  simp only[LVR]at hv ⊢
  exact jN h (fun a n c e=>ho a.block (by subst e;simp[aE])) hv
 | .ost xs,v,ho,hv=>by
  simp only[LVR]at hv ⊢
  exact rc (fun a n c e=>ho a.block (by subst e;simp[aE])) hv
 | .stl n,v,ho,hv=>by simpa[LVR]using hv
 | .loc i off,v,ho,hv=>by
  simp only[LVR]at hv ⊢
  exact⟨by omega,by rw[(hβ i hv.1).1];exact hv.2⟩
 | .lsl i off len,v,ho,hv=>by
  simp only[LVR]at hv ⊢
  obtain⟨h0,cap,cur,e,fz,h1,h2,h2',h3,h4⟩:=hv
  obtain⟨cur',fz',hb',hs'⟩:=h.blk _ _ _ _ h3
  refine⟨by omega,cap,cur',e,fz',by rw[(hβ i h0).1];exact h1,h2,h2',by rw[(hβ i h0).1];exact hb',by rw[hs',(hβ i h0).2];exact h4⟩
 | .lclo f caps,v,ho,hv=>by
  simp only[LVR]at hv ⊢
  obtain⟨vs,e,hl⟩:=hv
  exact⟨vs,e,q7 h hn hβ caps _ hl⟩
 | .ltup xs,v,ho,hv=>by
  simp only[LVR]at hv ⊢
  obtain⟨vs,e,hl⟩:=hv
  exact⟨vs,e,q7 h hn hβ xs _ hl⟩
 | .mloc i,v,ho,hv=>by
  simp only[LVR]at hv ⊢
  exact⟨by omega,by rw[(hβ i hv.1).1];exact hv.2⟩
 | .tloc i t n,v,ho,hv=>by
  simp only[LVR]at hv ⊢
  obtain⟨h0,e,cur,fz,h2,h3⟩:=hv
  obtain⟨cur',fz',hb',hs'⟩:=h.blk _ _ _ _ h2
  exact⟨by omega,by rw[(hβ i h0).1];exact e,cur',fz',by rw[(hβ i h0).1];exact hb',by rw[hs',h3]⟩
theorem q7 (h:Le G w G' w')(hn:nl≤nl')(hβ: ∀i,i<nl→G'.β L i=G.β L i∧G'.sz L i=G.sz L i): ∀(xs:List LV) (vs:List Value),
  bV G w L nl xs vs→bV G' w' L nl' xs vs
 |[],vs,hv=>by simpa[bV]using hv
 |x::xs,vs,hv=>by
  simp only[bV]at hv ⊢
  obtain⟨v,r,e,h0,h1,h2⟩:=hv
  exact⟨v,r,e,h0,cY h hn hβ x v (fun b hb=>absurd hb (mN h0)) h1,q7 h hn hβ xs r h2⟩
end
theorem cH (h:Le G w G' w')(hn:nl≤nl')(hβ: ∀i,i<nl→G'.β L i=G.β L i∧G'.sz L i=G.sz L i){b sz:Nat}{o:Ob}
  (hb:aK o→w'.heap[b]? =w.heap[b]? ∧G'.O b=G.O b)
  (ho: ∀cs j x cur e fz,o= .cells cs→cs[j]? =some x→w.heap[b]? =some (.cells cur e fz)→ ∀b',aE x (cur.getD j undef) b'→w'.heap[b']? =w.heap[b']? ∧G'.O b'=G.O b')
  (hv:ObR G w L nl b sz o):ObR G' w' L nl' b sz o:=by
 cases o with
 |dead=>simp[ObR]
 |cells cs=>
  simp only[ObR]at hv ⊢
  obtain⟨cur,e,fz,h1,h2,h3,h4,h5⟩:=hv
  obtain⟨k1,k2⟩:=hb trivial
  exact⟨cur,e,fz,k1.trans h1,h2,k2.trans h3,h4,fun j x hx=>cY h hn hβ x _ (fun b' hb'=>ho cs j x cur e fz rfl hx h1 b' hb') (h5 j x hx)⟩
 |arr k cs=>
  simp only[ObR]at hv ⊢
  obtain⟨hk,cur,e,fz,h1,h2,h3,h4,h5⟩:=hv
  obtain⟨k1,k2⟩:=hb trivial
  exact⟨hk,cur,e,fz,k1.trans h1,h2,k2.trans h3,h4,fun j x hx=>bm h x _ (h5 j x hx)⟩
 |map ks vs=>
  simp only[ObR]at hv ⊢
  obtain⟨es,clk,h1,h2,h3⟩:=hv
  obtain⟨k1,k2⟩:=hb trivial
  exact⟨es,clk,k1.trans h1,k2.trans h2,lr h h3⟩
end
theorem Le.below {G G':Gh}{w w':World}(h:Le G w G' w')(lev:Nat):Le (G.below lev) w (G'.below lev) w':=by
 refine⟨h.map,fun l i hi=> ?_,h.imm,h.blk⟩
 simp only[Gh.below]at hi ⊢
 split at hi
 ·rename_i hl
  rw[if_pos hl]
  exact h.ref l i hi
 ·omega
theorem bz {μ:Mu}{l:Lam}{lev i:Nat}(h:lev<μ.length):a8 (μ++[l]) lev i=a8 μ lev i:=by
 simp[a8,List.getElem?_append_left h]
theorem bZ {μ:Mu}{l:Lam}{i:Nat}:a8 (μ++[l]) μ.length i=aH l i:=by
 simp[a8,aH]
theorem oW {μ:Mu}{l:Lam}{lev i:Nat}(h:μ.length<lev):a8 (μ++[l]) lev i= .dead:=by
 simp only[a8]
 rw[List.getElem?_eq_none (by simp;omega)]
theorem Rel.frame {G G':Gh}{w w':World}{L:Nat}{s:S}{μ:Mu}{tm:Array Value}(R:Rel G L s μ tm w)(hle:Le G w G' w')
  (hT: ∀b,fb G w s.fr tm (μ++[s.lam]) b→w'.heap[b]? =w.heap[b]? ∧G'.O b=G.O b)
  (hβ: ∀lev i,lev<L∨(lev=L∧i<s.lam.length)→G'.β lev i=G.β lev i∧G'.sz lev i=G.sz lev i) (hn:G'.n=G.n):
  Rel G' L s μ tm w'∧(∀l b,ax G' w' s.fr tm (μ++[s.lam]) l b→ax G w s.fr tm (μ++[s.lam]) l b):=by
 have hlive: ∀lev i,aK (aD (μ++[s.lam]) lev i)→lev<L∨(lev=L∧i<s.lam.length):=by
  intro lev i h
  rcases Nat.lt_trichotomy lev L with h1|h1|h1
  ·exact .inl h1
  ·subst h1
   refine .inr ⟨rfl,?_⟩
   rw[←R.lev]at h
   simp only[aD,bZ,aH]at h
   by_cases hi:i<s.lam.length
   ·exact hi
   ·rw[List.getElem?_eq_none (by omega)]at h
    exact h.elim
  ·rw[←R.lev]at h1
   simp only[aD,oW h1]at h
   exact h.elim
 have hown: ∀l b,ax G' w' s.fr tm (μ++[s.lam]) l b→ax G w s.fr tm (μ++[s.lam]) l b:=by
  intro l b h
  cases l with
  |fr t=>exact h
  |ob lev i k=>
   simp only[ax]at h ⊢
   split at h
   ·rename_i cs hcs
    have hl:aK (aD (μ++[s.lam]) lev i):=by rw[hcs];trivial
    split at h
    ·rename_i x hx
     obtain⟨cur,e,fz,hb,ho⟩:=h
     rw[(hβ lev i (hlive lev i hl)).1,(hT _ (.inr ⟨lev,i,hl,rfl⟩)).1]at hb
     exact⟨cur,e,fz,hb,ho⟩
    ·exact h
   ·exact h
 refine⟨⟨R.lev,fun t=> ?_,fun i=> ?_,fun lev i hl=> ?_,fun lev i lev' i' h h' e=> ?_,fun l l' b h h'=>R.own l l' b (hown l b h) (hown l' b h'),fun l b lev i h h' e=> ?_,?_,?_,?_⟩,hown⟩
 ·exact cY hle (Nat.le_refl _) (fun i hi=>hβ L i (.inr ⟨rfl,hi⟩)) _ _ (fun b hb=>hT b (.inl ⟨.fr t,hb⟩)) (R.fr t)
 ·have hob:=R.lam i
  have e1:aD (μ++[s.lam]) L i=aH s.lam i:=by rw[←R.lev];exact bZ
  by_cases hi:i<s.lam.length
  ·rw[(hβ L i (.inr ⟨rfl,hi⟩)).1,(hβ L i (.inr ⟨rfl,hi⟩)).2]
   refine cH hle (Nat.le_refl _) (fun i hi=>hβ L i (.inr ⟨rfl,hi⟩)) (fun hl=>hT _ (.inr ⟨L,i,by rw[e1];exact hl,rfl⟩)) (fun cs j x cur e fz ho hx hb b' hb'=>hT b' (.inl ⟨.ob L i j,?_⟩)) hob
   simp only[ax,e1,ho,hx]
   exact⟨cur,e,fz,hb,hb'⟩
  ·have:aH s.lam i= .dead:=by simp only[aH];rw[List.getElem?_eq_none (by omega)]
   rw[this]
   trivial
 ·have e1:aD (μ++[s.lam]) lev i=a8 μ lev i:=bz (by rw[R.lev];exact hl)
  have hob:=R.mu lev i hl
  rw[(hβ lev i (.inl hl)).1,(hβ lev i (.inl hl)).2]
  refine cH (hle.below lev) (Nat.le_refl _) (fun i hi=>by omega) (fun h=>hT _ (.inr ⟨lev,i,by rw[e1];exact h,rfl⟩)) (fun cs j x cur e fz ho hx hb b' hb'=>hT b' (.inl ⟨.ob lev i j,?_⟩)) hob
  simp only[ax,e1,ho,hx]
  exact⟨cur,e,fz,hb,hb'⟩
 ·rw[(hβ lev i (hlive lev i h)).1,(hβ lev' i' (hlive lev' i' h')).1]at e
  exact R.inj lev i lev' i' h h' e
 ·rw[(hβ lev i (hlive lev i h')).1]at e
  exact R.apart l b lev i (hown l b h) h' e
 ·rw[hn];exact R.nlt
 ·rw[hn];exact R.nL
 ·rw[hn];exact R.ngt
theorem fa (g:Fr)(t:Nat)(v:LV):upd g t v t=v:=by simp[upd,Nat.beq_refl]
theorem eu (g:Fr){t u:Nat}(v:LV)(h:u≠t):upd g t v u=g u:=by
 have:Nat.beq u t=false:=by cases e:Nat.beq u t with
  |false=>rfl
  |true=>exact absurd (Nat.eq_of_beq_eq_true e) h
 simp[upd,this]
theorem qQ (tm:Array Value){d:Nat}(v:Value)(h:d<tm.size):(tm.setIfInBounds d v).getD d undef=v:=by
 simp[Array.getD,h]
theorem oP (tm:Array Value){d t:Nat}(v:Value)(h:t≠d):(tm.setIfInBounds d v).getD t undef=tm.getD t undef:=by
 simp only[Array.getD_eq_getD_getElem?]
 rw[Array.getElem?_setIfInBounds_ne (by omega)]
theorem zP {G:Gh}{w:World}{b s:Nat}: ∀{off:Nat} {xs:List CV},EL G w b s off xs→ ∀j x,xs[j]? =some x→CL G w b (off+j*s) x.cells
 |off,[],_,j,x,hx=>by simp at hx
 |off,y::r,h,0,x,hx=>by
  simp only[List.getElem?_cons_zero,Option.some.injEq]at hx
  subst hx
  cases y<;>simp only[EL]at h<;>simp only[CV.cells,Nat.zero_mul,Nat.add_zero,CL,and_true]<;>first|exact h.1|exact h.1
 |off,y::r,h,j+1,x,hx=>by
  have h2:EL G w b s (off+s) r:=by cases y<;>simp only[EL]at h<;>exact h.2
  have:=zP h2 j x (by simpa using hx)
  rw[show off+(j+1)*s=off+s+j*s by rw[Nat.add_mul];omega]
  exact this
theorem gi {G:Gh}{w:World}{xs:List CV}{v:Value}(h:k7 G w xs v):VR G w (.sl xs) v:=by
 simp only[VR]
 rcases h with⟨rfl,rfl⟩|⟨b,cap,cur,e,s,rfl,hb,h1,h2,h3,h4,h5,h6,h7⟩
 ·exact⟨none,0,0,rfl,rfl,Nat.le_refl _,.inl rfl⟩
 ·exact⟨_,_,_,rfl,rfl,h1,.inr ⟨b,0,s,rfl,h4,h6⟩⟩
theorem tR {G:Gh}{w:World}{xs:List Value}{v:Value}(h:oD G w xs v): ∃A cap,v= .slice A xs.length cap:=by
 rcases h with⟨rfl,rfl⟩|⟨b,cap,cur,e,rfl,_⟩
 ·exact⟨none,0,rfl⟩
 ·exact⟨_,cap,rfl⟩
theorem iq {G:Gh}{w:World}{L nl:Nat}{x:LV}{v:Value}(h:LVR G w L nl x v):LVR G w L nl (strip1 x) v∧nM (strip1 x)=false:=by
 cases x<;>simp only[strip1,LVR]at h ⊢ <;>first
  |exact⟨h,by simp⟩
  |exact⟨gi h,by simp⟩
  |exact⟨tR h,by simp⟩
  |exact⟨by simp[VR],by simp⟩
theorem tQ {G:Gh}{w:World}{L nl:Nat}: ∀{xs:List LV} {vs:List Value},bV G w L nl xs vs→bV G w L nl (xs.map strip1) vs
 |[],vs,h=>by simpa[bV]using h
 |x::xs,vs,h=>by
  simp only[bV,List.map_cons]at h ⊢
  obtain⟨v,r,e,h0,h1,h2⟩:=h
  exact⟨v,r,e,(iq h1).2,(iq h1).1,tQ h2⟩
theorem jn {G:Gh}{w:World}{L nl:Nat}{x:LV}{v:Value}(h:LVR G w L nl x v):LVR G w L nl (strip x) v:=by
 cases x<;>simp only[strip,LVR]at h ⊢ <;>first
  |exact h
  |exact gi h
  |exact tR h
  |(obtain⟨vs,e,hl⟩:=h;exact⟨vs,e,tQ hl⟩)
theorem ir {x:LV}{v:Value}{b:Nat}: ¬aE (strip x) v b:=by
 cases x<;>simp[strip,aE]
theorem Rel.put {G:Gh}{w:World}{L:Nat}{s:S}{μ:Mu}{tm:Array Value}(R:Rel G L s μ tm w){d:Nat}{v:LV}{cv:Value}(hd:d<tm.size)
  (hv:LVR G w L s.lam.length v cv)
  (ho: ∀b,aE v cv b→(∀l,ax G w s.fr tm (μ++[s.lam]) l b→l= .fr d)∧ ∀lev i,aK (aD (μ++[s.lam]) lev i)→G.β lev i≠b):
  Rel G L (s.set d v) μ (tm.setIfInBounds d cv) w∧
  (∀b,fb G w (s.set d v).fr (tm.setIfInBounds d cv) (μ++[(s.set d v).lam]) b→fb G w s.fr tm (μ++[s.lam]) b∨aE v cv b):=by
 have hcase: ∀l b,ax G w (s.set d v).fr (tm.setIfInBounds d cv) (μ++[(s.set d v).lam]) l b→(l= .fr d∧aE v cv b)∨(l≠ .fr d∧ax G w s.fr tm (μ++[s.lam]) l b):=by
  intro l b h
  cases l with
  |fr t=>
   by_cases ht:t=d
   ·subst ht
    simp only[ax,S.set,fa,qQ tm cv hd]at h
    exact .inl ⟨rfl,h⟩
   ·simp only[ax,S.set,eu _ _ ht,oP tm cv ht]at h
    exact .inr ⟨by simpa using ht,h⟩
  |ob lev i k=>exact .inr ⟨by simp,h⟩
 refine⟨⟨R.lev,fun t=> ?_,R.lam,R.mu,R.inj,fun l l' b h h'=> ?_,fun l b lev i h h'=> ?_,R.nlt,R.nL,R.ngt⟩,fun b hb=> ?_⟩
 ·by_cases ht:t=d
  ·subst ht
   simp only[S.set,fa,qQ tm cv hd]
   exact hv
  ·simp only[S.set,eu _ _ ht,oP tm cv ht]
   exact R.fr t
 ·rcases hcase l b h with⟨e,h1⟩|⟨e,h1⟩<;>rcases hcase l' b h' with⟨e',h1'⟩|⟨e',h1'⟩
  ·rw[e,e']
  ·exact absurd ((ho b h1).1 l' h1') e'
  ·exact absurd ((ho b h1').1 l h1) e
  ·exact R.own l l' b h1 h1'
 ·rcases hcase l b h with⟨e,h1⟩|⟨e,h1⟩
  ·exact(ho b h1).2 lev i h'
  ·exact R.apart l b lev i h1 h'
 ·rcases hb with⟨l,hl⟩|h
  ·rcases hcase l b hl with⟨e,h1⟩|⟨e,h1⟩
   ·exact .inr h1
   ·exact .inl (.inl ⟨l,h1⟩)
  ·exact .inl (.inr h)
theorem Rel.strip1 {G:Gh}{w:World}{L:Nat}{s:S}{μ:Mu}{tm:Array Value}(R:Rel G L s μ tm w)(t:Nat):
  Rel G L (s.set t (strip (s.fr t))) μ tm w∧
  (∀l b,ax G w (s.set t (strip (s.fr t))).fr tm (μ++[s.lam]) l b→l≠ .fr t∧ax G w s.fr tm (μ++[s.lam]) l b):=by
 have hcase: ∀l b,ax G w (s.set t (strip (s.fr t))).fr tm (μ++[s.lam]) l b→l≠ .fr t∧ax G w s.fr tm (μ++[s.lam]) l b:=by
  intro l b h
  cases l with
  |fr u=>
   by_cases ht:u=t
   ·subst ht
    simp only[ax,S.set,fa]at h
    exact absurd h ir
   ·simp only[ax,S.set,eu _ _ ht]at h
    exact⟨by simpa using ht,h⟩
  |ob lev i k=>exact⟨by simp,h⟩
 refine⟨⟨R.lev,fun u=> ?_,R.lam,R.mu,R.inj,fun l l' b h h'=>R.own l l' b (hcase l b h).2 (hcase l' b h').2,fun l b lev i h h'=>R.apart l b lev i (hcase l b h).2 h',R.nlt,R.nL,R.ngt⟩,hcase⟩
 by_cases ht:u=t
 ·subst ht
  simp only[S.set,fa]
  exact jn (R.fr u)
 ·simp only[S.set,eu _ _ ht]
  exact R.fr u
theorem aU: ∀(ts:List Nat) (s:S),(ad ts s).lam=s.lam∧(ad ts s).pushed=s.pushed
 |[],s=>⟨rfl,rfl⟩
 |t::r,s=>by simpa[ad,S.set]using aU r (s.set t (strip (s.fr t)))
theorem Rel.strips {G:Gh}{w:World}{L:Nat}{μ:Mu}{tm:Array Value}: ∀(ts:List Nat) {s:S},Rel G L s μ tm w→
  Rel G L (ad ts s) μ tm w∧
  (∀l b,ax G w (ad ts s).fr tm (μ++[s.lam]) l b→(∀t,t∈ts→l≠ .fr t)∧ax G w s.fr tm (μ++[s.lam]) l b)
 |[],s,R=>⟨R,fun l b h=>⟨by simp,h⟩⟩
 |t::r,s,R=>by
  obtain⟨R1,h1⟩:=R.strip1 t
  obtain⟨R2,h2⟩:=Rel.strips r R1
  refine⟨R2,fun l b h=> ?_⟩
  obtain⟨a1,a2⟩:=h2 l b h
  obtain⟨b1,b2⟩:=h1 l b a2
  refine⟨fun u hu=> ?_,b2⟩
  rcases List.mem_cons.1 hu with rfl|hu
  ·exact b1
  ·exact a1 u hu
end Go.Abs
set_option linter.unusedVariables false
namespace Go.Abs
open Go
theorem ab {α β:Type}{x:Option α}{k:α→Option β}{r:β}:opt x k=some r↔ ∃a,x=some a∧k a=some r:=by
 cases x<;>simp[opt]
theorem aI {β:Type}{b:Bool}{k:Option β}{r:β}:aB b k=some r↔b=true∧k=some r:=by
 cases b<;>simp[aB]
theorem ji {l:List Nat}{t:Nat}:kK l t=true↔t∈l:=by
 induction l with
 |nil=>simp[kK]
 |cons a r ih=>
  simp only[kK,List.mem_cons]
  cases h:Nat.beq a t with
  |true=>simp[Nat.eq_of_beq_eq_true h]
  |false=>
   have:t≠a:=fun e=>by subst e;simp[Nat.beq_refl]at h
   simp[ih,this]
section
variable {G:Gh}{w:World}{L:Nat}
abbrev az (G:Gh)(w:World)(s:S)(μ:Mu)(tm:Array Value):Nat→Prop:=fb G w s.fr tm (μ++[s.lam])
theorem Pw (vs:List Value):VRL G w (vs.map .v) vs:=by
 induction vs with
 |nil=>simp[VRL]
 |cons v r ih=>simp only[List.map_cons,VRL];exact⟨v,r,rfl,by simp[VR],ih⟩
theorem RF (nl:Nat)(vs:List Value):bV G w L nl (vs.map fun c=> .cv (.v c)) vs:=by
 induction vs with
 |nil=>simp[bV]
 |cons v r ih=>simp only[List.map_cons,bV];exact⟨v,r,rfl,by simp,by simp[LVR,VR],ih⟩
theorem JL (nl:Nat)(v:Value):LVR G w L nl (gp v) v:=by
 cases v<;>simp only[gp,LVR,VR]
 ·exact⟨_,rfl,Pw _⟩
 ·exact⟨_,rfl,RF _ _⟩
theorem wo {v u:Value}{b:Nat}: ¬aE (gp v) u b:=by
 cases v<;>simp[gp,aE]
theorem aZ {s:S}{μ:Mu}{a:Act}(R:Rel G L s μ a.tmps w)(h:OpHint)(x:Operand):
  LVR G w L s.lam.length (evA h s.fr x) (a.eval x)∧ ∀b,aE (evA h s.fr x) (a.eval x) b→ ∃t,t∈h.take∧aE (s.fr t) (a.tmps.getD t undef) b:=by
 cases x with
 |tmp t=>
  simp only[evA,Act.eval]
  cases ht:kK h.take t with
  |true=>exact⟨R.fr t,fun b hb=>⟨t,ji.1 ht,hb⟩⟩
  |false=>exact⟨jn (R.fr t),fun b hb=>absurd hb ir⟩
 |const c=>exact⟨JL _ c,fun b hb=>absurd hb wo⟩
 |global g=>exact⟨by simp[evA,LVR,VR],fun b hb=>by simp[evA,aE]at hb⟩
 |func f=>exact⟨by simp only[evA,LVR,VR,Act.eval];exact⟨#[],rfl,by simp[VRL]⟩,fun b hb=>by simp[evA,aE]at hb⟩
theorem cx {G0:Gh}{w0:World}{T0:Nat→Prop}{s:S}{μ:Mu}{a:Act}{v:LV}{cv:Value}{dst:Option Tmp}(R:Rel G L s μ a.tmps w)
  (E:Ext L T0 G0 w0 G w (az G w s μ a.tmps)) (hv:LVR G w L s.lam.length v cv)
  (ho: ∀b,aE v cv b→(∀l,¬ax G w s.fr a.tmps (μ++[s.lam]) l b)∧(∀lev i,aK (aD (μ++[s.lam]) lev i)→G.β lev i≠b)∧(T0 b∨w0.heap.size≤b))
  (hd: ∀d,dst=some d→d<a.tmps.size):
  Rel G L (s.put dst v) μ (a.put dst cv).tmps w∧Ext L T0 G0 w0 G w (az G w (s.put dst v) μ (a.put dst cv).tmps):=by
 cases dst with
 |none=>exact⟨R,E⟩
 |some d=>
  obtain⟨R',h⟩:=R.put (hd d rfl) hv fun b hb=>⟨fun l hl=>absurd hl ((ho b hb).1 l),(ho b hb).2.1⟩
  refine⟨R',⟨E.le,E.os,E.tape,E.output,E.size,E.keep,fun b hb=> ?_,E.lev⟩⟩
  rcases h b hb with h|h
  ·exact E.grow b h
  ·exact(ho b h).2.2
theorem MO {s:S}{μ:Mu}{a:Act}{v:LV}{cv:Value}{dst:Option Tmp}{ts:List Nat}(R:Rel G L s μ a.tmps w)
  (hv:LVR G w L s.lam.length v cv) (ho: ∀b,aE v cv b→ ∃t,t∈ts∧aE (s.fr t) (a.tmps.getD t undef) b)
  (hd: ∀d,dst=some d→d<a.tmps.size):
  Rel G L ((ad ts s).put dst v) μ (a.put dst cv).tmps w∧
  Ext L (az G w s μ a.tmps) G w G w (az G w ((ad ts s).put dst v) μ (a.put dst cv).tmps):=by
 obtain⟨R',h⟩:=Rel.strips ts R
 have hl:=aU ts s
 refine cx R' (Ext.refl G w fun b hb=> ?_) (by rw[hl.1];exact hv) (fun b hb=> ?_) hd
 ·rcases hb with⟨l,hb⟩|hb
  ·exact .inl ⟨l,(h l b (by rw[←hl.1];exact hb)).2⟩
  ·exact .inr (by rw[←hl.1];exact hb)
 ·obtain⟨t,ht,ho⟩:=ho b hb
  refine⟨fun l hl'=> ?_,fun lev i hlv=> ?_,.inl (.inl ⟨.fr t,ho⟩)⟩
  ·obtain⟨h1,h2⟩:=h l b (by rw[←hl.1];exact hl')
   exact h1 t ht (R.own l (.fr t) b h2 ho)
  ·exact R.apart (.fr t) b lev i ho (by rw[←hl.1];exact hlv)
end
end Go.Abs
set_option linter.unusedVariables false
namespace Go.Abs
open Go
section
variable {G:Gh}{w:World}{L nl:Nat}
theorem g0 {k:IntKind}{x:LV}{n:Int}(h:aF k x=some n):x= .cv (.v (.int k n)):=by
 unfold aF at h
 split at h
 ·rename_i k' m
  cases hk:decide (k=k')with
  |true=>simp only[hk,Option.some.injEq]at h;simp only[decide_eq_true_eq]at hk;rw[h,hk]
  |false=>simp[hk]at h
 ·simp at h
theorem ft {x:LV}{b:Bool}(h:aM x=some b):x= .cv (.v (.bool b)):=by
 unfold aM at h;split at h<;>simp_all
theorem fv {x:LV}{l:List UInt8}(h:aL x=some l):x=LV.str l:=by
 unfold aL at h;split at h<;>simp_all
 subst h;rfl
theorem nF {x:LV}{n:Int}(h:lE x=some n): ∃k,x= .cv (.v (.int k n)):=by
 unfold lE at h;split at h<;>simp_all
theorem nI {x:LV}{cs:List CV}(h:lH x=some cs):x= .cv (.agg cs):=by
 unfold lH at h;split at h<;>simp_all
theorem yW {x:LV}{xs:List LV}(h:aS x=some xs):x= .ltup xs:=by
 unfold aS at h;split at h<;>simp_all
theorem qh {x:LV}{cs:List CV}(h:gD x=some cs):x= .cv (.view cs):=by
 unfold gD at h;split at h<;>simp_all
theorem nJ {x:LV}{q:Nat×Nat×Nat}(h:oS x=some q):x= .cv (.ref q.1 q.2.1 q.2.2):=by
 unfold oS at h;split at h<;>simp_all
 subst h;exact⟨rfl,rfl,rfl⟩
theorem Ls {x:LV}{q:Nat×Nat×Nat×Nat}(h:Bz x=some q):x= .cv (.msl q.1 q.2.1 q.2.2.1 q.2.2.2):=by
 unfold Bz at h;split at h<;>simp_all
 subst h;exact⟨rfl,rfl,rfl,rfl⟩
theorem JQ:VR G w (.sl []) (.slice none 0 0):=by
 simp only[VR];exact⟨none,0,0,rfl,rfl,Nat.le_refl _,.inl rfl⟩
theorem fu {x:LV}{xs:List CV}(h:bL x=some xs){v:Value}(hv:LVR G w L nl x v):VR G w (.sl xs) v:=by
 unfold bL at h
 split at h<;>simp only[Option.some.injEq,reduceCtorEq]at h<;>subst h
 ·simpa[LVR]using hv
 ·simp only[LVR,VR]at hv;subst hv;exact JQ
 ·exact gi hv
theorem iz {x:LV}{xs:List CV}(h:eX x=some xs){v:Value}(hv:LVR G w L nl x v):k7 G w xs v∧ ∀b,aE (.osl xs) v b→aE x v b:=by
 unfold eX at h
 split at h<;>simp only[Option.some.injEq,reduceCtorEq]at h<;>subst h
 ·exact⟨hv,fun b hb=>hb⟩
 ·simp only[LVR,VR]at hv;subst hv;exact⟨.inl ⟨rfl,rfl⟩,fun b hb=>by simp[aE]at hb⟩
theorem wM {x:LV}{xs:List Value}(h:wL x=some xs){v:Value}(hv:LVR G w L nl x v):LVR G w L nl (.ost xs) v∧ ∀b,aE (.ost xs) v b→aE x v b:=by
 unfold wL at h
 split at h<;>simp only[Option.some.injEq,reduceCtorEq]at h<;>subst h
 ·exact⟨hv,fun b hb=>hb⟩
 ·simp only[LVR,VR]at hv;subst hv;exact⟨by simp only[LVR];exact .inl ⟨rfl,rfl⟩,fun b hb=>by simp[aE]at hb⟩
theorem zA: ∀{cs:List CV} {vs:List Value},sV cs=some vs→cs=vs.map .v∧ ∀v∈vs,v.oneCell'=true
 |[],vs,h=>by simp only[sV,Option.some.injEq]at h;subst h;exact⟨rfl,fun v hv=>by simp at hv⟩
 |c::r,vs,h=>by
  unfold sV at h
  split at h<;>try(simp at h;done)
  ·rename_i e;cases e
  ·rename_i x r' e
   injection e with e1 e2
   subst e1 e2
   split at h<;>try(simp at h;done)
   rename_i hx
   obtain⟨l,h1,h2⟩:=ab.1 h
   simp only[Option.some.injEq]at h2
   subst h2
   obtain⟨h3,h4⟩:=zA h1
   refine⟨by rw[h3];rfl,fun v hv=> ?_⟩
   rcases List.mem_cons.1 hv with rfl|hv
   ·exact hx
   ·exact h4 v hv
theorem eQ {x:LV}{c:CV}(h:dm x=some c){v:Value}(hv:LVR G w L nl x v):VR G w c v:=by
 unfold dm at h
 split at h<;>simp only[Option.some.injEq,reduceCtorEq]at h<;>subst h
 ·simpa[LVR]using hv
 ·exact gi hv
theorem zE {α:Type}{l:List α}{q:α×List α}(h:aA l=some q):l=q.1::q.2:=by
 cases l<;>simp[aA]at h;subst h;rfl
theorem yX {α:Type}{l:List α}{u:Unit}(h:aO l=some u):l=[]:=by
 cases l<;>simp[aO]at h ⊢
theorem oa {β:Type}{d:TypeDesc}{x:LV}{k:CV→Option β}{r:β}(h:jb d x k=some r):
  ∃c,k c=some r∧ ∀(G:Gh) (w:World) (L nl:Nat) v,LVR G w L nl x v→VR G w c v:=by
 unfold jb at h
 split at h<;>obtain⟨a,h1,h2⟩:=ab.1 h<;>refine⟨_,h2,fun G w L nl v hv=> ?_⟩
 ·rw[g0 h1]at hv;simpa[LVR]using hv
 ·rw[ft h1]at hv;simpa[LVR]using hv
 ·rw[fv h1]at hv;simpa[LVR]using hv
 ·exact fu h1 hv
 ·exact eQ h1 hv
def iO (cs cs':List CV):Prop:=cs'.length=cs.length∧ ∀(j:Nat) (c c':CV),cs[j]? =some c→cs'[j]? =some c'→ ∀(G:Gh) (w:World) (v:Value),VR G w c v→VR G w c' v
theorem iO.cons {c c':CV}{r r':List CV}(h:iO r r')(hc: ∀(G:Gh) (w:World) v,VR G w c v→VR G w c' v):iO (c::r) (c'::r'):=by
 refine⟨by simp[h.1],fun j x x' hx hx'=> ?_⟩
 cases j with
 |zero=>simp only[List.getElem?_cons_zero,Option.some.injEq]at hx hx';subst hx;subst hx';exact hc
 |succ j=>exact h.2 j x x' (by simpa using hx) (by simpa using hx')
theorem iO.tail {c c':CV}{r r':List CV}(h:iO (c::r) (c'::r')):iO r r'∧ ∀(G:Gh) (w:World) v,VR G w c v→VR G w c' v:=
 ⟨⟨by simpa using h.1,fun j x x' hx hx'=>h.2 (j+1) x x' (by simpa using hx) (by simpa using hx')⟩,h.2 0 c c' rfl rfl⟩
theorem iO.VRL: ∀{cs cs':List CV},iO cs cs'→ ∀{vs},VRL G w cs vs→VRL G w cs' vs
 |[],[],_,vs,h=>h
 |[],_::_,hf,_,_=>by simp[iO]at hf
 |_::_,[],hf,_,_=>by simp[iO]at hf
 |c::r,c'::r',hf,vs,h=>by
  simp only[Go.Abs.VRL]at h ⊢
  obtain⟨v,s,e,h1,h2⟩:=h
  exact⟨v,s,e,hf.tail.2 G w v h1,hf.tail.1.VRL h2⟩
theorem iO.CL {b:Nat}: ∀{off:Nat} {cs cs':List CV},iO cs cs'→CL G w b off cs→CL G w b off cs'
 |_,[],[],_,h=>h
 |_,[],_::_,hf,_=>by simp[iO]at hf
 |_,_::_,[],hf,_=>by simp[iO]at hf
 |off,c::r,c'::r',hf,h=>by
  simp only[Go.Abs.CL]at h ⊢
  obtain⟨⟨v,h1,h2,h3⟩,h4⟩:=h
  exact⟨⟨v,h1,h2,hf.tail.2 G w v h3⟩,hf.tail.1.CL h4⟩
theorem jS {β:Type}: ∀{ds:List TypeDesc} {cs:List CV} {k:List CV→Option β} {r:β},fl ds cs k=some r→ ∃cs',k cs'=some r∧iO cs cs'
 |[],cs,k,r,h=>by
  simp only[fl]at h
  obtain⟨u,h1,h2⟩:=ab.1 h
  rw[yX h1]
  exact⟨[],h2,rfl,fun j c c' hc=>by simp at hc⟩
 |d::ds,cs,k,r,h=>by
  simp only[fl]at h
  obtain⟨q,h1,h2⟩:=ab.1 h
  rw[zE h1]
  obtain⟨c,h3,h4⟩:=oa h2
  obtain⟨cs',h5,h6⟩:=jS h3
  exact⟨c::cs',h5,h6.cons fun G w v hv=>h4 G w 0 0 v (by simpa[LVR]using hv)⟩
theorem nr {β:Type}{P:Program}{t:TypeId}{x:LV}{k:CV→Option β}{r:β}(h:io P t x k=some r):
  ∃c,k c=some r∧ ∀(G:Gh) (w:World) (L nl:Nat) v,LVR G w L nl x v→VR G w c v:=by
 unfold io at h
 split at h
 ·obtain⟨cs,h1,h2⟩:=ab.1 h
  obtain⟨cs',h3,h4⟩:=jS h2
  refine⟨_,h3,fun G w L nl v hv=> ?_⟩
  rw[nI h1]at hv
  simp only[LVR,VR]at hv ⊢
  obtain⟨vs,e,hl⟩:=hv
  exact⟨vs,e,h4.VRL hl⟩
 ·split at h
  ·exact oa h
  ·simp at h
theorem sY {β:Type}{P:Program}{own:Bool}{t:TypeId}{x:LV}{k:LV→Option β}{r:β}(h:i7 P own t x k=some r):
  ∃y,k y=some r∧ ∀(G:Gh) (w:World) (L nl:Nat) v,LVR G w L nl x v→LVR G w L nl y v∧(∀b,aE y v b→aE x v b)∧(own=false→nM y=false):=by
 unfold i7 at h
 split at h
 ·obtain⟨xs,h1,h2⟩:=ab.1 h
  exact⟨_,h2,fun G w L nl v hv=>⟨(iz h1 hv).1,(iz h1 hv).2,by simp⟩⟩
 ·obtain⟨c,h1,h2⟩:=nr h
  exact⟨_,h1,fun G w L nl v hv=>⟨by simp only[LVR];exact h2 G w L nl v hv,fun b hb=>by simp[aE]at hb,by simp⟩⟩
theorem pe {β:Type}{P:Program}: ∀{ts:List TypeId} {xs:List LV} {k:List LV→Option β} {r:β},ef P ts xs k=some r→
  ∃ys,k ys=some r∧ ∀(G:Gh) (w:World) (L nl:Nat) vs,bV G w L nl xs vs→bV G w L nl ys vs
 |[],xs,k,r,h=>by
  simp only[ef]at h
  obtain⟨u,h1,h2⟩:=ab.1 h
  rw[yX h1]
  exact⟨[],h2,fun G w L nl vs hv=>hv⟩
 |t::ts,xs,k,r,h=>by
  simp only[ef]at h
  obtain⟨q,h1,h2⟩:=ab.1 h
  rw[zE h1]
  obtain⟨y,h3,h4⟩:=sY h2
  obtain⟨ys,h5,h6⟩:=pe h3
  refine⟨y::ys,h5,fun G w L nl vs hv=> ?_⟩
  simp only[bV]at hv ⊢
  obtain⟨v,s,e,h0,h7,h8⟩:=hv
  exact⟨v,s,e,(h4 G w L nl v h7).2.2 rfl,(h4 G w L nl v h7).1,h6 G w L nl s h8⟩
theorem er {β:Type}{P:Program}{own:Bool}{t:TypeId}{x:LV}{k:LV→Option β}{r:β}(h:dy P own t x k=some r):
  ∃y,k y=some r∧ ∀(G:Gh) (w:World) (L nl:Nat) v,LVR G w L nl x v→LVR G w L nl y v∧(∀b,aE y v b→aE x v b):=by
 unfold dy at h
 split at h
 ·obtain⟨xs,h1,h2⟩:=ab.1 h
  obtain⟨ys,h3,h4⟩:=pe h2
  refine⟨_,h3,fun G w L nl v hv=>⟨?_,fun b hb=>by simp[aE]at hb⟩⟩
  rw[yW h1]at hv
  simp only[LVR]at hv ⊢
  obtain⟨vs,e,hl⟩:=hv
  exact⟨vs,e,h4 G w L nl _ hl⟩
 ·obtain⟨y,h1,h2⟩:=sY h
  exact⟨y,h1,fun G w L nl v hv=>⟨(h2 G w L nl v hv).1,(h2 G w L nl v hv).2.1⟩⟩
theorem qY {β:Type}{P:Program}{b:Bool}{t:TypeId}{x:LV}{k:LV→Option β}{r:β}(h:jJ P b t x k=some r):
  ∃y,k y=some r∧ ∀(G:Gh) (w:World) (L nl:Nat) v,LVR G w L nl x v→LVR G w L nl y v∧(∀b,aE y v b→aE x v b):=by
 cases b with
 |true=>exact er h
 |false=>exact⟨x,h,fun G w L nl v hv=>⟨hv,fun _ hb=>hb⟩⟩
theorem lg {α:Type}{P:Program}{t:TypeId}{o:Ob}{off:Nat}{v:LV}{k:Ob→Option α}:vO P t o off v k=opt (bI P t o off v) k:=by
 cases o with
 |arr sz cs=>
  simp only[vO,bI]
  cases dm v with
  |none=>rfl
  |some c=>
   simp only[opt]
   cases cO P t with
   |none=>rfl
   |some n=>
    simp only[]
    cases (fq n c&&Nat.ble (off+n) cs.length)<;>rfl
 |cells cs=>rfl
 |dead=>rfl
 |map ks vs=>rfl
end
end Go.Abs
set_option linter.unusedVariables false
set_option linter.unusedSimpArgs false
namespace Go.Abs
open Go
section
variable {G:Gh}{w:World}{L nl:Nat}{P:Program}
theorem NJ {op:BinOp}{t:TypeId}{k k':IntKind}{a b:Int}{c:CV}(h:m7 op k a k' b=some c):
    ∃v,(binOp op t (.int k a) (.int k' b)).run P w= .ok v w∧c= .v v:=by
  by_cases hs:op= .shl∨op= .shr
  · rcases hs with rfl|rfl<;>unfold m7 at h<;>simp only[]at h<;>
      (cases hb : decide (b < 0) <;> simp only [hb, Option.some.injEq, reduceCtorEq] at h
       have hb': ¬b<0:=by simpa using hb
       exact⟨_,by simp only[binOp,Op.shift,if_neg hb'];rfl,h.symm⟩)
  · have hk:decide (k=k')=true:=by
      cases hk:decide (k=k')with
      |true=>rfl
      |false=>exfalso;unfold m7 at h;cases op<;>simp_all
    simp only[decide_eq_true_eq]at hk
    subst hk
    unfold m7 at h
    cases op<;>simp only[eq_self_iff_true,decide_true]at h
    case quo=>
      cases hb:decide (b=0)<;>simp only[hb,Option.some.injEq,reduceCtorEq]at h
      have hb': ¬b=0:=by simpa using hb
      exact⟨_,by simp only[binOp,ne_eq,not_true_eq_false,if_false,Op.intDiv,if_neg hb'];rfl,h.symm⟩
    case rem=>
      cases hb:decide (b=0)<;>simp only[hb,Option.some.injEq,reduceCtorEq]at h
      have hb': ¬b=0:=by simpa using hb
      exact⟨_,by simp only[binOp,ne_eq,not_true_eq_false,if_false,Op.intDiv,if_neg hb'];rfl,h.symm⟩
    case shl=>exact absurd (.inl rfl) hs
    case shr=>exact absurd (.inr rfl) hs
    all_goals
      simp only[Option.some.injEq,reduceCtorEq]at h
      exact⟨_,by simp only[binOp,ne_eq,not_true_eq_false,if_false];rfl,h.symm⟩
theorem qW (a b:ByteArray):(a.toList == b.toList)=decide (a.data.toList=b.data.toList):=by
  rw[ByteArray.toList_eq,ByteArray.toList_eq]
  cases h:decide (a.data.toList=b.data.toList)with
  |true=>simp only[decide_eq_true_eq]at h;rw[h];simp
  |false=>simp only[decide_eq_false_iff_not]at h;simpa using h
theorem zu (a:ByteArray):a.size=a.data.toList.length:=rfl
theorem LS (a b:ByteArray):a++b=⟨⟨a.data.toList++b.data.toList⟩⟩:=by
  apply ByteArray.ext
  simp[ByteArray.data_append]
theorem O0 {op:BinOp}{t:TypeId}{a b:ByteArray}{c:CV}(h:CD op a.data.toList b.data.toList=some c):
    ∃v,(binOp op t (.string a) (.string b)).run P w= .ok v w∧c= .v v:=by
  unfold CD at h
  have hb:binOp op t (.string a) (.string b)=Op.stringOp op a b:=by cases op<;>rfl
  rw[hb]
  cases op<;>simp only[Option.some.injEq,reduceCtorEq]at h
  · cases hs:bd (a.data.toList.length+b.data.toList.length)<;>simp only[hs,Option.some.injEq,reduceCtorEq]at h
    simp only[bd,decide_eq_true_eq]at hs
    refine⟨_,?_,h.symm⟩
    have: ¬((a.size+b.size:Nat):Int)>IntKind.i64.max:=by
      rw[zu,zu]
      simp only[IntKind.max,IntKind.bits,IntKind.signed]
      omega
    simp only[Op.stringOp,if_neg this,Sem.run_pure,LS]
  all_goals
    refine⟨_,rfl,?_⟩
    rw[←h]
    simp only[CV.bool]
    (try rw[qW])
    (try simp only[ByteArray.toList_eq])
theorem G6 {d:TypeDesc}{c c':CV}{b:Bool}(h:A7 c c'=some b): ∃v v',c= .v v∧c'= .v v'∧
    ((∃k m n,v= .int k m∧v'= .int k n∧b=decide (m=n))∨(∃m n,v= .bool m∧v'= .bool n∧b=(m == n))∨(∃m n,v= .string m∧v'= .string n∧b=decide (m.data.toList=n.data.toList))):=by
  unfold A7 at h
  split at h
  · rename_i k m k' n
    cases hk:decide (k=k')<;>simp only[hk,Option.some.injEq,reduceCtorEq]at h
    simp only[decide_eq_true_eq]at hk
    subst hk
    exact⟨_,_,rfl,rfl,.inl ⟨_,_,_,rfl,rfl,h.symm⟩⟩
  · simp only[Option.some.injEq]at h
    exact⟨_,_,rfl,rfl,.inr (.inl ⟨_,_,rfl,rfl,h.symm⟩)⟩
  · simp only[Option.some.injEq]at h
    exact⟨_,_,rfl,rfl,.inr (.inr ⟨_,_,rfl,rfl,h.symm⟩)⟩
  · simp at h
theorem dU: ∀{cs:List CV} {vs:List Value},VRL G w cs vs→cs.length=vs.length∧ ∀(j:Nat) c,cs[j]? =some c→ ∃v,vs[j]? =some v∧VR G w c v
  |[],vs,h=>by simp only[VRL]at h;subst h;exact⟨rfl,fun j c hc=>by simp at hc⟩
  |c::cs,vs,h=>by
    simp only[VRL]at h
    obtain⟨v,r,rfl,h1,h2⟩:=h
    obtain⟨e,hg⟩:=dU h2
    refine⟨by simp[e],fun j x hx=> ?_⟩
    cases j with
    |zero=>simp only[List.getElem?_cons_zero,Option.some.injEq]at hx;subst hx;exact⟨v,rfl,h1⟩
    |succ j=>simpa using hg j x (by simpa using hx)
theorem pm: ∀{cs:List LV} {vs:List Value},bV G w L nl cs vs→cs.length=vs.length∧ ∀(j:Nat) c,cs[j]? =some c→ ∃v,vs[j]? =some v∧LVR G w L nl c v∧nM c=false
  |[],vs,h=>by simp only[bV]at h;subst h;exact⟨rfl,fun j c hc=>by simp at hc⟩
  |c::cs,vs,h=>by
    simp only[bV]at h
    obtain⟨v,r,rfl,h0,h1,h2⟩:=h
    obtain⟨e,hg⟩:=pm h2
    refine⟨by simp[e],fun j x hx=> ?_⟩
    cases j with
    |zero=>simp only[List.getElem?_cons_zero,Option.some.injEq]at hx;subst hx;exact⟨v,rfl,h1,h0⟩
    |succ j=>simpa using hg j x (by simpa using hx)
theorem Rx {op:UnOp}{x:LV}{v:Value}{c:CV}(h:unA op x=some c)(hv:LVR G w L nl x v):
    ∃u,(Op.unary op v).run P w= .ok u w∧c= .v u:=by
  unfold unA at h
  split at h
  · simp only[LVR,VR]at hv
    subst hv
    cases op<;>simp only[Option.some.injEq,reduceCtorEq]at h
    exact⟨_,rfl,h.symm⟩
  · simp only[LVR,VR]at hv
    subst hv
    cases op<;>simp only[Option.some.injEq,reduceCtorEq]at h
    · exact⟨_,by simp[Op.unary,Op.intArith],h.symm⟩
    · exact⟨_,by simp[Op.unary,Op.intBits],h.symm⟩
  · simp at h
theorem Mn {t:Bool}{x y:LV}{u v:Value}(hx:LVR G w L nl x u)(hy:LVR G w L nl y v):
    LVR G w L nl (xj t x y) (if t=true then u else v)∧ ∀b,aE (xj t x y) (if t=true then u else v) b→aE x u b∨aE y v b:=by
  unfold xj
  split
  · simp only[LVR,VR]at hx hy ⊢
    subst hx;subst hy
    exact⟨by cases t<;>rfl,fun b hb=>by simp[aE]at hb⟩
  · cases t
    · exact⟨hy,fun b hb=> .inr hb⟩
    · exact⟨hx,fun b hb=> .inl hb⟩
end
end Go.Abs
set_option linter.unusedVariables false
set_option linter.unusedSimpArgs false
namespace Go.Abs
open Go
section
variable {G:Gh}{w:World}{L nl:Nat}{P:Program}
theorem Ee {t:TypeId}{d:TypeDesc}(h:P.underlying t=some d)(hs: ∀fs,d≠ .struct fs)(ha: ∀n e,d≠ .array n e){cs:Array Value}{off:Nat}{v:Value}(hv:cs[off]? =some v):
  (part t cs off).run P w= .ok v w:=by
 simp only[part,isAgg,Sem.run_bind,run_underlying h,Result.andThen_ok]
 cases d<;>first
  |(exact absurd rfl (hs _))
  |(exact absurd rfl (ha _ _))
  |simp[hv]
theorem rW {xs ys:Array Value}{d:Nat}: ∀(fs:List Field) (k:Nat) (ms ns:List CV) (r:Bool),
  (fs.zipIdx k).all (fun q=>q.1.offset == q.2&&q.1.name != "_" &&(match P.underlying q.1.type with|some (.int _)=>true|some .bool=>true|some .string=>true|_=>false))=true→
  iA (fs.map fun f=>(P.underlying f.type).getD .invalid) ms=true→iA (fs.map fun f=>(P.underlying f.type).getD .invalid) ns=true→
  (∀j u,ms[j]? =some (.v u)→xs[k+j]? =some u)→(∀j u,ns[j]? =some (.v u)→ys[k+j]? =some u)→oJ ms ns=some r→
  (Op.eqFields (d+1) xs ys fs).run P w= .ok r w
 |[],k,ms,ns,r,h1,h2,h3,h4,h5,h6=>by
  cases ms<;>cases ns<;>simp[iA,oJ]at h2 h3 h6
  subst h6
  simp[Op.eqFields]
 |f::fs,k,ms,ns,r,h1,h2,h3,h4,h5,h6=>by
  cases ms with
  |nil=>simp[iA]at h2
  |cons m ms=>
   cases ns with
   |nil=>simp[iA]at h3
   |cons n ns=>
    simp only[List.map_cons,iA,Bool.and_eq_true]at h2 h3
    simp only[List.zipIdx_cons,List.all_cons,Bool.and_eq_true,beq_iff_eq,bne_iff_ne]at h1
    obtain⟨⟨⟨ho,hn⟩,hk⟩,hr⟩:=h1
    simp only[oJ]at h6
    obtain⟨b,hb,h6⟩:=ab.1 h6
    obtain⟨b2,hb2,h6⟩:=ab.1 h6
    simp only[Option.some.injEq]at h6
    have ih:=rW (d:=d) (xs:=xs) (ys:=ys) fs (k+1) ms ns b2 (by simpa[Bool.and_eq_true]using hr) h2.2 h3.2 (fun j u hu=>by have:=h4 (j+1) u (by simpa using hu);rw[←this];congr 1;omega)
     (fun j u hu=>by have:=h5 (j+1) u (by simpa using hu);rw[←this];congr 1;omega) hb2
    obtain⟨u,v,rfl,rfl,hc⟩:=G6 (d:= .bool) hb
    have hx:=h4 0 u rfl
    have hy:=h5 0 v rfl
    simp only[Nat.add_zero]at hx hy
    have hrun:(Op.equalIn (d+1) f.type u v).run P w= .ok b w:=by
     rcases hc with⟨kk,m,n,rfl,rfl,rfl⟩|⟨m,n,rfl,rfl,rfl⟩|⟨m,n,rfl,rfl,rfl⟩
     ·have: ∃k',P.underlying f.type=some (.int k'):=by
       have h2':=h2.1
       split at hk<;>rename_i hu<;>simp only[hu,Option.getD_some,wU]at h2'<;>first|exact⟨_,hu⟩|simp at h2'|simp at hk
      obtain⟨k',hu⟩:=this
      rw[run_equalIn_int w d f.type kk k' m n hu];rfl
     ·have:P.underlying f.type=some .bool:=by
       have h2':=h2.1
       split at hk<;>rename_i hu<;>simp only[hu,Option.getD_some,wU]at h2'<;>first|exact hu|simp at h2'|simp at hk
      rw[run_equalIn_bool' w d f.type m n this]
     ·have:P.underlying f.type=some .string:=by
       have h2':=h2.1
       split at hk<;>rename_i hu<;>simp only[hu,Option.getD_some,wU]at h2'<;>first|exact hu|simp at h2'|simp at hk
      rw[run_equalIn_string w d f.type m n this,qW]
    have hp: ∀{cs:Array Value} {v:Value},cs[k]? =some v→(part f.type cs f.offset).run P w= .ok v w:=by
     intro cs v hv
     rw[ho]
     split at hk<;>rename_i hu<;>first|exact Ee hu (by simp) (by simp) hv|simp at hk
    simp only[Op.eqFields,hn,ne_eq,not_false_eq_true,if_true,Sem.run_bind,hp hx,hp hy,Result.andThen_ok,hrun]
    cases b
    ·simp at h6;subst h6;simp
    ·simp at h6;subst h6;simpa using ih
theorem qJ {x:CV}{xs:List CV}{u:Value}(h:VR G w (.sl (x::xs)) u): ∃A n c,u= .slice (some A) (n+1) c:=by
 simp only[VR]at h
 obtain⟨A,len,cap,rfl,hl,hc,h⟩:=h
 rcases h with h|⟨b,off,s,rfl,_⟩
 ·simp[h]at hl
 ·exact⟨_,xs.length,cap,by rw[hl];rfl⟩
def tn (P:Program)(w:World)(t:TypeId)(u cn:Value)(r:Bool):Prop:=
 (∀op o,(eqGuard op t o (.const cn) u cn).run P w= .ok () w∧(eqGuard op t (.const cn) o cn u).run P w= .ok () w)∧
 (binOp .eql t u cn).run P w= .ok (.bool r) w∧(binOp .neq t u cn).run P w= .ok (.bool (!r)) w∧(binOp .eql t cn u).run P w= .ok (.bool r) w∧(binOp .neq t cn u).run P w= .ok (.bool (!r)) w
theorem Bs {t e:TypeId}(hd:P.underlying t=some (.pointer e))(d:Nat)(A:Option Addr):
  (Op.equalIn (d+1) t (.pointer A) (.pointer none)).run P w= .ok A.isNone w∧(Op.equalIn (d+1) t (.pointer none) (.pointer A)).run P w= .ok A.isNone w:=by
 cases A<;>simp[Op.equalIn,run_underlying hd]
theorem FA {t:TypeId}{ms:Array (String×TypeId)}(hd:P.underlying t=some (.interface ms))(d:Nat):(Op.equalIn (d+1) t .nilIface .nilIface).run P w= .ok true w:=by
 simp[Op.equalIn,run_underlying hd]
theorem Br {t k:TypeId}{v:Value}{ms:Array (String×TypeId)}(hd:P.underlying t=some (.interface ms))(d:Nat):
  (Op.equalIn (d+1) t (.iface k v) .nilIface).run P w= .ok false w∧(Op.equalIn (d+1) t .nilIface (.iface k v)).run P w= .ok false w:=by
 simp[Op.equalIn,run_underlying hd]
theorem FB {t e:TypeId}(hd:P.underlying t=some (.slice e))(d:Nat)(A:Option Addr)(n c:Nat)(h:A=none→n=0∧c=0):
  (Op.equalIn (d+1) t (.slice A n c) (.slice none 0 0)).run P w= .ok A.isNone w∧(Op.equalIn (d+1) t (.slice none 0 0) (.slice A n c)).run P w= .ok A.isNone w:=by
 cases A with
 |none=>obtain⟨rfl,rfl⟩:=h rfl;simp[Op.equalIn,run_underlying hd]
 |some a=>simp[Op.equalIn,run_underlying hd]
theorem xd {t:TypeId}{u cn:Value}{r:Bool}(h1: ∀d,(Op.equalIn (d+1) t u cn).run P w= .ok r w)(h2: ∀d,(Op.equalIn (d+1) t cn u).run P w= .ok r w)
  (hg: ∀op o,(eqGuard op t o (.const cn) u cn).run P w= .ok () w∧(eqGuard op t (.const cn) o cn u).run P w= .ok () w)
  (hb:binOp .eql t u cn=(do pure (.bool (←Op.equal t u cn)))∧binOp .neq t u cn=(do pure (.bool (!(←Op.equal t u cn))))∧binOp .eql t cn u=(do pure (.bool (←Op.equal t cn u)))∧binOp .neq t cn u=(do pure (.bool (!(←Op.equal t cn u))))):
  tn P w t u cn r:=by
 have e1:(Op.equal t u cn).run P w= .ok r w:=h1 9999
 have e2:(Op.equal t cn u).run P w= .ok r w:=h2 9999
 refine⟨hg,?_,?_,?_,?_⟩
 ·rw[hb.1,Sem.run_bind,e1];rfl
 ·rw[hb.2.1,Sem.run_bind,e1];rfl
 ·rw[hb.2.2.1,Sem.run_bind,e2];rfl
 ·rw[hb.2.2.2,Sem.run_bind,e2];rfl
theorem tC {t e:TypeId}(hd:P.underlying t=some (.pointer e))(A:Option Addr):tn P w t (.pointer A) (.pointer none) A.isNone:=
 xd (fun d=>(Bs hd d A).1) (fun d=>(Bs hd d A).2) (fun op o=>by cases op<;>exact⟨rfl,rfl⟩) ⟨rfl,rfl,rfl,rfl⟩
theorem SV {t:TypeId}{ms:Array (String×TypeId)}(hd:P.underlying t=some (.interface ms)):tn P w t .nilIface .nilIface true:=
 xd (fun d=>FA hd d) (fun d=>FA hd d) (fun op o=>by cases op<;>cases o<;>exact⟨rfl,rfl⟩) ⟨rfl,rfl,rfl,rfl⟩
theorem Rd {t k:TypeId}{v:Value}{ms:Array (String×TypeId)}(hd:P.underlying t=some (.interface ms)):tn P w t (.iface k v) .nilIface false:=
 xd (fun d=>(Br hd d).1) (fun d=>(Br hd d).2) (fun op o=>by cases op<;>exact⟨rfl,rfl⟩) ⟨rfl,rfl,rfl,rfl⟩
theorem B8 {t e:TypeId}(hd:P.underlying t=some (.slice e))(A:Option Addr)(n c:Nat)(h:A=none→n=0∧c=0):tn P w t (.slice A n c) (.slice none 0 0) A.isNone:=
 xd (fun d=>(FB hd d A n c h).1) (fun d=>(FB hd d A n c h).2) (fun op o=>by cases op<;>exact⟨rfl,rfl⟩) ⟨rfl,rfl,rfl,rfl⟩
theorem yR {t:TypeId}{d:TypeDesc}{u cn:Value}{r:Bool}{x:LV}(hd:P.underlying t=some d)(hx:sA d cn x=some r)(hv:LVR G w L nl x u):tn P w t u cn r:=by
 unfold sA at hx
 split at hx
 ·unfold Ma at hx
  split at hx<;>simp only[Option.some.injEq,reduceCtorEq]at hx<;>subst hx
  ·simp only[LVR,VR]at hv;subst hv;exact tC hd _
  ·simp only[LVR,VR]at hv;obtain⟨b,off,rfl,_⟩:=hv;exact tC hd _
  ·simp only[LVR,VR]at hv;obtain⟨_,rfl⟩:=hv;exact tC hd _
  ·simp only[LVR]at hv;obtain⟨_,rfl⟩:=hv;exact tC hd _
 ·unfold Ai at hx
  split at hx<;>simp only[Option.some.injEq,reduceCtorEq]at hx<;>subst hx
  ·simp only[LVR,VR]at hv;subst hv;exact SV hd
  ·simp only[LVR,VR]at hv;obtain⟨v,rfl,_⟩:=hv;exact Rd hd
 ·unfold PU at hx
  split at hx<;>simp only[Option.some.injEq,reduceCtorEq]at hx<;>subst hx
  ·simp only[LVR,VR]at hv;subst hv;exact B8 hd none 0 0 (by simp)
  ·simp only[LVR]at hv;obtain⟨A,n,c,rfl⟩:=qJ hv;exact B8 hd (some A) _ _ (by simp)
  ·simp only[LVR]at hv;obtain⟨A,n,c,rfl⟩:=qJ (gi hv);exact B8 hd (some A) _ _ (by simp)
 ·simp at hx
theorem C8 {op:BinOp}{t:TypeId}{x y:Operand}{k k':IntKind}{m n:Int}:(eqGuard op t x y (.int k m) (.int k' n)).run P w= .ok () w:=by cases op<;>rfl
theorem C9 {op:BinOp}{t:TypeId}{x y:Operand}{m n:ByteArray}:(eqGuard op t x y (.string m) (.string n)).run P w= .ok () w:=by cases op<;>rfl
theorem rX {op:BinOp}{t:TypeId}{x y:Operand}{m n:Bool}:(eqGuard op t x y (.bool m) (.bool n)).run P w= .ok () w:=by cases op<;>rfl
theorem EE {t:TypeId}(hd:P.underlying t=some .bool)(m n:Bool):(Op.equal t (.bool m) (.bool n)).run P w= .ok (m == n) w:=run_equalIn_bool' w 9999 t m n hd
theorem wE {x:Operand}{c:Value}(h:jv x=some c):x= .const c:=by
 cases x<;>simp[jv]at h ⊢; exact h
theorem Nq {op:BinOp}{t:TypeId}{x y:Operand}{a b:LV}{c:CV}{u v:Value}(h:p7 P op t x y a b=some c)(ha:LVR G w L nl a u)(hb:LVR G w L nl b v)
  (hx: ∀cc,x= .const cc→u=cc) (hy: ∀cc,y= .const cc→v=cc):
  ∃cv,(do eqGuard op t x y u v;binOp op t u v:Sem Value).run P w= .ok cv w∧c= .v cv:=by
 unfold p7 at h
 split at h
 ·simp only[LVR,VR]at ha hb;subst ha;subst hb
  obtain⟨cv,h1,h2⟩:=NJ (P:=P) (w:=w) (t:=t) h
  exact⟨cv,by simp only[Sem.run_bind,C8,Result.andThen_ok];exact h1,h2⟩
 ·simp only[LVR,VR]at ha hb;subst ha;subst hb
  obtain⟨cv,h1,h2⟩:=O0 (P:=P) (w:=w) (t:=t) h
  exact⟨cv,by simp only[Sem.run_bind,C9,Result.andThen_ok];exact h1,h2⟩
 ·simp only[LVR,VR]at ha hb;subst ha;subst hb
  rename_i m n
  split at h<;>simp only[Option.some.injEq,reduceCtorEq]at h
  ·rename_i ht
   refine⟨.bool (m == n),?_,h.symm⟩
   simp only[Sem.run_bind,rX,Result.andThen_ok]
   show ((do pure (Value.bool (←Op.equal t (.bool m) (.bool n))):Sem Value).run P w)=_
   rw[Sem.run_bind,EE ht];rfl
  ·rename_i ht
   refine⟨.bool (!(m == n)),?_,h.symm⟩
   simp only[Sem.run_bind,rX,Result.andThen_ok]
   show ((do pure (Value.bool (!(←Op.equal t (.bool m) (.bool n)))):Sem Value).run P w)=_
   rw[Sem.run_bind,EE ht];rfl
 ·rename_i m n
  obtain⟨ds,h1,ha1⟩:=ab.1 h
  obtain⟨h2,ha2⟩:=aI.1 ha1
  obtain⟨h3,ha3⟩:=aI.1 ha2
  obtain⟨r,h4,hfin⟩:=ab.1 ha3
  clear h ha1 ha2 ha3
  unfold uu at h1
  split at h1<;>try(simp at h1;done)
  rename_i fs ht
  split at h1<;>simp only[Option.some.injEq,reduceCtorEq]at h1
  rename_i hc
  simp only[Bool.and_eq_true,Bool.not_eq_true']at hc
  subst h1
  have hf:P.fieldsOf t=fs:=by simp[Program.fieldsOf,ht]
  simp only[LVR,VR]at ha hb
  obtain⟨xs,rfl,hxs⟩:=ha
  obtain⟨ys,rfl,hys⟩:=hb
  have hg:(Op.equalIn 10000 t (.agg xs) (.agg ys)).run P w= .ok r w:=by
   rw[run_equalIn_struct w 9999 t xs ys (by rw[hf];exact ht) hc.1.2,hf]
   refine rW fs.toList 0 m n r hc.1.1 h2 h3 (fun j u hu=> ?_) (fun j u hu=> ?_) h4
   ·obtain⟨v,hv,hr⟩:=(dU hxs).2 j _ hu
    simp only[VR]at hr
    subst hr
    simpa using hv
   ·obtain⟨v,hv,hr⟩:=(dU hys).2 j _ hu
    simp only[VR]at hr
    subst hr
    simpa using hv
  cases op<;>simp only[Option.some.injEq,reduceCtorEq]at hfin
  ·exact⟨_,by simp only[Sem.run_bind,run_eqGuard_agg w _ t x y xs ys hc.2,Result.andThen_ok,run_eql_struct,hg],hfin.symm⟩
  ·exact⟨_,by simp only[Sem.run_bind,run_eqGuard_agg w _ t x y xs ys hc.2,Result.andThen_ok,run_neq_struct,hg],hfin.symm⟩
 ·obtain⟨d,hd,hb1⟩:=ab.1 h
  clear h
  simp only[]at hb1
  split at hb1
  ·rename_i cc hcc
   have hyc:=wE hcc
   obtain⟨r,hr,hfin⟩:=ab.1 hb1
   clear hb1
   have hv:=hy cc hyc
   subst hv
   obtain⟨hG,e1,e2,_,_⟩:=yR (P:=P) hd hr ha
   subst hyc
   cases op<;>simp only[Option.some.injEq,reduceCtorEq]at hfin
   ·exact⟨_,by simp only[Sem.run_bind,(hG .eql x).1,Result.andThen_ok,e1],hfin.symm⟩
   ·exact⟨_,by simp only[Sem.run_bind,(hG .neq x).1,Result.andThen_ok,e2],hfin.symm⟩
  ·obtain⟨cc,hcc,hb2⟩:=ab.1 hb1
   have hxc:=wE hcc
   obtain⟨r,hr,hfin⟩:=ab.1 hb2
   clear hb1 hb2
   have hu:=hx cc hxc
   subst hu
   obtain⟨hG,_,_,e1,e2⟩:=yR (P:=P) hd hr hb
   subst hxc
   cases op<;>simp only[Option.some.injEq,reduceCtorEq]at hfin
   ·exact⟨_,by simp only[Sem.run_bind,(hG .eql y).2,Result.andThen_ok,e1],hfin.symm⟩
   ·exact⟨_,by simp only[Sem.run_bind,(hG .neq y).2,Result.andThen_ok,e2],hfin.symm⟩
end
end Go.Abs
set_option linter.unusedVariables false
set_option linter.unusedSimpArgs false
namespace Go.Abs
open Go
theorem d8 (b off j:Nat):(⟨b,off,none⟩:Addr).add j=⟨b,off+j,none⟩:=by
 unfold Addr.add;split<;>simp_all
section
variable {G:Gh}{w:World}{L nl:Nat}{P:Program}
theorem Aq {b:Nat}: ∀{off:Nat} {cs:List CV},CL G w b off cs→ ∀(j:Nat) c,cs[j]? =some c→ ∃v,w.cell? ⟨b,off+j,none⟩=some v∧off+j<G.O b∧VR G w c v
 |off,[],h,j,c,hc=>by simp at hc
 |off,x::r,h,j,c,hc=>by
  simp only[CL]at h
  cases j with
  |zero=>
   simp only[List.getElem?_cons_zero,Option.some.injEq]at hc
   subst hc
   exact h.1
  |succ j=>
   have:=Aq h.2 j c (by simpa using hc)
   rwa [show off+1+j=off+(j+1)by omega]at this
theorem ov {b:Nat}: ∀{off:Nat} {cs:List CV} (n:Nat),CL G w b off cs→CL G w b (off+n) (cs.drop n)
 |off,cs,0,h=>by simpa using h
 |off,[],n+1,h=>by simp[CL]
 |off,x::r,n+1,h=>by
  simp only[CL]at h
  rw[show off+(n+1)=off+1+n by omega]
  exact ov n h.2
theorem xM {b:Nat}: ∀{off:Nat} {cs:List CV} (n:Nat),CL G w b off cs→CL G w b off (cs.take n)
 |off,cs,0,h=>by simp[CL]
 |off,[],n+1,h=>by simp[CL]
 |off,x::r,n+1,h=>by
  simp only[CL,List.take_succ_cons]at h ⊢
  exact⟨h.1,xM n h.2⟩
theorem xN {b:Nat}: ∀{off:Nat} {cs:List CV},CL G w b off cs→ ∃vs,VRL G w cs vs∧ ∀(j:Nat) v,vs[j]? =some v→w.cell? ⟨b,off+j,none⟩=some v
 |off,[],h=>⟨[],by simp[VRL],fun j v hv=>by simp at hv⟩
 |off,x::r,h=>by
  simp only[CL]at h
  obtain⟨⟨v,h1,h2,h3⟩,h4⟩:=h
  obtain⟨vs,h5,h6⟩:=xN h4
  refine⟨v::vs,by simp only[VRL];exact⟨v,vs,rfl,h3,h5⟩,fun j u hu=> ?_⟩
  cases j with
  |zero=>simp only[List.getElem?_cons_zero,Option.some.injEq]at hu;subst hu;exact h1
  |succ j=>rw[show off+(j+1)=off+1+j by omega];exact h6 j u (by simpa using hu)
theorem tY {t:TypeId}(h:eo P t=true):(isAgg t).run P w= .ok true w:=by
 unfold eo at h
 split at h<;>first|(rename_i hu;simp[isAgg,run_underlying hu];done)|simp at h
theorem sb {t:TypeId}{d:TypeDesc}(hd:P.underlying t=some d)(h:eo P t=false):(isAgg t).run P w= .ok false w:=by
 unfold eo at h
 simp only[isAgg,Sem.run_bind,run_underlying hd,Result.andThen_ok]
 rw[hd]at h
 cases d<;>simp at h ⊢
theorem dp {t:TypeId}{n:Nat}(h:cO P t=some n):(sizeOf t).run P w= .ok n w:=by
 unfold cO at h
 split at h<;>simp only[Option.some.injEq,reduceCtorEq]at h
 rename_i i hi
 simp[sizeOf,typeInfo,hi,h]
theorem Jl {t:TypeId}{n:Nat}(h:cO P t=some n): ∃i,P.info? t=some i∧i.size=n:=by
 unfold cO at h
 split at h<;>simp only[Option.some.injEq,reduceCtorEq]at h
 exact⟨_,by assumption,h⟩
theorem ia {t:TypeId}{b off:Nat}{vs:List Value}(hv: ∀(j:Nat) v,vs[j]? =some v→w.cell? ⟨b,off+j,none⟩=some v)
  (hd: ∃d,P.underlying t=some d):
  (eo P t=true→ ∀n,cO P t=some n→vs.length=n→(Instr.loadAt t (.pointer (some ⟨b,off,none⟩))).run P w= .ok (.agg vs.toArray) w)∧
  (eo P t=false→ ∀v,vs[0]? =some v→(Instr.loadAt t (.pointer (some ⟨b,off,none⟩))).run P w= .ok v w):=by
 refine⟨fun h n hn hl=> ?_,fun h v h0=> ?_⟩
 ·simp only[Instr.loadAt,Instr.sureAddr,loadVar,Sem.run_bind,Sem.run_pure,Result.andThen_ok,tY h,if_true,dp hn]
  rw[←hl,run_loadCells_list (P:=P) w ⟨b,off,none⟩ vs (fun j v hjv=>by rw[d8];exact hv j v hjv)]
  simp
 ·obtain⟨d,hd⟩:=hd
  have hc:=hv 0 v h0
  simp only[Nat.add_zero]at hc
  simp[Instr.loadAt,Instr.sureAddr,loadVar,sb hd h,hc]
theorem CF {t:TypeId}{b off k:Nat}{cs:List CV}{c:CV}(h:gt P t cs k=some c)(hd: ∃d,P.underlying t=some d)(hc:CL G w b off cs):
  ∃v,(Instr.loadAt t (.pointer (some ⟨b,off+k,none⟩))).run P w= .ok v w∧VR G w c v:=by
 unfold gt at h
 split at h
 ·rename_i ha
  obtain⟨n,hn,h⟩:=ab.1 h
  split at h<;>simp only[Option.some.injEq,reduceCtorEq]at h
  rename_i hle
  have hle:=Nat.le_of_ble_eq_true hle
  subst h
  obtain⟨vs,h1,h2⟩:=xN (xM n (ov k hc))
  refine⟨_,(ia h2 hd).1 ha n hn ?_,?_⟩
  ·rw[←(dU h1).1]
   simp only[List.length_take,List.length_drop]
   omega
  ·simp only[VR]
   exact⟨_,rfl,h1⟩
 ·rename_i ha
  obtain⟨v,h1,h2,h3⟩:=Aq hc k c h
  refine⟨v,(ia (vs:=[v]) (fun j u hu=> ?_) hd).2 (by simpa using ha) v rfl,h3⟩
  cases j with
  |zero=>simp only[List.getElem?_cons_zero,Option.some.injEq]at hu;subst hu;exact h1
  |succ j=>simp at hu
theorem uH: ∀(n:Nat) {cs:List CV} {vs:List Value},VRL G w cs vs→VRL G w (cs.take n) (vs.take n)
 |0,cs,vs,h=>by simp[VRL]
 |n+1,[],vs,h=>by simp only[VRL]at h;subst h;simp[VRL]
 |n+1,c::cs,vs,h=>by
  simp only[VRL]at h
  obtain⟨v,r,rfl,h1,h2⟩:=h
  simp only[List.take_succ_cons,VRL]
  exact⟨v,_,rfl,h1,uH n h2⟩
theorem uG: ∀(n:Nat) {cs:List CV} {vs:List Value},VRL G w cs vs→VRL G w (cs.drop n) (vs.drop n)
 |0,cs,vs,h=>by simpa using h
 |n+1,[],vs,h=>by simp only[VRL]at h;subst h;simp[VRL]
 |n+1,c::cs,vs,h=>by
  simp only[VRL]at h
  obtain⟨v,r,rfl,h1,h2⟩:=h
  simpa using uG n h2
theorem sT {t:TypeId}{k:Nat}{cs:List CV}{c:CV}{vs:Array Value}(h:gt P t cs k=some c)(hd: ∃d,P.underlying t=some d)(hc:VRL G w cs vs.toList):
  ∃v,(part t vs k).run P w= .ok v w∧VR G w c v:=by
 unfold gt at h
 obtain⟨hl,hg⟩:=dU hc
 split at h
 ·rename_i ha
  obtain⟨n,hn,h⟩:=ab.1 h
  split at h<;>simp only[Option.some.injEq,reduceCtorEq]at h
  subst h
  refine⟨_,by simp only[part,Sem.run_bind,tY ha,Result.andThen_ok,if_true,dp hn];rfl,?_⟩
  simp only[VR]
  refine⟨_,rfl,?_⟩
  have:(vs.extract k (k+n)).toList=(vs.toList.drop k).take n:=by simp[List.take_drop,Nat.add_comm]
  rw[this]
  exact uH n (uG k hc)
 ·rename_i ha
  obtain⟨d,hd⟩:=hd
  obtain⟨v,h1,h2⟩:=hg k c h
  have h1':vs[k]? =some v:=by simpa using h1
  exact⟨v,by simp[part,sb hd (by simpa using ha),h1'],h2⟩
theorem qO {s:TypeId}{f:Nat}{q:Nat×TypeId}(h:kG P s f=some q):
  ∃fs fd n,P.underlying s=some (.struct fs)∧fs[f]? =some fd∧cO P fd.type=some (n+1)∧q=(fd.offset,fd.type):=by
 unfold kG at h
 split at h<;>try(simp at h;done)
 rename_i fs hu
 split at h<;>try(simp at h;done)
 rename_i fd hf
 split at h<;>simp only[Option.some.injEq,reduceCtorEq]at h
 exact⟨fs,fd,_,hu,hf,by assumption,h.symm⟩
theorem Da {s:TypeId}{f:Nat}{q:Nat×TypeId}(h:kG P s f=some q)(b off:Nat):
  (Instr.fieldAt s (.pointer (some ⟨b,off,none⟩)) f).run P w= .ok (.pointer (some ⟨b,off+q.1,none⟩)) w:=by
 obtain⟨fs,fd,n,hu,hf,hs,rfl⟩:=qO h
 simp[Instr.fieldAt,run_underlying hu,hf,Instr.sureAddr,fieldPlace,dp hs,d8]
theorem Lm {s:TypeId}{f:Nat}{q:Nat×TypeId}{cs:List CV}{c:CV}{vs:Array Value}(h:kG P s f=some q)(ht:gt P q.2 cs q.1=some c)(hd: ∃d,P.underlying q.2=some d)(hc:VRL G w cs vs.toList):
  ∃v,(Instr.field s (.agg vs) f).run P w= .ok v w∧VR G w c v:=by
 obtain⟨fs,fd,n,hu,hf,hs,rfl⟩:=qO h
 obtain⟨v,h1,h2⟩:=sT ht hd hc
 exact⟨v,by simp[Instr.field,run_underlying hu,hf,asAgg,h1],h2⟩
theorem MQ {t:TypeId}{s:ByteArray}{k:IntKind}{i:Int}{b:UInt8}(ht:P.underlying t=some .string)(h:bn s.data.toList i=some b):
  (Instr.index t (.string s) (.int k i)).run P w= .ok (.int .u8 (b.toNat:Int)) w:=by
 unfold bn at h
 split at h<;>try(simp at h;done)
 rename_i h0
 simp only[decide_eq_true_eq]at h0
 obtain⟨hl,hg⟩:=List.getElem?_eq_some_iff.1 h
 have hs:i.toNat<s.size:=hl
 have:s[i.toNat]? =some b:=by rw[ByteArray.getElem?_lt' s _ hs];exact congrArg some hg
 simp[Instr.index,asIntOf,run_underlying ht,h0,this]
theorem yQ {α:Type}{xs r:List α}{lo hi:Int}(h:dk xs lo hi=some r):0≤lo∧lo≤hi∧hi≤(xs.length:Int)∧r=(xs.drop lo.toNat).take (hi-lo).toNat:=by
 unfold dk at h
 split at h<;>simp only[Option.some.injEq,reduceCtorEq]at h
 rename_i hc
 simp only[Bool.and_eq_true,decide_eq_true_eq]at hc
 exact⟨hc.1.1,hc.1.2,hc.2,h.symm⟩
theorem CY {α:Type}{ev:Operand→LV}{x:Option Operand}{d:Int}{k:Int→Option α}{r:α}(h:cV ev x d k=some r):
  (x=none∧k d=some r)∨ ∃o kd n,x=some o∧ev o= .cv (.v (.int kd n))∧k n=some r:=by
 unfold cV at h
 cases x with
 |none=>exact .inl ⟨rfl,h⟩
 |some o=>
  obtain⟨n,h1,h2⟩:=ab.1 h
  obtain⟨kd,e⟩:=nF h1
  exact .inr ⟨o,kd,n,rfl,e,h2⟩
def kn (x:Option Value)(d n:Int):Prop:=(x=none∧n=d)∨ ∃k,x=some (.int k n)
theorem gP {isS:Bool}{len cap:Nat}{lo hi:Option Value}{a b:Int}(hlc:len≤cap)(h0:0≤a)(h1:a≤b)(h2:b≤(len:Int))(hlo:kn lo 0 a)(hhi:kn hi (len:Int) b):
  (Instr.sliceBounds isS len cap lo hi none).run P w= .ok (a.toNat,b.toNat,cap) w:=by
 have hb:b≤(cap:Int):=by omega
 have hb0:0≤b:=by omega
 have hab:a≤(b.toNat:Int):=by omega
 rcases hhi with⟨rfl,rfl⟩|⟨k,rfl⟩<;>rcases hlo with⟨rfl,rfl⟩|⟨k',rfl⟩<;>
  simp[Instr.sliceBounds,Instr.sliceBound,asIntOf,h0,hb0,hb,hab]<;>omega
theorem CB {t:TypeId}{s:ByteArray}{lo hi:Option Value}{a b:Int}{r:List UInt8}(ht:P.underlying t=some .string)(h:dk s.data.toList a b=some r)
  (hlo:kn lo 0 a) (hhi:kn hi (s.data.toList.length:Int) b):(Instr.sliceAt t (.string s) lo hi none).run P w= .ok (.string ⟨⟨r⟩⟩) w:=by
 obtain⟨h0,h1,h2,rfl⟩:=yQ h
 have hb:=gP (P:=P) (w:=w) (isS:=false) (len:=s.size) (cap:=s.size) (Nat.le_refl _) h0 h1 h2 hlo hhi
 have he:s.extract a.toNat b.toNat=⟨⟨(s.data.toList.drop a.toNat).take (b-a).toNat⟩⟩:=by
  apply ByteArray.ext
  apply Array.ext'
  simp only[ByteArray.data_extract,Array.toList_extract,List.extract_eq_take_drop]
  congr 1
  omega
 simp[Instr.sliceAt,run_underlying ht,Instr.slice,hb,he]
theorem xO {b s:Nat}: ∀{off:Nat} {xs:List CV} (n:Nat),EL G w b s off xs→EL G w b s (off+n*s) (xs.drop n)
 |off,xs,0,h=>by simpa using h
 |off,[],n+1,h=>by simp[EL]
 |off,x::r,n+1,h=>by
  have h2:EL G w b s (off+s) r:=by cases x<;>simp only[EL]at h<;>exact h.2
  rw[show off+(n+1)*s=off+s+n*s by rw[Nat.add_mul];omega]
  exact xO n h2
theorem Ez {b s:Nat}: ∀{off:Nat} {xs:List CV} (n:Nat),EL G w b s off xs→EL G w b s off (xs.take n)
 |off,xs,0,h=>by simp[EL]
 |off,[],n+1,h=>by simp[EL]
 |off,x::r,n+1,h=>by
  cases x<;>simp only[EL,List.take_succ_cons]at h ⊢ <;>exact⟨h.1,Ez n h.2⟩
theorem Ep {t e:TypeId}{xs r:List CV}{v:Value}{lo hi:Option Value}{a b:Int}{n:Nat}(ht:P.underlying t=some (.slice e))(hsz:cO P e=some n)(hv:VR G w (.sl xs) v)
  (h:dk xs a b=some r) (hu:jF n a xs=true) (hlo:kn lo 0 a) (hhi:kn hi (xs.length:Int) b):
  ∃u,(Instr.sliceAt t v lo hi none).run P w= .ok u w∧VR G w (.sl r) u:=by
 obtain⟨h0,h1,h2,rfl⟩:=yQ h
 simp only[VR]at hv
 obtain⟨A,len,cap,rfl,rfl,hc,hx⟩:=hv
 have hb:=gP (P:=P) (w:=w) (isS:=true) hc h0 h1 h2 hlo hhi
 refine⟨.slice (if cap=a.toNat then A else A.map (·.add (a.toNat*n))) (b.toNat-a.toNat) (cap-a.toNat),?_,?_⟩
 ·simp[Instr.sliceAt,run_underlying ht,Instr.slice,hb,dp hsz]
 ·simp only[VR]
  refine⟨_,_,_,rfl,?_,by omega,?_⟩
  ·simp only[List.length_take,List.length_drop];omega
  ·rcases hx with hx|⟨bl,off,s,rfl,hs,hl⟩
   ·left;omega
   ·by_cases hab:b.toNat-a.toNat=0
    ·left;exact hab
    ·right
     have hne:cap≠a.toNat:=by omega
     have hsn:a.toNat*n=a.toNat*s:=by
      unfold jF at hu
      split at hu
      ·rename_i h0'
       simp only[decide_eq_true_eq]at h0'
       subst h0';simp
      ·cases xs with
       |nil=>simp at h2;omega
       |cons x r=>
        simp only[fK]at hu
        split at hu<;>try(simp at hu;done)
        rename_i he
        simp only[fq,Bool.and_eq_true]at he
        rw[←hs x (by simp),Nat.eq_of_beq_eq_true he.1]
     refine⟨bl,off+a.toNat*s,s,by simp[hne,d8,hsn],fun x hx=>hs x (List.mem_of_mem_drop (List.mem_of_mem_take hx)),Ez _ (xO _ hl)⟩
end
end Go.Abs
set_option linter.unusedVariables false
set_option linter.unusedSimpArgs false
namespace Go.Abs
open Go
section
variable {G:Gh}{w:World}{L nl:Nat}{P:Program}
theorem xz {c:CV}{v:Value}(h:o5 c=true)(hv:VR G w c v):v.oneCell'=true:=by
 cases c<;>simp only[o5,Bool.false_eq_true,VR]at h hv
 ·subst hv;exact h
 ·obtain⟨_,_,_,rfl,_⟩:=hv;rfl
 ·obtain⟨_,_,rfl,_⟩:=hv;rfl
 ·obtain⟨_,rfl⟩:=hv;rfl
 ·obtain⟨_,_,_,_,_,rfl,_⟩:=hv;rfl
 ·obtain⟨_,rfl,_⟩:=hv;rfl
 ·obtain⟨_,rfl,_⟩:=hv;rfl
 ·obtain⟨_,_,_,rfl,_⟩:=hv;rfl
 ·obtain⟨_,rfl⟩:=hv;rfl
 ·obtain⟨_,rfl,_⟩:=hv;rfl
theorem zi {v:Value}(h:v.oneCell'=true):v.cells= #[v]:=by
 cases v<;>simp[Value.oneCell',Value.cells]at h ⊢
theorem mr: ∀{cs:List CV} {vs:List Value},gA cs=true→VRL G w cs vs→ ∀v∈vs,v.oneCell'=true
 |[],vs,_,h=>by simp only[VRL]at h;subst h;simp
 |c::cs,vs,hs,h=>by
  simp only[VRL]at h
  obtain⟨v,r,rfl,h1,h2⟩:=h
  simp only[gA]at hs
  split at hs<;>try(simp at hs;done)
  rename_i h1s
  intro u hu
  rcases List.mem_cons.1 hu with rfl|hu
  ·exact xz h1s h1
  ·exact mr hs h2 u hu
theorem iY {c:CV}{v:Value}(h:gQ c=true)(hv:VR G w c v):VRL G w c.cells v.cells.toList∧ ∀u∈v.cells.toList,u.oneCell'=true:=by
 unfold gQ at h
 split at h
 ·rename_i cs
  simp only[VR]at hv
  obtain⟨vs,rfl,hl⟩:=hv
  exact⟨hl,mr h hl⟩
 ·rename_i hne
  have h1:=xz h hv
  rw[zi h1]
  have:c.cells=[c]:=by cases c<;>simp[CV.cells,o5]at hne h ⊢
  rw[this]
  exact⟨by simp only[VRL];exact⟨v,[],rfl,hv,rfl⟩,by simpa using h1⟩
theorem VRL_len {cs:List CV}{vs:List Value}(h:VRL G w cs vs):cs.length=vs.length:=(dU h).1
theorem jh {t:TypeId}{cs:List CV}(h:zeroCells P t=some cs): ∃z i,P.info? t=some i∧i.zero=some z∧(zeroValue t).run P w= .ok z w∧VRL G w cs z.cells.toList:=by
 unfold zeroCells at h
 split at h<;>try(simp at h;done)
 rename_i i hi
 split at h<;>try(simp at h;done)
 rename_i z hz
 refine⟨z,i,hi,hz,by simp[zeroValue,typeInfo,hi,hz],?_⟩
 split at h<;>simp only[Option.some.injEq]at h<;>subst h
 ·exact Pw _
 ·rename_i hne
  have:z.cells= #[z]:=by cases z<;>simp[Value.cells]at hne ⊢
  rw[this]
  simp only[VRL]
  exact⟨z,[],rfl,by simp[VR],rfl⟩
def bJ:Array Value→Nat→List Value→Array Value
 |a,_,[]=>a
 |a,off,v::r=>bJ (a.setIfInBounds off v) (off+1) r
theorem r3 (off:Nat): ∀(l:List Value) (k:Nat) (a:Array Value),(l.zipIdx k).foldl (fun cs q=>cs.setIfInBounds (off+q.2) q.1) a=bJ a (off+k) l
 |[],k,a=>rfl
 |v::r,k,a=>by
  simp only[List.zipIdx_cons,List.foldl_cons,bJ]
  rw[r3 off r (k+1)]
  rfl
theorem cQ: ∀(l:List Value) (off:Nat) (a:Array Value),(bJ a off l).size=a.size
 |[],off,a=>rfl
 |v::r,off,a=>by simp[bJ,cQ r]
theorem ke: ∀(l:List Value) (off:Nat) (a:Array Value) (j:Nat),j<off→(bJ a off l)[j]? =a[j]?
 |[],off,a,j,h=>rfl
 |v::r,off,a,j,h=>by
  simp only[bJ]
  rw[ke r (off+1) _ j (by omega),Array.getElem?_setIfInBounds_ne (by omega)]
theorem ni: ∀(l:List Value) (off:Nat) (a:Array Value) (j:Nat),off+l.length≤j→(bJ a off l)[j]? =a[j]?
 |[],off,a,j,h=>rfl
 |v::r,off,a,j,h=>by
  simp only[bJ,List.length_cons]at h ⊢
  rw[ni r (off+1) _ j (by omega),Array.getElem?_setIfInBounds_ne (by omega)]
theorem sF: ∀(l:List Value) (off:Nat) (a:Array Value) (j:Nat),off+l.length≤a.size→j<l.length→(bJ a off l)[off+j]? =l[j]?
 |[],off,a,j,h,hj=>by simp at hj
 |v::r,off,a,j,h,hj=>by
  simp only[bJ,List.length_cons]at h hj ⊢
  cases j with
  |zero=>
   rw[ke r (off+1) _ _ (by omega)]
   simp only[Nat.add_zero,List.getElem?_cons_zero]
   rw[Array.getElem?_setIfInBounds_self,if_pos (by omega)]
  |succ j=>
   have:=sF r (off+1) (a.setIfInBounds off v) j (by simp;omega) (by omega)
   rw[show off+(j+1)=off+1+j by omega,this]
   simp
theorem kh {α:Type}: ∀(l:List α) (cs:List α) (off:Nat),(cU cs off l).length=cs.length
 |[],cs,off=>rfl
 |v::r,cs,off=>by simp[cU,kh r]
theorem eV {α:Type}: ∀(l:List α) (off:Nat) (a:List α) (j:Nat),j<off→(cU a off l)[j]? =a[j]?
 |[],off,a,j,h=>rfl
 |v::r,off,a,j,h=>by
  simp only[cU]
  rw[eV r (off+1) _ j (by omega),List.getElem?_set_ne (by omega)]
theorem fW {α:Type}: ∀(l:List α) (off:Nat) (a:List α) (j:Nat),off+l.length≤j→(cU a off l)[j]? =a[j]?
 |[],off,a,j,h=>rfl
 |v::r,off,a,j,h=>by
  simp only[cU,List.length_cons]at h ⊢
  rw[fW r (off+1) _ j (by omega),List.getElem?_set_ne (by omega)]
theorem iX {α:Type}: ∀(l:List α) (off:Nat) (a:List α) (j:Nat),off+l.length≤a.length→j<l.length→(cU a off l)[off+j]? =l[j]?
 |[],off,a,j,h,hj=>by simp at hj
 |v::r,off,a,j,h,hj=>by
  simp only[cU,List.length_cons]at h hj ⊢
  cases j with
  |zero=>
   rw[eV r (off+1) _ _ (by omega)]
   simp only[Nat.add_zero,List.getElem?_cons_zero]
   rw[List.getElem?_set_self (by omega)]
  |succ j=>
   have:=iX r (off+1) (a.set off v) j (by simp;omega) (by omega)
   rw[show off+(j+1)=off+1+j by omega,this]
   simp
theorem eG: ∀{cs:List CV} {vs:List Value},cs.length=vs.length→(∀(j:Nat) c v,cs[j]? =some c→vs[j]? =some v→VR G w c v)→VRL G w cs vs
 |[],[],_,_=>by simp[VRL]
 |[],_::_,h,_=>by simp at h
 |_::_,[],h,_=>by simp at h
 |c::cs,v::vs,h,hg=>by
  simp only[VRL]
  exact⟨v,vs,rfl,hg 0 c v rfl rfl,eG (by simpa using h) fun j c v hc hv=>hg (j+1) c v (by simpa using hc) (by simpa using hv)⟩
theorem AN {cs:List CV}{a:Array Value}{off:Nat}{ds:List CV}{us:List Value}(h:VRL G w cs a.toList)(hd:VRL G w ds us)(hle:off+ds.length≤cs.length):
  VRL G w (cU cs off ds) (bJ a off us).toList:=by
 have hl:=VRL_len h
 have hl2:=VRL_len hd
 refine eG (by rw[kh,hl];simp[cQ]) fun j c v hc hv=> ?_
 have hv':(bJ a off us)[j]? =some v:=by simpa using hv
 have has:a.toList.length=a.size:=by simp
 by_cases h1:j<off
 ·rw[eV _ _ _ _ h1]at hc
  rw[ke _ _ _ _ h1]at hv'
  obtain⟨u,hu,hr⟩:=(dU h).2 j c hc
  have:u=v:=by rw[Array.getElem?_toList,hv']at hu;exact(Option.some.inj hu).symm
  subst this;exact hr
 ·by_cases h2:off+ds.length≤j
  ·rw[fW _ _ _ _ h2]at hc
   rw[ni _ _ _ _ (by omega)]at hv'
   obtain⟨u,hu,hr⟩:=(dU h).2 j c hc
   have:u=v:=by rw[Array.getElem?_toList,hv']at hu;exact(Option.some.inj hu).symm
   subst this;exact hr
  ·obtain⟨k,rfl⟩: ∃k,j=off+k:=⟨j-off,by omega⟩
   rw[iX _ _ _ _ hle (by omega)]at hc
   rw[sF _ _ _ _ (by omega) (by omega)]at hv'
   obtain⟨u,hu,hr⟩:=(dU hd).2 k c hc
   have:u=v:=by rw[hv']at hu;exact(Option.some.inj hu).symm
   subst this;exact hr
inductive PartsR (G:Gh) (w:World):List (Nat×CV)→List (Nat×Value)→Prop
 |nil:PartsR G w [] []
 |cons {i c v r s} (h:VR G w c v) (hs:gQ c=true) (t:PartsR G w r s):PartsR G w ((i,c)::r) ((i,v)::s)
theorem qf {place:Nat→Option (Nat×Nat)}: ∀{ps:List (Nat×CV)} {qs:List (Nat×Value)} {cs out:List CV} {a:Array Value},
  PartsR G w ps qs→VRL G w cs a.toList→mh place cs ps=some out→ ∃b,Instr.fill place a qs=some b∧VRL G w out b.toList∧b.size=a.size
 |_,_,cs,out,a,.nil,h,hf=>by
  simp only[mh,Option.some.injEq]at hf
  subst hf
  exact⟨a,rfl,h,rfl⟩
 |_,_,cs,out,a,.cons (i:=i) (c:=c) (v:=v) (r:=r) (s:=s) hv hs t,h,hf=>by
  simp only[mh]at hf
  split at hf<;>try(simp at hf;done)
  rename_i q hq
  split at hf<;>try(simp at hf;done)
  rename_i hc
  simp only[Bool.and_eq_true]at hc
  have h1:=Nat.eq_of_beq_eq_true hc.1
  have h2:=Nat.le_of_ble_eq_true hc.2
  obtain⟨hcl,_⟩:=iY hs hv
  have hlen:=VRL_len hcl
  have hl:=VRL_len h
  have hsz:v.cells.size=q.2:=by rw[←h1,hlen];simp
  obtain⟨b,hb,hr,hbs⟩:=qf (a:=bJ a q.1 v.cells.toList) t (AN h hcl (by omega)) hf
  refine⟨b,?_,hr,by rw[hbs,cQ]⟩
  obtain⟨o,z⟩:=q
  simp only at hsz h1 h2 hb
  simp only[Instr.fill,hq]
  have has:a.toList.length=a.size:=by simp
  have hcond:(decide (v.cells.size≠z)||decide (o+v.cells.size>a.size))=false:=by
   rw[Bool.or_eq_false_iff]
   refine⟨by simp[hsz],?_⟩
   have:o+v.cells.size≤a.size:=by omega
   simpa using this
  rw[if_neg (by rw[hcond];simp)]
  rw[←Array.foldl_toList,Array.toList_zipIdx]
  have:=r3 o v.cells.toList 0 a
  simp only[Nat.add_zero]at this
  rw[this]
  exact hb
theorem om {s:S}{μ:Mu}{a:Act}(R:Rel G L s μ a.tmps w)(h:OpHint): ∀{l:List (Nat×Operand)} {ps:List (Nat×CV)},dv (evA h s.fr) l=some ps→
  PartsR G w ps (l.map fun q=>(q.1,a.eval q.2))
 |[],ps,hp=>by simp only[dv,Option.some.injEq]at hp;subst hp;exact .nil
 |q::r,ps,hp=>by
  simp only[dv]at hp
  obtain⟨c,h1,h2⟩:=ab.1 hp
  obtain⟨h3,h4⟩:=aI.1 h2
  obtain⟨l,h5,h6⟩:=ab.1 h4
  simp only[Option.some.injEq]at h6
  subst h6
  exact .cons (eQ h1 (aZ R h q.2).1) h3 (om R h h5)
end
end Go.Abs
set_option linter.unusedVariables false
set_option linter.unusedSimpArgs false
namespace Go.Abs
open Go
def Gh.setO (G:Gh)(b n:Nat):Gh:={G with O:=fun x=>if x=b then n else G.O x}
theorem dc {G:Gh}{b n:Nat}:(G.setO b n).O b=n:=by simp[Gh.setO]
theorem bR {G:Gh}{b n x:Nat}(h:x≠b):(G.setO b n).O x=G.O x:=by simp[Gh.setO,h]
section
variable {G:Gh}{w:World}{L:Nat}{P:Program}
theorem xY {a:Addr}{v:Value}(h:w.cell? a=some v):a.block<w.heap.size:=block_lt_of_cell h
theorem fS {b:Nat}{o:Obj}(h:w.heap[b]? =some o):b<w.heap.size:=(Array.getElem?_eq_some_iff.1 h).1
theorem jO {x:LV}{v:Value}{b nl:Nat}(h:LVR G w L nl x v)(ho:aE x v b):b<w.heap.size:=by
 cases x<;>simp only[aE]at ho
 ·simp only[LVR]at h
  rcases h with⟨rfl,rfl⟩|⟨b',cap,cur,e,s,rfl,hb,_⟩
  ·simp at ho
  ·subst ho;exact fS hb
 ·simp only[LVR]at h
  rcases h with⟨rfl,rfl⟩|⟨b',cap,cur,e,rfl,hb,_⟩
  ·simp at ho
  ·subst ho;exact fS hb
theorem m9 {l:Lam}{i:Nat}(h:aK (aH l i)):i<l.length:=by
 by_cases hi:i<l.length
 ·exact hi
 ·simp only[aH]at h
  rw[List.getElem?_eq_none (by omega)]at h
  exact h.elim
theorem cJ {s:S}{μ:Mu}(hL:μ.length=L){lev i:Nat}(h:aK (aD (μ++[s.lam]) lev i)):(lev<L∧aD (μ++[s.lam]) lev i=a8 μ lev i)∨(lev=L∧i<s.lam.length∧aD (μ++[s.lam]) lev i=aH s.lam i):=by
 rcases Nat.lt_trichotomy lev L with h1|h1|h1
 ·exact .inl ⟨h1,bz (by omega)⟩
 ·subst h1
  rw[←hL]at h ⊢
  have e:aD (μ++[s.lam]) μ.length i=aH s.lam i:=bZ
  rw[e]at h
  exact .inr ⟨rfl,m9 h,e⟩
 ·rw[←hL]at h1
  simp only[aD,oW h1]at h
  exact h.elim
theorem JO {nl b sz:Nat}{o:Ob}(h:ObR G w L nl b sz o)(hl:aK o):b<w.heap.size:=by
 cases o with
 |dead=>exact hl.elim
 |cells cs=>obtain⟨cur,e,fz,h1,_⟩:=h;exact fS h1
 |arr k cs=>obtain⟨_,cur,e,fz,h1,_⟩:=h;exact fS h1
 |map ks vs=>obtain⟨es,clk,h1,_⟩:=h;exact fS h1
theorem Rel.touch_lt {s:S}{μ:Mu}{tm:Array Value}(R:Rel G L s μ tm w){b:Nat}(h:fb G w s.fr tm (μ++[s.lam]) b):b<w.heap.size:=by
 rcases h with⟨l,h⟩|⟨lev,i,hl,rfl⟩
 ·cases l with
  |fr t=>exact jO (R.fr t) h
  |ob lev i k=>
   simp only[ax]at h
   split at h<;>try(exact h.elim)
   rename_i cs hcs
   split at h<;>try(exact h.elim)
   rename_i x hx
   obtain⟨cur,e,fz,hb,ho⟩:=h
   have hlive:aK (aD (μ++[s.lam]) lev i):=by rw[hcs];trivial
   rcases cJ R.lev hlive with⟨h1,h2⟩|⟨rfl,h1,h2⟩
   ·have:=R.mu lev i h1
    rw[←h2,hcs]at this
    simp only[ObR]at this
    obtain⟨cur',e',fz',hb',_,_,_,h5⟩:=this
    rw[hb]at hb'
    obtain⟨rfl,_⟩:=(Obj.cells.injEq ..).mp (Option.some.inj hb')
    exact jO (h5 k x hx) ho
   ·have:=R.lam i
    rw[←h2,hcs]at this
    simp only[ObR]at this
    obtain⟨cur',e',fz',hb',_,_,_,h5⟩:=this
    rw[hb]at hb'
    obtain⟨rfl,_⟩:=(Obj.cells.injEq ..).mp (Option.some.inj hb')
    exact jO (h5 k x hx) ho
 ·rcases cJ R.lev hl with⟨h1,h2⟩|⟨rfl,h1,h2⟩
  ·rw[h2]at hl;exact JO (R.mu lev i h1) hl
  ·rw[h2]at hl;exact JO (R.lam i) hl
theorem kz {o:Obj}{b off:Nat}(h:b<w.heap.size):(w.alloc o).cell? ⟨b,off,none⟩=w.cell? ⟨b,off,none⟩:=World.cell?_alloc_lt w o _ h
theorem po (o:Obj)(n:Nat):Le G w (G.setO w.heap.size n) (w.alloc o):=by
 refine⟨fun b es clk h hb=> ?_,fun _ _ h=>⟨h,rfl,rfl⟩,fun b off v h hc=> ?_,fun b cur e fz h=> ?_⟩
 ·have hlt:b<w.heap.size:=fS hb
  rw[bR (by omega),heap_alloc_old w o hlt]
  exact⟨h,hb⟩
 ·have hb:b<w.heap.size:=xY hc
  rw[bR (by omega),kz hb]
  exact⟨h,hc⟩
 ·exact⟨cur,fz,by rw[heap_alloc_old w o (fS h)];exact h,rfl⟩
theorem Rel.alloc {s:S}{μ:Mu}{tm:Array Value}(R:Rel G L s μ tm w)(o:Obj)(n:Nat):
  Rel (G.setO w.heap.size n) L s μ tm (w.alloc o)∧
  (∀l b,ax (G.setO w.heap.size n) (w.alloc o) s.fr tm (μ++[s.lam]) l b→ax G w s.fr tm (μ++[s.lam]) l b):=
 R.frame (po o n) (fun b hb=>⟨heap_alloc_old w o (R.touch_lt hb),bR (by have:=R.touch_lt hb;omega)⟩) (fun _ _ _=>⟨rfl,rfl⟩) rfl
theorem Ext.alloc {T T':Nat→Prop}(o:Obj)(n:Nat)(h: ∀b,T' b→T b∨w.heap.size≤b):Ext L T G w (G.setO w.heap.size n) (w.alloc o) T':=
 ⟨po o n,rfl,rfl,rfl,by simp,fun b hb _=>⟨heap_alloc_old w o hb,bR (by omega)⟩,h,fun _ _=>⟨fun _=>⟨rfl,rfl⟩,rfl⟩⟩
theorem Rel.drew {s:S}{μ:Mu}{tm:Array Value}(R:Rel G L s μ tm w):Rel G L s μ tm w.drew∧(∀l b,ax G w.drew s.fr tm (μ++[s.lam]) l b→ax G w s.fr tm (μ++[s.lam]) l b):=
 R.frame ⟨fun _ _ _ h hb=>⟨h,hb⟩,fun _ _ h=>⟨h,rfl,rfl⟩,fun _ _ _ h hc=>⟨h,hc⟩,fun b cur e fz h=>⟨cur,fz,h,rfl⟩⟩ (fun _ _=>⟨rfl,rfl⟩) (fun _ _ _=>⟨rfl,rfl⟩) rfl
theorem EL_of {b s:Nat}: ∀{xs:List CV} {off:Nat} {vs:List Value},(∀x∈xs,x.cells.length=s)→VRL G w (xs.flatMap CV.cells) vs→
  (∀(j:Nat) v,vs[j]? =some v→w.cell? ⟨b,off+j,none⟩=some v∧off+j<G.O b)→EL G w b s off xs
 |[],off,vs,_,_,_=>by simp[EL]
 |x::r,off,vs,hs,h,hc=>by
  have hx:=hs x (by simp)
  have key: ∀(cs:List CV) (off:Nat) (vs:List Value),VRL G w cs vs→(∀(j:Nat) v,vs[j]? =some v→w.cell? ⟨b,off+j,none⟩=some v∧off+j<G.O b)→CL G w b off cs:=by
   intro cs
   induction cs with
   |nil=>intro off vs _ _;simp[CL]
   |cons c cs ih=>
    intro off vs h hc
    simp only[VRL]at h
    obtain⟨v,q,rfl,h1,h2⟩:=h
    simp only[CL]
    refine⟨⟨v,(hc 0 v rfl).1,(hc 0 v rfl).2,h1⟩,ih (off+1) q h2 fun j u hu=> ?_⟩
    have:=hc (j+1) u (by simpa using hu)
    rwa [show off+(j+1)=off+1+j by omega]at this
  have split: ∃us ws,vs=us++ws∧us.length=s∧VRL G w x.cells us∧VRL G w (r.flatMap CV.cells) ws:=by
   simp only[List.flatMap_cons]at h
   refine⟨vs.take s,vs.drop s,(List.take_append_drop s vs).symm,?_,?_,?_⟩
   ·have:=VRL_len h
    simp only[List.length_append]at this
    simp only[List.length_take];omega
   ·have:=uH s h
    rwa [List.take_left' hx]at this
   ·have:=uG s h
    rwa [List.drop_left' hx]at this
  obtain⟨us,ws,rfl,hul,h1,h2⟩:=split
  have hcl:=key x.cells off us h1 fun j v hv=>hc j v (by rw[List.getElem?_append_left (List.getElem?_eq_some_iff.1 hv).1];exact hv)
  have hel:EL G w b s (off+s) r:=EL_of (fun y hy=>hs y (by simp[hy])) h2 fun j v hv=>by
   have:=hc (s+j) v (by rw[List.getElem?_append_right (by omega)];rw[←hv];congr 1;omega)
   rwa [show off+(s+j)=off+s+j by omega]at this
  cases x<;>simp only[EL,CV.cells,CL,and_true]at hcl ⊢ <;>exact⟨hcl,hel⟩
theorem m5 {xs:List CV}{s:Nat}(h: ∀x∈xs,x.cells.length=s):(xs.flatMap CV.cells).length=xs.length*s:=by
 induction xs with
 |nil=>simp
 |cons x r ih=>
  simp only[List.flatMap_cons,List.length_append,List.length_cons,h x (by simp),ih fun y hy=>h y (by simp[hy])]
  rw[Nat.add_mul];omega
theorem iR {sz:Nat}: ∀{xs:List CV},fK sz xs=true→(∀x∈xs,x.cells.length=sz∧gQ x=true)
 |[],_=>by simp
 |x::r,h=>by
  simp only[fK]at h
  split at h<;>try(simp at h;done)
  rename_i he
  simp only[fq,Bool.and_eq_true]at he
  intro y hy
  rcases List.mem_cons.1 hy with rfl|hy
  ·exact⟨Nat.eq_of_beq_eq_true he.1,he.2⟩
  ·exact iR h y hy
end
end Go.Abs
set_option linter.unusedVariables false
set_option linter.unusedSimpArgs false
namespace Go.Abs
open Go
def Gh.setL (G:Gh)(L m b k:Nat)(pushed:Bool):Gh where
 O:=fun x=>if x=b then 0 else G.O x
 β:=fun l i=>if l=L∧i=m then b else G.β l i
 n:=fun l=>if l=L∧pushed=true then m+1 else G.n l
 sz:=fun l i=>if l=L∧i=m then k else G.sz l i
section
variable {G:Gh}{w:World}{L:Nat}{P:Program}
theorem hJ {l:Lam}{o:Ob}{i:Nat}(h:i<l.length):aH (l++[o]) i=aH l i:=by
 simp[aH,List.getElem?_append_left h]
theorem j3 {l:Lam}{o:Ob}:aH (l++[o]) l.length=o:=by
 simp[aH]
theorem sd {l:Lam}{o:Ob}{i:Nat}(h:l.length<i):aH (l++[o]) i= .dead:=by
 simp only[aH]
 rw[List.getElem?_eq_none (by simp;omega)]
def cF (cs:List LV)(cur:Array Value)(k b:Nat):Prop:= ∃x,cs[k]? =some x∧aE x (cur.getD k undef) b
theorem Rel.newLocal {s:S}{μ:Mu}{tm:Array Value}(R:Rel G L s μ tm w){cur:Array Value}{e:TypeId}{ob:Ob}{k:Nat}{fz:Nat×Nat}(hfz:d7 cur fz)
  (hob : (∃ cs, ob = .cells cs ∧ cs.length ≤ cur.size ∧ ∀ j x, cs[j]? = some x → LVR G w L s.lam.length x (cur.getD j undef)) ∨
   (∃cs,ob= .arr k cs∧cs.length≤cur.size∧ ∀j x,cs[j]? =some x→VR G w x (cur.getD j undef)))
  (hown: ∀cs j b,ob= .cells cs→cF cs cur j b→(∀l,¬ax G w s.fr tm (μ++[s.lam]) l b)∧(∀lev i,aK (aD (μ++[s.lam]) lev i)→G.β lev i≠b)∧ ∀j',cF cs cur j' b→j'=j):
  let G1:=G.setL L s.lam.length w.heap.size k s.pushed
  let w1:=w.alloc (.cells cur e fz)
  let s1:S:={s with lam:=s.lam++[ob]}
  Rel G1 L s1 μ tm w1∧Le G w G1 w1∧
  (∀b,fb G1 w1 s1.fr tm (μ++[s1.lam]) b→fb G w s.fr tm (μ++[s.lam]) b∨b=w.heap.size∨ ∃cs j,ob= .cells cs∧cF cs cur j b)∧
  LVR G1 w1 L s1.lam.length (.loc s.lam.length 0) (.pointer (some ⟨w.heap.size,0,none⟩)):=by
 intro G1 w1 s1
 have hβ: ∀lev i,lev<L∨(lev=L∧i<s.lam.length)→G1.β lev i=G.β lev i∧G1.sz lev i=G.sz lev i:=by
  intro lev i h
  have: ¬(lev=L∧i=s.lam.length):=by omega
  simp only[G1,Gh.setL,this,if_false,and_self]
 have hβn:G1.β L s.lam.length=w.heap.size∧G1.sz L s.lam.length=k:=by simp[G1,Gh.setL]
 have hO: ∀b,b≠w.heap.size→G1.O b=G.O b:=fun b h=>by simp[G1,Gh.setL,h]
 have hOn:G1.O w.heap.size=0:=by simp[G1,Gh.setL]
 have hn: ∀lev,lev≠L→G1.n lev=G.n lev:=fun lev h=>by simp[G1,Gh.setL,h]
 have hnL:G1.n L=if s.pushed then s.lam.length+1 else 0:=by
  have:=R.nL
  cases hp:s.pushed<;>simp[G1,Gh.setL,hp,this]at this ⊢
 have hle:Le G w G1 w1:=by
  refine⟨fun b es clk h hb=> ?_,fun lev i h=> ?_,fun b off v h hc=> ?_,fun b cur' e' fz' h=> ?_⟩
  ·have hlt:b<w.heap.size:=fS hb
   rw[hO b (by omega),heap_alloc_old w _ hlt]
   exact⟨h,hb⟩
  ·by_cases hl:lev=L
   ·subst hl
    have:=R.nL
    cases hp:s.pushed<;>simp only[hp,if_true,if_false,Bool.false_eq_true]at this
    ·omega
    ·have hb:=hβ lev i (.inr ⟨rfl,by omega⟩)
     refine⟨?_,hb⟩
     rw[hnL,hp,if_pos rfl];omega
   ·by_cases hlt:lev<L
    ·exact⟨by rw[hn lev hl];exact h,hβ lev i (.inl hlt)⟩
    ·have:=R.ngt lev (by omega)
     omega
  ·have hb:b<w.heap.size:=xY hc
   rw[hO b (by omega),kz hb]
   exact⟨h,hc⟩
  ·exact⟨cur',_,by rw[heap_alloc_old w _ (fS h)];exact h,rfl⟩
 have hT: ∀b,fb G w s.fr tm (μ++[s.lam]) b→w1.heap[b]? =w.heap[b]? ∧G1.O b=G.O b:=fun b hb=>by
  have:=R.touch_lt hb
  exact⟨heap_alloc_old w _ this,hO b (by omega)⟩
 have hlen:s1.lam.length=s.lam.length+1:=by simp[s1]
 have hnew:w1.heap[w.heap.size]? =some (.cells cur e fz):=heap_alloc_new w _
 have hlive: ∀lev i,aK (aD (μ++[s1.lam]) lev i)→(aK (aD (μ++[s.lam]) lev i)∧aD (μ++[s1.lam]) lev i=aD (μ++[s.lam]) lev i∧G1.β lev i=G.β lev i∧(lev<L∨(lev=L∧i<s.lam.length)))∨(lev=L∧i=s.lam.length∧aD (μ++[s1.lam]) lev i=ob):=by
  intro lev i h
  rcases cJ (s:=s1) R.lev h with⟨h1,h2⟩|⟨rfl,h1,h2⟩
  ·have e:aD (μ++[s.lam]) lev i=a8 μ lev i:=bz (by rw[R.lev];exact h1)
   rw[h2]at h ⊢
   exact .inl ⟨by rw[e];exact h,e.symm,(hβ lev i (.inl h1)).1,.inl h1⟩
  ·rw[hlen]at h1
   by_cases hi:i<s.lam.length
   ·have e:aD (μ++[s.lam]) lev i=aH s.lam i:=by rw[←R.lev];exact bZ
    have e2:aH s1.lam i=aH s.lam i:=hJ hi
    rw[h2,e2]at h ⊢
    exact .inl ⟨by rw[e];exact h,e.symm,(hβ lev i (.inr ⟨rfl,hi⟩)).1,.inr ⟨rfl,hi⟩⟩
   ·have:i=s.lam.length:=by omega
    subst this
    rw[h2]
    exact .inr ⟨rfl,rfl,j3⟩
 have hownAt: ∀l b,ax G1 w1 s1.fr tm (μ++[s1.lam]) l b→ax G w s.fr tm (μ++[s.lam]) l b∨ ∃cs j,ob= .cells cs∧cF cs cur j b∧l= .ob L s.lam.length j:=by
  intro l b h
  cases l with
  |fr t=>exact .inl h
  |ob lev i j=>
   simp only[ax]at h ⊢
   split at h<;>try(exact h.elim)
   rename_i cs hcs
   split at h<;>try(exact h.elim)
   rename_i x hx
   obtain⟨cur',e',fz',hb,ho⟩:=h
   have hl:aK (aD (μ++[s1.lam]) lev i):=by rw[hcs];trivial
   rcases hlive lev i hl with⟨h1,h2,h3,h4⟩|⟨rfl,rfl,h2⟩
   ·left
    rw[←h2,hcs]
    simp only[hx]
    rw[h3]at hb
    have:G.β lev i<w.heap.size:=R.touch_lt (.inr ⟨lev,i,h1,rfl⟩)
    rw[heap_alloc_old w _ this]at hb
    exact⟨cur',e',fz',hb,ho⟩
   ·right
    rw[h2]at hcs
    rw[hβn.1,hnew]at hb
    obtain⟨rfl,_⟩:=(Obj.cells.injEq ..).mp (Option.some.inj hb)
    exact⟨cs,j,hcs,⟨x,hx,ho⟩,rfl⟩
 refine⟨⟨R.lev,fun t=> ?_,fun i=> ?_,fun lev i hl=> ?_,fun lev i lev' i' h h' e'=> ?_,fun l l' b h h'=> ?_,fun l b lev i h h' e'=> ?_,fun lev hl=> ?_,?_,fun lev hl=> ?_⟩,hle,fun b hb=> ?_,?_⟩
 ·rw[hlen]
  exact cY hle (Nat.le_succ _) (fun i hi=>hβ L i (.inr ⟨rfl,hi⟩)) _ _ (fun b hb=>hT b (.inl ⟨.fr t,hb⟩)) (R.fr t)
 ·rw[hlen]
  by_cases hi:i<s.lam.length
  ·have e1:aD (μ++[s.lam]) L i=aH s.lam i:=by rw[←R.lev];exact bZ
   have e2:aH s1.lam i=aH s.lam i:=hJ hi
   rw[e2,(hβ L i (.inr ⟨rfl,hi⟩)).1,(hβ L i (.inr ⟨rfl,hi⟩)).2]
   refine cH hle (Nat.le_succ _) (fun i hi=>hβ L i (.inr ⟨rfl,hi⟩)) (fun hl=>hT _ (.inr ⟨L,i,by rw[e1];exact hl,rfl⟩)) (fun cs j x cur e fz ho hx hb b' hb'=>hT b' (.inl ⟨.ob L i j,?_⟩)) (R.lam i)
   simp only[ax,e1,ho,hx]
   exact⟨cur,e,fz,hb,hb'⟩
  ·by_cases hi':i=s.lam.length
   ·subst hi'
    have e2:aH s1.lam s.lam.length=ob:=j3
    rw[e2,hβn.1,hβn.2]
    rcases hob with⟨cs,rfl,hc,hr⟩|⟨cs,rfl,hc,hr⟩
    ·simp only[ObR]
     refine⟨cur,e,fz,hnew,hfz,hOn,hc,fun j x hx=> ?_⟩
     refine cY hle (Nat.le_succ _) (fun i hi=>hβ L i (.inr ⟨rfl,hi⟩)) _ _ (fun b hb=> ?_) (hr j x hx)
     have hlt:b<w.heap.size:=jO (hr j x hx) hb
     exact⟨heap_alloc_old w _ hlt,hO b (by omega)⟩
    ·simp only[ObR]
     exact⟨trivial,cur,e,fz,hnew,hfz,hOn,hc,fun j x hx=>bm hle x _ (hr j x hx)⟩
   ·have e2:aH s1.lam i= .dead:=sd (by omega)
    rw[e2]
    trivial
 ·have e1:aD (μ++[s.lam]) lev i=a8 μ lev i:=bz (by rw[R.lev];exact hl)
  rw[(hβ lev i (.inl hl)).1,(hβ lev i (.inl hl)).2]
  refine cH (hle.below lev) (Nat.le_refl _) (fun i hi=>by omega) (fun h=>hT _ (.inr ⟨lev,i,by rw[e1];exact h,rfl⟩)) (fun cs j x cur e fz ho hx hb b' hb'=>hT b' (.inl ⟨.ob lev i j,?_⟩)) (R.mu lev i hl)
  simp only[ax,e1,ho,hx]
  exact⟨cur,e,fz,hb,hb'⟩
 ·rcases hlive lev i h with⟨h1,h2,h3,_⟩|⟨rfl,rfl,h2⟩<;>rcases hlive lev' i' h' with⟨h1',h2',h3',_⟩|⟨rfl,rfl,h2'⟩
  ·rw[h3,h3']at e';exact R.inj lev i lev' i' h1 h1' e'
  ·rw[h3,hβn.1]at e'
   have:=R.touch_lt (.inr ⟨lev,i,h1,rfl⟩)
   omega
  ·rw[h3',hβn.1]at e'
   have:=R.touch_lt (.inr ⟨lev',i',h1',rfl⟩)
   omega
  ·exact⟨rfl,rfl⟩
 ·rcases hownAt l b h with h1|⟨cs,j,h1,h2,rfl⟩<;>rcases hownAt l' b h' with h1'|⟨cs',j',h1',h2',rfl⟩
  ·exact R.own l l' b h1 h1'
  ·exact absurd h1 ((hown cs' j' b h1' h2').1 l)
  ·exact absurd h1' ((hown cs j b h1 h2).1 l')
  ·rw[h1]at h1'
   injection h1' with h1'
   subst h1'
   rw[(hown cs j b h1 h2).2.2 j' h2']
 ·rcases hlive lev i h' with⟨h2,h3,h4,_⟩|⟨rfl,rfl,h3⟩
  ·rw[h4]at e'
   rcases hownAt l b h with h1|⟨cs,j,h1,h1',rfl⟩
   ·exact R.apart l b lev i h1 h2 e'
   ·exact(hown cs j b h1 h1').2.1 lev i h2 e'
  ·rw[hβn.1]at e'
   rcases hownAt l b h with h1|⟨cs,j,h1,h1',rfl⟩
   ·have:=R.touch_lt (.inl ⟨l,h1⟩)
    omega
   ·rcases hob with⟨cs',e3,hc,hr⟩|⟨cs',e3,hc,hr⟩
    ·rw[h1]at e3
     injection e3 with e3
     subst e3
     obtain⟨x,hx,ho⟩:=h1'
     have:=jO (hr j x hx) ho
     omega
    ·rw[h1]at e3;cases e3
 ·rw[hn lev (by omega)];exact R.nlt lev hl
 ·rw[hnL,hlen]
 ·rw[hn lev (by omega)];exact R.ngt lev hl
 ·rcases hb with⟨l,hb⟩|⟨lev,i,hl,rfl⟩
  ·rcases hownAt l b hb with h1|⟨cs,j,h1,h2,rfl⟩
   ·exact .inl (.inl ⟨l,h1⟩)
   ·exact .inr (.inr ⟨cs,j,h1,h2⟩)
  ·rcases hlive lev i hl with⟨h1,h2,h3,_⟩|⟨rfl,rfl,h2⟩
   ·exact .inl (.inr ⟨lev,i,h1,h3.symm⟩)
   ·exact .inr (.inl hβn.1)
 ·simp only[LVR]
  exact⟨by rw[hlen];omega,by rw[hβn.1]⟩
theorem Rel.newMap {s:S}{μ:Mu}{tm:Array Value}(R:Rel G L s μ tm w):
  let G1:=G.setL L s.lam.length w.heap.size 0 s.pushed
  let w1:=w.alloc (.map #[] 0)
  let s1:S:={s with lam:=s.lam++[.map [] []]}
  Rel G1 L s1 μ tm w1∧Le G w G1 w1∧
  (∀b,fb G1 w1 s1.fr tm (μ++[s1.lam]) b→fb G w s.fr tm (μ++[s.lam]) b∨b=w.heap.size)∧
  LVR G1 w1 L s1.lam.length (.mloc s.lam.length) (.map (some w.heap.size)):=by
 intro G1 w1 s1
 have hβ: ∀lev i,lev<L∨(lev=L∧i<s.lam.length)→G1.β lev i=G.β lev i∧G1.sz lev i=G.sz lev i:=by
  intro lev i h
  have: ¬(lev=L∧i=s.lam.length):=by omega
  simp only[G1,Gh.setL,this,if_false,and_self]
 have hβn:G1.β L s.lam.length=w.heap.size∧G1.sz L s.lam.length=0:=by simp[G1,Gh.setL]
 have hO: ∀b,b≠w.heap.size→G1.O b=G.O b:=fun b h=>by simp[G1,Gh.setL,h]
 have hOn:G1.O w.heap.size=0:=by simp[G1,Gh.setL]
 have hn: ∀lev,lev≠L→G1.n lev=G.n lev:=fun lev h=>by simp[G1,Gh.setL,h]
 have hnL:G1.n L=if s.pushed then s.lam.length+1 else 0:=by
  have:=R.nL
  cases hp:s.pushed<;>simp[G1,Gh.setL,hp,this]at this ⊢
 have hle:Le G w G1 w1:=by
  refine⟨fun b es clk h hb=> ?_,fun lev i h=> ?_,fun b off v h hc=> ?_,fun b cur' e' fz' h=> ?_⟩
  ·have hlt:b<w.heap.size:=fS hb
   rw[hO b (by omega),heap_alloc_old w _ hlt]
   exact⟨h,hb⟩
  ·by_cases hl:lev=L
   ·subst hl
    have:=R.nL
    cases hp:s.pushed<;>simp only[hp,if_true,if_false,Bool.false_eq_true]at this
    ·omega
    ·have hb:=hβ lev i (.inr ⟨rfl,by omega⟩)
     refine⟨?_,hb⟩
     rw[hnL,hp,if_pos rfl];omega
   ·by_cases hlt:lev<L
    ·exact⟨by rw[hn lev hl];exact h,hβ lev i (.inl hlt)⟩
    ·have:=R.ngt lev (by omega)
     omega
  ·have hb:b<w.heap.size:=xY hc
   rw[hO b (by omega),kz hb]
   exact⟨h,hc⟩
  ·exact⟨cur',_,by rw[heap_alloc_old w _ (fS h)];exact h,rfl⟩
 have hT: ∀b,fb G w s.fr tm (μ++[s.lam]) b→w1.heap[b]? =w.heap[b]? ∧G1.O b=G.O b:=fun b hb=>by
  have:=R.touch_lt hb
  exact⟨heap_alloc_old w _ this,hO b (by omega)⟩
 have hlen:s1.lam.length=s.lam.length+1:=by simp[s1]
 have hnew:w1.heap[w.heap.size]? =some (.map #[] 0):=heap_alloc_new w _
 have hlive: ∀lev i,aK (aD (μ++[s1.lam]) lev i)→(aK (aD (μ++[s.lam]) lev i)∧aD (μ++[s1.lam]) lev i=aD (μ++[s.lam]) lev i∧G1.β lev i=G.β lev i∧(lev<L∨(lev=L∧i<s.lam.length)))∨(lev=L∧i=s.lam.length∧aD (μ++[s1.lam]) lev i= .map [] []):=by
  intro lev i h
  rcases cJ (s:=s1) R.lev h with⟨h1,h2⟩|⟨rfl,h1,h2⟩
  ·have e:aD (μ++[s.lam]) lev i=a8 μ lev i:=bz (by rw[R.lev];exact h1)
   rw[h2]at h ⊢
   exact .inl ⟨by rw[e];exact h,e.symm,(hβ lev i (.inl h1)).1,.inl h1⟩
  ·rw[hlen]at h1
   by_cases hi:i<s.lam.length
   ·have e:aD (μ++[s.lam]) lev i=aH s.lam i:=by rw[←R.lev];exact bZ
    have e2:aH s1.lam i=aH s.lam i:=hJ hi
    rw[h2,e2]at h ⊢
    exact .inl ⟨by rw[e];exact h,e.symm,(hβ lev i (.inr ⟨rfl,hi⟩)).1,.inr ⟨rfl,hi⟩⟩
   ·have:i=s.lam.length:=by omega
    subst this
    rw[h2]
    exact .inr ⟨rfl,rfl,j3⟩
 have hownAt: ∀l b,ax G1 w1 s1.fr tm (μ++[s1.lam]) l b→ax G w s.fr tm (μ++[s.lam]) l b:=by
  intro l b h
  cases l with
  |fr t=>exact h
  |ob lev i j=>
   simp only[ax]at h ⊢
   split at h<;>try(exact h.elim)
   rename_i cs hcs
   split at h<;>try(exact h.elim)
   rename_i x hx
   obtain⟨cur',e',fz',hb,ho⟩:=h
   have hl:aK (aD (μ++[s1.lam]) lev i):=by rw[hcs];trivial
   rcases hlive lev i hl with⟨h1,h2,h3,h4⟩|⟨rfl,rfl,h2⟩
   ·rw[←h2,hcs]
    simp only[hx]
    rw[h3]at hb
    have:G.β lev i<w.heap.size:=R.touch_lt (.inr ⟨lev,i,h1,rfl⟩)
    rw[heap_alloc_old w _ this]at hb
    exact⟨cur',e',fz',hb,ho⟩
   ·rw[h2]at hcs
    cases hcs
 refine⟨⟨R.lev,fun t=> ?_,fun i=> ?_,fun lev i hl=> ?_,fun lev i lev' i' h h' e'=> ?_,fun l l' b h h'=> ?_,fun l b lev i h h' e'=> ?_,fun lev hl=> ?_,?_,fun lev hl=> ?_⟩,hle,fun b hb=> ?_,?_⟩
 ·rw[hlen]
  exact cY hle (Nat.le_succ _) (fun i hi=>hβ L i (.inr ⟨rfl,hi⟩)) _ _ (fun b hb=>hT b (.inl ⟨.fr t,hb⟩)) (R.fr t)
 ·rw[hlen]
  by_cases hi:i<s.lam.length
  ·have e1:aD (μ++[s.lam]) L i=aH s.lam i:=by rw[←R.lev];exact bZ
   have e2:aH s1.lam i=aH s.lam i:=hJ hi
   rw[e2,(hβ L i (.inr ⟨rfl,hi⟩)).1,(hβ L i (.inr ⟨rfl,hi⟩)).2]
   refine cH hle (Nat.le_succ _) (fun i hi=>hβ L i (.inr ⟨rfl,hi⟩)) (fun hl=>hT _ (.inr ⟨L,i,by rw[e1];exact hl,rfl⟩)) (fun cs j x cur e fz ho hx hb b' hb'=>hT b' (.inl ⟨.ob L i j,?_⟩)) (R.lam i)
   simp only[ax,e1,ho,hx]
   exact⟨cur,e,fz,hb,hb'⟩
  ·by_cases hi':i=s.lam.length
   ·subst hi'
    have e2:aH s1.lam s.lam.length= .map [] []:=j3
    rw[e2,hβn.1,hβn.2]
    simp only[ObR]
    exact⟨#[],0,hnew,hOn,rfl,by simp[VRL]⟩
   ·have e2:aH s1.lam i= .dead:=sd (by omega)
    rw[e2]
    trivial
 ·have e1:aD (μ++[s.lam]) lev i=a8 μ lev i:=bz (by rw[R.lev];exact hl)
  rw[(hβ lev i (.inl hl)).1,(hβ lev i (.inl hl)).2]
  refine cH (hle.below lev) (Nat.le_refl _) (fun i hi=>by omega) (fun h=>hT _ (.inr ⟨lev,i,by rw[e1];exact h,rfl⟩)) (fun cs j x cur e fz ho hx hb b' hb'=>hT b' (.inl ⟨.ob lev i j,?_⟩)) (R.mu lev i hl)
  simp only[ax,e1,ho,hx]
  exact⟨cur,e,fz,hb,hb'⟩
 ·rcases hlive lev i h with⟨h1,h2,h3,_⟩|⟨rfl,rfl,h2⟩<;>rcases hlive lev' i' h' with⟨h1',h2',h3',_⟩|⟨rfl,rfl,h2'⟩
  ·rw[h3,h3']at e';exact R.inj lev i lev' i' h1 h1' e'
  ·rw[h3,hβn.1]at e'
   have:=R.touch_lt (.inr ⟨lev,i,h1,rfl⟩)
   omega
  ·rw[h3',hβn.1]at e'
   have:=R.touch_lt (.inr ⟨lev',i',h1',rfl⟩)
   omega
  ·exact⟨rfl,rfl⟩
 ·exact R.own l l' b (hownAt l b h) (hownAt l' b h')
 ·rcases hlive lev i h' with⟨h2,h3,h4,_⟩|⟨rfl,rfl,h3⟩
  ·rw[h4]at e'
   exact R.apart l b lev i (hownAt l b h) h2 e'
  ·rw[hβn.1]at e'
   have:=R.touch_lt (.inl ⟨l,hownAt l b h⟩)
   omega
 ·rw[hn lev (by omega)];exact R.nlt lev hl
 ·rw[hnL,hlen]
 ·rw[hn lev (by omega)];exact R.ngt lev hl
 ·rcases hb with⟨l,hb⟩|⟨lev,i,hl,rfl⟩
  ·exact .inl (.inl ⟨l,hownAt l b hb⟩)
  ·rcases hlive lev i hl with⟨h1,h2,h3,_⟩|⟨rfl,rfl,h2⟩
   ·exact .inl (.inr ⟨lev,i,h1,h3.symm⟩)
   ·exact .inr hβn.1
 ·simp only[LVR]
  exact⟨by rw[hlen];omega,by rw[hβn.1]⟩
end
end Go.Abs
set_option linter.unusedVariables false
set_option linter.unusedSimpArgs false
namespace Go.Abs
open Go
section
variable {G:Gh}{w:World}{L:Nat}{P:Program}
theorem kT (g o:Nat)(t:TypeId)(fz:Nat×Nat): ∀(vs:List Value) (i:Nat) (cur:Array Value) (w:World),w.heap[g]? =some (.cells cur t fz)→d7 cur fz→
    o+i+vs.length≤cur.size→(∀v∈vs,v.oneCell'=true)→(storeCells ⟨g,o,none⟩ vs i).run P w= .ok () (w.setRow g (bJ cur (o+i) vs))
  |[],i,cur,w,hg,_,_,_=>by
    simp only[storeCells,bJ]
    rw[setRow_self w g cur t fz hg]
    rfl
  |v::rest,i,cur,w,hg,hu,hl,h1=>by
    have hi:o+i<cur.size:=by simp at hl;omega
    have hcell:w.cell? ⟨g,o+i,none⟩=some cur[o+i]:=by simp[World.cell?,hg,hi]
    have hfro:w.frozen? ⟨g,o+i,none⟩=false:=by
      have:=hu (o+i) hi
      obtain⟨lo,hi'⟩:=fz
      simp only[World.frozen?,hg]
      simp only[Bool.and_eq_false_iff,decide_eq_false_iff_not]
      simp only at this
      omega
    have hst:(store ((⟨g,o,none⟩:Addr).add i) v).run P w= .ok () (w.setRow g (cur.setIfInBounds (o+i) v)):=by
      rw[d8,run_store P w _ v _ (h1 v (by simp)),hcell]
      simp[hfro,setCell_eq_setRow w g (o+i) cur t fz v hg]
    have ih:=kT g o t fz rest (i+1) (cur.setIfInBounds (o+i) v) (w.setRow g (cur.setIfInBounds (o+i) v)) (setRow_heap w g cur _ t _ hg) (fun j hj=>hu j (by simpa using hj)) (by simp at hl ⊢; omega) (fun x hx=>h1 x (by simp[hx]))
    simp only[storeCells,Sem.run_bind,hst,Result.andThen_ok,ih,setRow_setRow,bJ]
    rfl
theorem JM {b:Nat}{cur cur':Array Value}{e:TypeId}{fz:Nat×Nat}(hb:w.heap[b]? =some (.cells cur e fz))(hO:G.O b=0)(hs:cur'.size=cur.size):Le G w G (w.setRow b cur'):=by
  refine⟨fun b' es clk h hb'=> ?_,fun _ _ h=>⟨h,rfl,rfl⟩,fun b' off v h hc=> ?_,fun b' cur2 e2 fz2 h=> ?_⟩
  · have hne:b'≠b:=fun e=>by subst e;omega
    exact⟨h,by rw[setRow_other w b b' cur' hne];exact hb'⟩
  · have hne:b'≠b:=fun e=>by subst e;omega
    refine⟨h,?_⟩
    rw[←hc]
    simp only[World.cell?]
    rw[setRow_other w b b' cur' hne]
  · by_cases hne:b'=b
    · subst hne
      rw[hb]at h
      obtain⟨rfl,rfl,rfl⟩:=(Obj.cells.injEq ..).mp (Option.some.inj h)
      exact⟨cur',fz,setRow_heap w b' cur cur' e fz hb,hs⟩
    · exact⟨cur2,fz2,by rw[setRow_other w b b' cur' hne];exact h,rfl⟩
theorem BL {H:Mu}{lev i:Nat}{o:Ob}(h:aK (a8 H lev i))(l j:Nat):a8 (bD H lev i o) l j=if l=lev∧j=i then o else a8 H l j:=by
  unfold bD
  cases hl:H[lev]? with
  |none=>simp only[a8,hl]at h;exact h.elim
  |some lam=>
    have hlt:lev<H.length:=(List.getElem?_eq_some_iff.1 hl).1
    have hi:i<lam.length:=by
      simp only[a8,hl]at h
      by_cases hi:i<lam.length
      · exact hi
      · rw[List.getElem?_eq_none (by omega)]at h;exact h.elim
    simp only[a8]
    by_cases e:l=lev
    · subst e
      rw[List.getElem?_set_self hlt,hl]
      simp only[true_and]
      by_cases e2:j=i
      · subst e2;rw[List.getElem?_set_self hi];simp
      · rw[List.getElem?_set_ne (by omega)];simp[e2]
    · rw[List.getElem?_set_ne (by omega)];simp[e]
theorem ib {H:Mu}{lev i:Nat}{o:Ob}:(bD H lev i o).length=H.length∧ ∀l,((bD H lev i o).getD l []).length=(H.getD l []).length:=by
  unfold bD
  cases hl:H[lev]? with
  |none=>exact⟨rfl,fun _=>rfl⟩
  |some lam=>
    refine⟨by simp,fun l=> ?_⟩
    simp only[List.getD_eq_getElem?_getD]
    by_cases e:l=lev
    · subst e
      rw[List.getElem?_set_self (List.getElem?_eq_some_iff.1 hl).1,hl]
      simp
    · rw[List.getElem?_set_ne (by omega)]
theorem Rel.setOb {s s1:S}{μ μ1:Mu}{tm:Array Value}(R:Rel G L s μ tm w){lev i:Nat}{o':Ob}(hl:aK (aD (μ++[s.lam]) lev i)){cur cur':Array Value}{e:TypeId}{fz:Nat×Nat}
    (hb:w.heap[G.β lev i]? =some (.cells cur e fz)) (hs:cur'.size=cur.size)
    (hfr:s1.fr=s.fr) (hp:s1.pushed=s.pushed) (hlen:s1.lam.length=s.lam.length) (hμlen:μ1.length=μ.length) (hH:μ1++[s1.lam]=bD (μ++[s.lam]) lev i o')
    (hob: ∀G' w',Le G w G' w'→G'=G→w'=w.setRow (G.β lev i) cur'→(lev=L→ObR G' w' L s.lam.length (G.β lev i) (G.sz lev i) o')∧(lev<L→ObR (G'.below lev) w' lev 0 (G.β lev i) (G.sz lev i) o'))
    (hown : ∀ cs' k b, o' = .cells cs' → cF cs' cur' k b → ax G w s.fr tm (μ ++ [s.lam]) (.ob lev i k) b ∨
      ((∀l,¬ax G w s.fr tm (μ++[s.lam]) l b)∧(∀lev i,aK (aD (μ++[s.lam]) lev i)→G.β lev i≠b)∧ ∀k',cF cs' cur' k' b→k'=k)):
    Rel G L s1 μ1 tm (w.setRow (G.β lev i) cur')∧Le G w G (w.setRow (G.β lev i) cur')∧
    (∀b,fb G (w.setRow (G.β lev i) cur') s1.fr tm (μ1++[s1.lam]) b→fb G w s.fr tm (μ++[s.lam]) b∨ ∃cs' k,o'= .cells cs'∧cF cs' cur' k b)∧
    (∀l b,ax G (w.setRow (G.β lev i) cur') s1.fr tm (μ1++[s1.lam]) l b→ax G w s.fr tm (μ++[s.lam]) l b∨ ∃cs' k,o'= .cells cs'∧cF cs' cur' k b∧l= .ob lev i k)∧
    (∀k b,ax G (w.setRow (G.β lev i) cur') s1.fr tm (μ1++[s1.lam]) (.ob lev i k) b→ ∃cs',o'= .cells cs'∧cF cs' cur' k b)∧
    (∀l j,aK (aD (μ1++[s1.lam]) l j)→aK (aD (μ++[s.lam]) l j)):=by
  have hO:G.O (G.β lev i)=0:=by
    rcases cJ R.lev hl with⟨h1,h2⟩|⟨rfl,h1,h2⟩
    · have:=R.mu lev i h1
      rw[←h2]at this
      revert this hl
      cases aD (μ++[s.lam]) lev i with
      |dead=>intro h;exact h.elim
      |cells cs=>intro _ h;simp only[ObR]at h;obtain⟨_,_,_,_,_,h,_⟩:=h;exact h
      |arr k cs=>intro _ h;simp only[ObR]at h;obtain⟨_,_,_,_,_,_,h,_⟩:=h;exact h
      |map ks vs=>intro _ h;simp only[ObR]at h;obtain⟨_,_,_,h,_⟩:=h;exact h
    · have:=R.lam i
      rw[←h2]at this
      revert this hl
      cases aD (μ++[s.lam]) lev i with
      |dead=>intro h;exact h.elim
      |cells cs=>intro _ h;simp only[ObR]at h;obtain⟨_,_,_,_,_,h,_⟩:=h;exact h
      |arr k cs=>intro _ h;simp only[ObR]at h;obtain⟨_,_,_,_,_,_,h,_⟩:=h;exact h
      |map ks vs=>intro _ h;simp only[ObR]at h;obtain⟨_,_,_,h,_⟩:=h;exact h
  have hle:=JM (G:=G) hb hO hs
  have hset:=BL (o:=o') hl
  have hAt: ∀l j,aD (μ1++[s1.lam]) l j=if l=lev∧j=i then o' else aD (μ++[s.lam]) l j:=fun l j=>by rw[aD,hH];exact hset l j
  have hlvl:lev≤L:=by rcases cJ R.lev hl with⟨h1,_⟩|⟨h1,_⟩<;>omega
  have hblk: ∀b,b≠G.β lev i→(w.setRow (G.β lev i) cur').heap[b]? =w.heap[b]? :=fun b h=>setRow_other w _ b cur' h
  have hlive: ∀l j,aK (aD (μ1++[s1.lam]) l j)→aK (aD (μ++[s.lam]) l j):=by
    intro l j h
    rw[hAt]at h
    split at h
    · rename_i e;rw[e.1,e.2];exact hl
    · exact h
  have hne: ∀l j,aK (aD (μ++[s.lam]) l j)→ ¬(l=lev∧j=i)→G.β l j≠G.β lev i:=fun l j h hn e=>hn (R.inj l j lev i h hl e)
  have hownAt: ∀l b,ax G (w.setRow (G.β lev i) cur') s1.fr tm (μ1++[s1.lam]) l b→(ax G w s.fr tm (μ++[s.lam]) l b)∨
      ∃cs' k,o'= .cells cs'∧cF cs' cur' k b∧l= .ob lev i k∧((∀l,¬ax G w s.fr tm (μ++[s.lam]) l b)∧(∀lev i,aK (aD (μ++[s.lam]) lev i)→G.β lev i≠b)∧ ∀k',cF cs' cur' k' b→k'=k):=by
    intro l b h
    cases l with
    |fr t=>rw[hfr]at h;exact .inl h
    |ob l j k=>
      simp only[ax]at h
      split at h<;>try(exact h.elim)
      rename_i cs hcs
      split at h<;>try(exact h.elim)
      rename_i x hx
      obtain⟨cur2,e2,fz2,hb2,ho⟩:=h
      rw[hAt]at hcs
      split at hcs
      · rename_i e
        obtain⟨rfl,rfl⟩:=e
        rw[setRow_heap w _ cur cur' e fz hb]at hb2
        obtain⟨rfl,_⟩:=(Obj.cells.injEq ..).mp (Option.some.inj hb2)
        rcases hown cs k b hcs ⟨x,hx,ho⟩with h|h
        · exact .inl h
        · exact .inr ⟨cs,k,hcs,⟨x,hx,ho⟩,rfl,h⟩
      · rename_i e
        have hl2:aK (aD (μ++[s.lam]) l j):=by rw[hcs];trivial
        rw[hblk _ (hne l j hl2 e)]at hb2
        left
        simp only[ax,hcs,hx]
        exact⟨cur2,e2,fz2,hb2,ho⟩
  have hownBlk: ∀l b,ax G w s.fr tm (μ++[s.lam]) l b→(w.setRow (G.β lev i) cur').heap[b]? =w.heap[b]? ∧G.O b=G.O b:=fun l b h=>⟨hblk b fun e=>R.apart l b lev i h hl e.symm,rfl⟩
  refine⟨⟨by rw[hμlen];exact R.lev,fun t=> ?_,fun j=> ?_,fun l j hlt=> ?_,fun l j l' j' h h' e'=>R.inj l j l' j' (hlive l j h) (hlive l' j' h') e',fun l l' b h h'=> ?_,fun l b l' j h h' e'=> ?_,fun l hlt=> ?_,?_,R.ngt⟩,hle,fun b hb=> ?_,fun l b h=>(hownAt l b h).imp id fun⟨cs,k,h1,h2,h3,_⟩=>⟨cs,k,h1,h2,h3⟩,fun k b h=> ?_,hlive⟩
  · rw[hfr,hlen]
    exact cY hle (Nat.le_refl _) (fun _ _=>⟨rfl,rfl⟩) _ _ (fun b hb=>hownBlk (.fr t) b hb) (R.fr t)
  · rw[hlen]
    have e1:aD (μ1++[s1.lam]) L j=aH s1.lam j:=by rw[←R.lev,←hμlen];exact bZ
    have e2:aD (μ++[s.lam]) L j=aH s.lam j:=by rw[←R.lev];exact bZ
    rw[←e1,hAt]
    split
    · rename_i e
      obtain⟨rfl,rfl⟩:=e
      exact(hob G _ hle rfl rfl).1 rfl
    · rename_i e
      rw[e2]
      refine cH hle (Nat.le_refl _) (fun _ _=>⟨rfl,rfl⟩) (fun h=>⟨hblk _ (hne L j (by rw[e2];exact h) e),rfl⟩) (fun cs k x cur e fz ho hx hb b' hb'=>hownBlk (.ob L j k) b' ?_) (R.lam j)
      simp only[ax,e2,ho,hx]
      exact⟨cur,e,fz,hb,hb'⟩
  · have e1:aD (μ1++[s1.lam]) l j=a8 μ1 l j:=bz (by rw[hμlen,R.lev];exact hlt)
    have e2:aD (μ++[s.lam]) l j=a8 μ l j:=bz (by rw[R.lev];exact hlt)
    rw[←e1,hAt]
    split
    · rename_i e
      obtain⟨rfl,rfl⟩:=e
      exact(hob G _ hle rfl rfl).2 hlt
    · rename_i e
      rw[e2]
      refine cH (hle.below l) (Nat.le_refl _) (fun _ h=>by omega) (fun h=>⟨hblk _ (hne l j (by rw[e2];exact h) e),rfl⟩) (fun cs k x cur e fz ho hx hb b' hb'=>hownBlk (.ob l j k) b' ?_) (R.mu l j hlt)
      simp only[ax,e2,ho,hx]
      exact⟨cur,e,fz,hb,hb'⟩
  · rcases hownAt l b h with h1|⟨cs,k,h1,h2,rfl,h3⟩<;>rcases hownAt l' b h' with h1'|⟨cs',k',h1',h2',rfl,h3'⟩
    · exact R.own l l' b h1 h1'
    · exact absurd h1 (h3'.1 l)
    · exact absurd h1' (h3.1 l')
    · rw[h1]at h1'
      injection h1' with h1'
      subst h1'
      rw[h3.2.2 k' h2']
  · rcases hownAt l b h with h1|⟨cs,k,h1,h2,rfl,h3⟩
    · exact R.apart l b l' j h1 (hlive l' j h') e'
    · exact h3.2.1 l' j (hlive l' j h') e'
  · have h1:(μ1.getD l []).length=(μ.getD l []).length:=by
      have:=(ib (H:=μ++[s.lam]) (lev:=lev) (i:=i) (o:=o')).2 l
      rw[←hH]at this
      have a1:l<μ1.length:=by rw[hμlen,R.lev];exact hlt
      have a2:l<μ.length:=by rw[R.lev];exact hlt
      simp only[List.getD_eq_getElem?_getD,List.getElem?_append_left a1,List.getElem?_append_left a2]at this ⊢
      exact this
    rw[h1];exact R.nlt l hlt
  · rw[hp,hlen];exact R.nL
  · rcases hb with⟨l,hb⟩|⟨l,j,h,rfl⟩
    · rcases hownAt l b hb with h1|⟨cs,k,h1,h2,_⟩
      · exact .inl (.inl ⟨l,h1⟩)
      · exact .inr ⟨cs,k,h1,h2⟩
    · exact .inl (.inr ⟨l,j,hlive l j h,rfl⟩)
  · simp only[ax]at h
    split at h<;>try(exact h.elim)
    rename_i cs hcs
    split at h<;>try(exact h.elim)
    rename_i x hx
    obtain⟨cur2,e2,fz2,hb2,ho⟩:=h
    rw[hAt,if_pos ⟨rfl,rfl⟩]at hcs
    rw[setRow_heap w _ cur cur' e fz hb]at hb2
    obtain⟨rfl,_⟩:=(Obj.cells.injEq ..).mp (Option.some.inj hb2)
    exact⟨cs,hcs,x,hx,ho⟩
theorem Rf {s:S}{μ:Mu}{tm:Array Value}(R:Rel G L s μ tm w){lev i:Nat}{cs:List LV}(h:aD (μ++[s.lam]) lev i= .cells cs):
    ∃cur e fz,w.heap[G.β lev i]? =some (.cells cur e fz)∧d7 cur fz∧cs.length≤cur.size∧
      ((lev = L ∧ i < s.lam.length ∧ aH s.lam i = .cells cs ∧ ∀ j x, cs[j]? = some x → LVR G w L s.lam.length x (cur.getD j undef)) ∨
       (lev<L∧a8 μ lev i= .cells cs∧ ∀j x,cs[j]? =some x→LVR (G.below lev) w lev 0 x (cur.getD j undef))):=by
  have hl:aK (aD (μ++[s.lam]) lev i):=by rw[h];trivial
  rcases cJ R.lev hl with⟨h1,h2⟩|⟨rfl,h1,h2⟩
  · rw[h]at h2
    have:=R.mu lev i h1
    rw[←h2]at this
    simp only[ObR]at this
    obtain⟨cur,e,fz,a,b,_,c,d⟩:=this
    exact⟨cur,e,fz,a,b,c,.inr ⟨h1,h2.symm,d⟩⟩
  · rw[h]at h2
    have:=R.lam i
    rw[←h2]at this
    simp only[ObR]at this
    obtain⟨cur,e,fz,a,b,_,c,d⟩:=this
    exact⟨cur,e,fz,a,b,c,.inl ⟨rfl,h1,h2.symm,d⟩⟩
theorem Rel.takeOb {s s1:S}{μ μ1:Mu}{tm:Array Value}(R:Rel G L s μ tm w){lev i off:Nat}{cs:List LV}{x:LV}(hob:aD (μ++[s.lam]) lev i= .cells cs)(hx:cs[off]? =some x)
    (hfr:s1.fr=s.fr) (hp:s1.pushed=s.pushed) (hlen:s1.lam.length=s.lam.length) (hμlen:μ1.length=μ.length) (hH:μ1++[s1.lam]=bD (μ++[s.lam]) lev i (.cells (cs.set off (strip x)))):
    ∃cur e fz,w.heap[G.β lev i]? =some (.cells cur e fz)∧off<cur.size∧Rel G L s1 μ1 tm w∧
      (∀b,fb G w s1.fr tm (μ1++[s1.lam]) b→fb G w s.fr tm (μ++[s.lam]) b)∧
      ((lev=L∧LVR G w L s.lam.length x (cur.getD off undef))∨(lev<L∧LVR (G.below lev) w lev 0 x (cur.getD off undef)))∧
      (∀b,aE x (cur.getD off undef) b→(∀l,¬ax G w s1.fr tm (μ1++[s1.lam]) l b)∧(∀l j,aK (aD (μ1++[s1.lam]) l j)→G.β l j≠b)∧fb G w s.fr tm (μ++[s.lam]) b):=by
  obtain⟨cur,e,fz,hb,hu,hsz,hcase⟩:=Rf R hob
  have hoff:off<cs.length:=(List.getElem?_eq_some_iff.1 hx).1
  have hl:aK (aD (μ++[s.lam]) lev i):=by rw[hob];trivial
  have hown0: ∀k b,cF (cs.set off (strip x)) cur k b→k≠off∧ax G w s.fr tm (μ++[s.lam]) (.ob lev i k) b:=by
    intro k b ⟨y,hy,ho⟩
    by_cases hk:k=off
    · subst hk
      rw[List.getElem?_set_self hoff]at hy
      simp only[Option.some.injEq]at hy
      subst hy
      exact absurd ho ir
    · rw[List.getElem?_set_ne (by omega)]at hy
      refine⟨hk,?_⟩
      simp only[ax,hob,hy]
      exact⟨cur,e,fz,hb,ho⟩
  obtain⟨R1,_,hT,hO1,hO2,hlv⟩:=R.setOb (s1:=s1) (μ1:=μ1) (o':= .cells (cs.set off (strip x))) hl hb (cur':=cur) rfl hfr hp hlen hμlen hH
    (fun G' w' hle hG hw => by
      subst hG
      rw[setRow_self w _ cur e fz hb]at hw
      subst hw
      refine⟨fun hL=> ?_,fun hL=> ?_⟩
      · rcases hcase with⟨_,_,h2,h3⟩|⟨h1,_⟩
        · have:=R.lam i
          rw[h2]at this
          simp only[ObR]at this ⊢
          obtain⟨cur',e',fz',hb',hu',hO',hs',hr'⟩:=this
          rw[hL]
          refine⟨cur',e',fz',hb',hu',hO',by simpa using hs',fun j y hy=> ?_⟩
          by_cases hj:j=off
          · subst hj
            rw[List.getElem?_set_self hoff]at hy
            simp only[Option.some.injEq]at hy
            subst hy
            exact jn (hr' j x hx)
          · rw[List.getElem?_set_ne (by omega)]at hy
            exact hr' j y hy
        · omega
      · rcases hcase with⟨h1,_⟩|⟨_,h2,h3⟩
        · omega
        · have:=R.mu lev i hL
          rw[h2]at this
          simp only[ObR]at this ⊢
          obtain⟨cur',e',fz',hb',hu',hO',hs',hr'⟩:=this
          refine⟨cur',e',fz',hb',hu',hO',by simpa using hs',fun j y hy=> ?_⟩
          by_cases hj:j=off
          · subst hj
            rw[List.getElem?_set_self hoff]at hy
            simp only[Option.some.injEq]at hy
            subst hy
            exact jn (hr' j x hx)
          · rw[List.getElem?_set_ne (by omega)]at hy
            exact hr' j y hy)
    (fun cs' k b he ho => by
      injection he with he
      subst he
      exact .inl (hown0 k b ho).2)
  rw[setRow_self w _ cur e fz hb]at R1 hT hO1 hO2
  refine⟨cur,e,fz,hb,by omega,R1,fun b hb=> ?_,?_,fun b ho=> ?_⟩
  · rcases hT b hb with h|⟨cs',k,he,ho⟩
    · exact h
    · injection he with he
      subst he
      exact .inl ⟨_,(hown0 k b ho).2⟩
  · rcases hcase with⟨h1,_,_,h3⟩|⟨h1,_,h3⟩
    · exact .inl ⟨h1,h3 off x hx⟩
    · exact .inr ⟨h1,h3 off x hx⟩
  · have hown:ax G w s.fr tm (μ++[s.lam]) (.ob lev i off) b:=by
      simp only[ax,hob,hx]
      exact⟨cur,e,fz,hb,ho⟩
    refine⟨fun l h=> ?_,fun l j h=>R.apart _ b l j hown (hlv l j h),.inl ⟨_,hown⟩⟩
    have hold:ax G w s.fr tm (μ++[s.lam]) l b:=by
      rcases hO1 l b h with h|⟨cs',k,he,ho',rfl⟩
      · exact h
      · injection he with he
        subst he
        exact(hown0 k b ho').2
    have hl:=R.own l _ b hold hown
    subst hl
    obtain⟨cs',he,ho'⟩:=hO2 off b h
    injection he with he
    subst he
    exact(hown0 off b ho').1 rfl
end
end Go.Abs
set_option linter.unusedVariables false
set_option linter.unusedSimpArgs false
namespace Go.Abs
open Go
section
variable {G:Gh}{w:World}{L:Nat}{P:Program}
theorem sU: ∀{cs:List LV} {l:List CV},qH cs=some l→l.length=cs.length∧ ∀(j:Nat) c,l[j]? =some c→ ∃x,cs[j]? =some x∧dm x=some c
 |[],l,h=>by simp only[qH,Option.some.injEq]at h;subst h;exact⟨rfl,fun j c hc=>by simp at hc⟩
 |x::r,l,h=>by
  simp only[qH]at h
  obtain⟨c,h1,h2⟩:=ab.1 h
  obtain⟨l',h3,h4⟩:=ab.1 h2
  simp only[Option.some.injEq]at h4
  subst h4
  obtain⟨e,hg⟩:=sU h3
  refine⟨by simp[e],fun j c' hc=> ?_⟩
  cases j with
  |zero=>simp only[List.getElem?_cons_zero,Option.some.injEq]at hc;subst hc;exact⟨x,rfl,h1⟩
  |succ j=>simpa using hg j c' (by simpa using hc)
theorem CL_of {b:Nat}: ∀{cs:List CV} {off:Nat},(∀(j:Nat) c,cs[j]? =some c→ ∃v,w.cell? ⟨b,off+j,none⟩=some v∧off+j<G.O b∧VR G w c v)→CL G w b off cs
 |[],off,_=>by simp[CL]
 |c::r,off,h=>by
  simp only[CL]
  refine⟨by simpa using h 0 c rfl,CL_of fun j c' hc=> ?_⟩
  have:=h (j+1) c' (by simpa using hc)
  rwa [show off+(j+1)=off+1+j by omega]at this
theorem Ly {l:Lam}{i:Nat}{o:Ob}(h:i<l.length)(j:Nat):aH (l.set i o) j=if j=i then o else aH l j:=by
 simp only[aH]
 by_cases e:j=i
 ·subst e;rw[List.getElem?_set_self h];simp
 ·rw[List.getElem?_set_ne (by omega)];simp[e]
theorem cell_of_heap {b j:Nat}{cur:Array Value}{e:TypeId}{fz:Nat×Nat}(h:w.heap[b]? =some (.cells cur e fz))(hj:j<cur.size):w.cell? ⟨b,j,none⟩=some (cur.getD j undef):=by
 rw[cell_of_row w b j cur e fz h]
 simp[Array.getD,hj]
theorem Rel.freezeOb {s:S}{μ:Mu}{tm:Array Value}(R:Rel G L s μ tm w){i t n:Nat}{x:LV}(hl:aK (aH s.lam i))
  (hx:Le G w (G.setO (G.β L i) n) w→LVR (G.setO (G.β L i) n) w L s.lam.length x (tm.getD t undef)) (hno: ∀b,¬aE x (tm.getD t undef) b):
  let G':=G.setO (G.β L i) n
  let s':S:={s with fr:=upd s.fr t x,lam:=s.lam.set i .dead}
  Rel G' L s' μ tm w∧Ext L (az G w s μ tm) G w G' w (az G' w s' μ tm):=by
 intro G' s'
 have hi:=m9 hl
 have e0: ∀j,aD (μ++[s.lam]) L j=aH s.lam j:=fun j=>by rw[←R.lev];exact bZ
 have e1: ∀j,aD (μ++[s'.lam]) L j=aH s'.lam j:=fun j=>by rw[←R.lev];exact bZ
 have hl':aK (aD (μ++[s.lam]) L i):=by rw[e0];exact hl
 have hOb:G.O (G.β L i)=0:=by
  have:=R.lam i
  revert this hl
  cases aH s.lam i with
  |dead=>intro h;exact h.elim
  |cells cs=>intro _ h;simp only[ObR]at h;obtain⟨_,_,_,_,_,h,_⟩:=h;exact h
  |arr k cs=>intro _ h;simp only[ObR]at h;obtain⟨_,_,_,_,_,_,h,_⟩:=h;exact h
  |map ks vs=>intro _ h;simp only[ObR]at h;obtain⟨_,_,_,h,_⟩:=h;exact h
 have hle:Le G w G' w:=by
  refine⟨fun b es clk h hb=>⟨?_,hb⟩,fun _ _ h=>⟨h,rfl,rfl⟩,fun b off v h hc=>⟨?_,hc⟩,fun b cur e fz h=>⟨cur,fz,h,rfl⟩⟩
  ·by_cases hbb:b=G.β L i
   ·subst hbb;omega
   ·rw[bR hbb];exact h
  by_cases hbb:b=G.β L i
  ·subst hbb;omega
  ·rw[bR hbb];exact h
 have hset: ∀j,aH s'.lam j=if j=i then .dead else aH s.lam j:=fun j=>Ly hi j
 have hlen:s'.lam.length=s.lam.length:=by simp[s']
 have hlive: ∀l j,aK (aD (μ++[s'.lam]) l j)→aK (aD (μ++[s.lam]) l j)∧aD (μ++[s'.lam]) l j=aD (μ++[s.lam]) l j∧ ¬(l=L∧j=i):=by
  intro l j h
  rcases cJ (s:=s') R.lev h with⟨h1,h2⟩|⟨rfl,h1,h2⟩
  ·have:aD (μ++[s.lam]) l j=a8 μ l j:=bz (by rw[R.lev];exact h1)
   rw[h2]at h ⊢
   exact⟨by rw[this];exact h,this.symm,by omega⟩
  ·rw[h2,hset]at h
   rw[h2,hset,e0]
   split at h
   ·exact h.elim
   ·rename_i hj
    rw[if_neg hj]
    exact⟨h,rfl,by simpa using hj⟩
 have hO: ∀l j,aK (aD (μ++[s.lam]) l j)→ ¬(l=L∧j=i)→G'.O (G.β l j)=G.O (G.β l j):=fun l j h hn=>bR fun e=>hn (R.inj l j L i h hl' e)
 have hOo: ∀l b,ax G w s.fr tm (μ++[s.lam]) l b→G'.O b=G.O b:=fun l b h=>bR fun e=>R.apart l b L i h hl' e.symm
 have hownAt: ∀l b,ax G' w s'.fr tm (μ++[s'.lam]) l b→ax G w s.fr tm (μ++[s.lam]) l b:=by
  intro l b h
  cases l with
  |fr u=>
   simp only[ax,s']at h ⊢
   by_cases hu:u=t
   ·subst hu;rw[fa]at h;exact absurd h (hno b)
   ·rw[eu _ _ hu]at h;exact h
  |ob l j k=>
   simp only[ax]at h ⊢
   split at h<;>try(exact h.elim)
   rename_i cs hcs
   obtain⟨_,h2,_⟩:=hlive l j (by rw[hcs];trivial)
   rw[←h2,hcs]
   exact h
 refine⟨⟨R.lev,fun u=> ?_,fun j=> ?_,fun l j hlt=> ?_,fun l j l' j' h h' e'=>R.inj l j l' j' (hlive l j h).1 (hlive l' j' h').1 e',fun l l' b h h'=>R.own l l' b (hownAt l b h) (hownAt l' b h'),fun l b l' j h h' e'=>R.apart l b l' j (hownAt l b h) (hlive l' j h').1 e',R.nlt,?_,R.ngt⟩,?_⟩
 ·rw[hlen]
  by_cases hu:u=t
  ·subst hu
   simp only[s',fa]
   exact hx hle
  ·simp only[s',eu _ _ hu]
   exact cY hle (Nat.le_refl _) (fun _ _=>⟨rfl,rfl⟩) _ _ (fun b hb=>⟨rfl,hOo (.fr u) b hb⟩) (R.fr u)
 ·rw[hlen,hset]
  split
  ·trivial
  ·rename_i hj
   refine cH hle (Nat.le_refl _) (fun _ _=>⟨rfl,rfl⟩) (fun h=>⟨rfl,hO L j (by rw[e0];exact h) (by simpa using hj)⟩) (fun cs k x cur e fz ho hx hb b' hb'=>⟨rfl,hOo (.ob L j k) b' ?_⟩) (R.lam j)
   simp only[ax,e0,ho,hx]
   exact⟨cur,e,fz,hb,hb'⟩
 ·have e2:aD (μ++[s.lam]) l j=a8 μ l j:=bz (by rw[R.lev];exact hlt)
  refine cH (hle.below l) (Nat.le_refl _) (fun _ h=>by omega) (fun h=>⟨rfl,hO l j (by rw[e2];exact h) (by omega)⟩) (fun cs k x cur e fz ho hx hb b' hb'=>⟨rfl,hOo (.ob l j k) b' ?_⟩) (R.mu l j hlt)
  simp only[ax,e2,ho,hx]
  exact⟨cur,e,fz,hb,hb'⟩
 ·rw[hlen];exact R.nL
 ·refine⟨hle,rfl,rfl,rfl,Nat.le_refl _,fun b hb hn=>⟨rfl,bR fun e=>hn (.inr ⟨L,i,hl',e.symm⟩)⟩,fun b hb=> .inl ?_,fun _ _=>⟨fun _=>⟨rfl,rfl⟩,rfl⟩⟩
  rcases hb with⟨l,hb⟩|⟨l,j,h,rfl⟩
  ·exact .inl ⟨l,hownAt l b hb⟩
  ·exact .inr ⟨l,j,(hlive l j h).1,rfl⟩
theorem Rel.freezeFr {s:S}{μ:Mu}{tm:Array Value}{t b n:Nat}{x:LV}(R:Rel G L s μ tm w)(hb:(aE (s.fr t) (tm.getD t undef) b∧G.O b=0)∨n=G.O b)
  (hx:Le G w (G.setO b n) w→LVR (G.setO b n) w L s.lam.length x (tm.getD t undef)) (hno: ∀b',¬aE x (tm.getD t undef) b'):
  Rel (G.setO b n) L {s with fr:=upd s.fr t x} μ tm w∧Ext L (az G w s μ tm) G w (G.setO b n) w (az (G.setO b n) w {s with fr:=upd s.fr t x} μ tm):=by
 have e0: ∀j,aD (μ++[s.lam]) L j=aH s.lam j:=fun j=>by rw[←R.lev];exact bZ
 have hset:n=G.O b→ ∀b',(G.setO b n).O b'=G.O b':=fun h b'=>by
  by_cases hbb:b'=b
  ·subst hbb;rw[dc,h]
  ·exact bR hbb
 have hle:Le G w (G.setO b n) w:=by
  refine⟨fun b1 es clk h hb1=>⟨?_,hb1⟩,fun _ _ h=>⟨h,rfl,rfl⟩,fun b1 off v h hc=>⟨?_,hc⟩,fun b1 cur e fz h=>⟨cur,fz,h,rfl⟩⟩
  ·by_cases hbb:b1=b
   ·subst hbb
    rcases hb with hb|hb
    ·omega
    ·rw[hset hb];exact h
   ·rw[bR hbb];exact h
  by_cases hbb:b1=b
  ·subst hbb
   rcases hb with hb|hb
   ·omega
   ·rw[hset hb];exact h
  ·rw[bR hbb];exact h
 have hO: ∀l j,aK (aD (μ++[s.lam]) l j)→(G.setO b n).O (G.β l j)=G.O (G.β l j):=fun l j h=>hb.elim (fun hb=>bR (R.apart (.fr t) b l j hb.1 h)) fun hb=>hset hb _
 have hOo: ∀l b',l≠ .fr t→ax G w s.fr tm (μ++[s.lam]) l b'→(G.setO b n).O b'=G.O b':=fun l b' hl h=>hb.elim (fun hb=>bR fun e=>by subst e;exact hl (R.own l (.fr t) b' h hb.1)) fun hb=>hset hb _
 have hownAt: ∀l b',ax (G.setO b n) w (upd s.fr t x) tm (μ++[s.lam]) l b'→ax G w s.fr tm (μ++[s.lam]) l b':=by
  intro l b' h
  cases l with
  |fr u=>
   simp only[ax]at h ⊢
   by_cases hu:u=t
   ·subst hu;rw[fa]at h;exact absurd h (hno b')
   ·rw[eu _ _ hu]at h;exact h
  |ob l j k=>exact h
 refine⟨⟨R.lev,fun u=> ?_,fun j=> ?_,fun l j hlt=> ?_,R.inj,fun l l' b' h h'=>R.own l l' b' (hownAt l b' h) (hownAt l' b' h'),fun l b' l' j h h' e'=>R.apart l b' l' j (hownAt l b' h) h' e',R.nlt,R.nL,R.ngt⟩,?_⟩
 ·by_cases hu:u=t
  ·subst hu
   simp only[fa]
   exact hx hle
  ·simp only[eu _ _ hu]
   exact cY hle (Nat.le_refl _) (fun _ _=>⟨rfl,rfl⟩) _ _ (fun b' hb'=>⟨rfl,hOo (.fr u) b' (by simpa using hu) hb'⟩) (R.fr u)
 ·refine cH hle (Nat.le_refl _) (fun _ _=>⟨rfl,rfl⟩) (fun h=>⟨rfl,hO L j (by rw[e0];exact h)⟩) (fun cs k x cur e fz ho hx hb1 b' hb'=>⟨rfl,hOo (.ob L j k) b' (by simp) ?_⟩) (R.lam j)
  simp only[ax,e0,ho,hx]
  exact⟨cur,e,fz,hb1,hb'⟩
 ·have e2:aD (μ++[s.lam]) l j=a8 μ l j:=bz (by rw[R.lev];exact hlt)
  refine cH (hle.below l) (Nat.le_refl _) (fun _ h=>by omega) (fun h=>⟨rfl,hO l j (by rw[e2];exact h)⟩) (fun cs k x cur e fz ho hx hb1 b' hb'=>⟨rfl,hOo (.ob l j k) b' (by simp) ?_⟩) (R.mu l j hlt)
  simp only[ax,e2,ho,hx]
  exact⟨cur,e,fz,hb1,hb'⟩
 ·refine⟨hle,rfl,rfl,rfl,Nat.le_refl _,fun b' hb1 hn=>⟨rfl,hb.elim (fun hb=>bR fun e=>hn (.inl ⟨.fr t,by subst e;exact hb.1⟩)) fun hb=>hset hb _⟩,fun b' hb1=> .inl ?_,fun _ _=>⟨fun _=>⟨rfl,rfl⟩,rfl⟩⟩
  rcases hb1 with⟨l,hb1⟩|⟨l,j,h,rfl⟩
  ·exact .inl ⟨l,hownAt l b' hb1⟩
  ·exact .inr ⟨l,j,h,rfl⟩
theorem As {b n:Nat}{cur:Array Value}{e:TypeId}{fz:Nat×Nat}(hb:w.heap[b]? =some (.cells cur e fz))(hO:G.O b=n)(hn:n≤cur.size): ∀(off:Nat) (xs:List Value),off+xs.length≤n→
  (∀(j:Nat) x,xs[j]? =some x→cur.getD (off+j) undef=x)→EL G w b 1 off (xs.map .v)
 |off,[],_,_=>by simp[EL]
 |off,x::r,hl,h=>by
  simp only[List.length_cons]at hl
  simp only[List.map_cons,EL,VR]
  refine⟨⟨cur.getD off undef,cell_of_heap hb (by omega),by omega,by simpa using h 0 x rfl⟩,As hb hO hn (off+1) r (by omega) fun j y hy=> ?_⟩
  have:=h (j+1) y (by simpa using hy)
  rw[show off+(j+1)=off+1+j by omega]at this
  exact this
theorem zH {t:Nat}{s s':S}{μ:Mu}{tm:Array Value}(h:yk t s=some s')(R:Rel G L s μ tm w):
  ∃G',Rel G' L s' μ tm w∧Ext L (az G w s μ tm) G w G' w (az G' w s' μ tm):=by
 unfold yk at h
 split at h
 rotate_left
 ·rename_i i hfr
  split at h<;>try(simp at h;done)
  rename_i ks vs hob'
  simp only[Option.some.injEq]at h
  subst h
  have hob:=R.lam i
  rw[hob']at hob
  simp only[ObR]at hob
  obtain⟨es,clk,hb,hO,hk,hr⟩:=hob
  have hv:=R.fr t
  rw[hfr]at hv
  simp only[LVR]at hv
  refine⟨_,R.freezeOb (n:=1) (by rw[hob'];trivial) (fun hle=> ?_) (fun b hb=>by simp[aE]at hb)⟩
  rw[hv.2]
  simp only[LVR,VR]
  exact⟨_,es,clk,rfl,hb,by rw[dc];omega,hk,gj hle vs _ hr⟩
 ·rename_i xs hfr
  simp only[Option.some.injEq]at h
  subst h
  have hv:=R.fr t
  rw[hfr]at hv
  simp only[LVR]at hv
  rcases hv with⟨h1,h2⟩|⟨b,cap,cur,e,hv,hb,h1,h2,h3,h4,h5⟩
  ·subst h1
   refine⟨_,R.freezeFr (n:=G.O 0) (b:=0) (.inr rfl) (fun hle=> ?_) (fun b hb=>by simp[aE]at hb)⟩
   rw[h2]
   simp only[LVR]
   exact JQ
  refine⟨_,R.freezeFr (n:=xs.length) (b:=b) (.inl ⟨by rw[hfr,hv];simp[aE],h4⟩) (fun hle=> ?_) (fun b hb=>by simp[aE]at hb)⟩
  rw[hv]
  simp only[LVR,VR]
  refine⟨_,_,_,rfl,by simp,h1,.inr ⟨b,0,1,rfl,fun x hx=> ?_,As hb (dc ..) (by omega) 0 xs (by omega) (fun j x hx=>by simpa using h5 j x hx)⟩⟩
  obtain⟨y,_,rfl⟩:=List.mem_map.1 hx
  rfl
 ·simp at h
 rename_i i off hfr
 split at h<;>try(simp at h;done)
 rename_i h0
 simp only[decide_eq_true_eq]at h0
 subst h0
 split at h<;>try(simp at h;done)
 rename_i cs hcs
 obtain⟨l,hl,h⟩:=ab.1 h
 simp only[Option.some.injEq]at h
 subst h
 have hob:=R.lam i
 rw[hcs]at hob
 simp only[ObR]at hob
 obtain⟨cur,e,fz,hb,hu,hO,hsz,hr⟩:=hob
 have hv:=R.fr t
 rw[hfr]at hv
 simp only[LVR]at hv
 obtain⟨e1,hg⟩:=sU hl
 refine⟨_,R.freezeOb (n:=cur.size) (by rw[hcs];trivial) (fun hle=> ?_) (fun b hb=>by simp[aE]at hb)⟩
 rw[hv.2]
 simp only[LVR,VR]
 refine⟨_,_,rfl,CL_of fun j c hc=> ?_⟩
 obtain⟨x,hx,hgc⟩:=hg j c hc
 have hj:j<cur.size:=by
  have:=(List.getElem?_eq_some_iff.1 hx).1
  omega
 refine⟨cur.getD j undef,?_,?_,bm hle c _ (eQ hgc (hr j x hx))⟩
 ·rw[Nat.zero_add];exact cell_of_heap hb hj
 ·rw[dc];omega
theorem qP: ∀{ts:List Nat} {s s':S} {μ:Mu} {tm:Array Value} {G:Gh},oO ts s=some s'→Rel G L s μ tm w→
  ∃G',Rel G' L s' μ tm w∧Ext L (az G w s μ tm) G w G' w (az G' w s' μ tm)
 |[],s,s',μ,tm,G,h,R=>by
  simp only[oO,Option.some.injEq]at h
  subst h
  exact⟨G,R,Ext.refl G w fun _ h=>h⟩
 |t::r,s,s',μ,tm,G,h,R=>by
  simp only[oO]at h
  obtain⟨s1,h1,h2⟩:=ab.1 h
  obtain⟨G1,R1,E1⟩:=zH h1 R
  obtain⟨G2,R2,E2⟩:=qP h2 R1
  exact⟨G2,R2,E1.trans E2⟩
theorem wD {isA:Bool}{sz:Nat}: ∀(n:Nat) (cs:List CV),(jT isA sz n cs).length=n
 |0,cs=>rfl
 |n+1,cs=>by simp[jT,wD n]
theorem uw: ∀(n:Nat) {cs:List CV},gA cs=true→gA (cs.drop n)=true
 |0,cs,h=>h
 |n+1,[],h=>rfl
 |n+1,c::r,h=>by
  simp only[gA]at h
  split at h<;>try(simp at h;done)
  simpa using uw n h
theorem yO {isA:Bool}{sz b:Nat}: ∀(n off:Nat) (cs:List CV),(isA=true∨(sz=1∧gA cs=true))→n*sz≤cs.length→CL G w b off cs→
  (∀x∈jT isA sz n cs,x.cells.length=sz)∧EL G w b sz off (jT isA sz n cs)
 |0,off,cs,_,_,_=>by simp[jT,EL]
 |n+1,off,cs,hz,hl,h=>by
  have hl':n*sz+sz≤cs.length:=by rw[Nat.add_mul]at hl;omega
  obtain⟨h1,h2⟩:=yO n (off+sz) (cs.drop sz) (hz.imp id fun hz=>⟨hz.1,uw sz hz.2⟩) (by simp only[List.length_drop];omega) (ov sz h)
  cases isA with
  |true=>
   simp only[jT,List.mem_cons,forall_eq_or_imp,EL]
   refine⟨⟨?_,h1⟩,xM sz h,h2⟩
   simp only[CV.cells,List.length_take];omega
  |false=>
   obtain⟨hz1,hs⟩:sz=1∧gA cs=true:=by rcases hz with hz|hz<;>simp_all
   subst hz1
   cases cs with
   |nil=>simp at hl'
   |cons c r=>
    simp only[jT,List.headD_cons,List.mem_cons,forall_eq_or_imp]
    simp only[gA]at hs
    split at hs<;>try(simp at hs;done)
    rename_i hs1
    simp only[CL]at h
    cases c<;>simp only[o5,Bool.false_eq_true]at hs1<;>simp only[EL]<;>exact⟨⟨rfl,h1⟩,h.1,h2⟩
theorem wK {t:Nat}{e:TypeId}{s s':S}{μ:Mu}{tm:Array Value}(h:r5 P t e s=some s')(R:Rel G L s μ tm w):
  ∃G',Rel G' L s' μ tm w∧Ext L (az G w s μ tm) G w G' w (az G' w s' μ tm):=by
 unfold r5 at h
 split at h<;>try(simp at h;done)
 rename_i i off len hfr
 split at h<;>try(simp at h;done)
 rename_i h0
 simp only[decide_eq_true_eq]at h0
 subst h0
 split at h<;>try(simp at h;done)
 rename_i sz cs hcs
 obtain⟨n,hn,h⟩:=ab.1 h
 obtain⟨hsz,h⟩:=aI.1 h
 obtain⟨hg,h⟩:=aI.1 h
 simp only[Option.some.injEq]at h
 subst h
 have hsz:=Nat.eq_of_beq_eq_true hsz
 subst hsz
 simp only[Bool.and_eq_true,Bool.or_eq_true]at hg
 obtain⟨hg1,hg2⟩:=hg
 have hg2:=Nat.le_of_ble_eq_true hg2
 have hob:=R.lam i
 rw[hcs]at hob
 simp only[ObR]at hob
 obtain⟨hk,cur,e',fz,hb,hu,hO,hle,hr⟩:=hob
 have hv:=R.fr t
 rw[hfr]at hv
 simp only[LVR]at hv
 obtain⟨hi,cap,cur2,e2,fz2,hv1,hv2,hv3,hv4,hv5⟩:=hv
 refine⟨_,R.freezeOb (n:=cur.size) (by rw[hcs];trivial) (fun hle'=> ?_) (fun b hb=>by simp[aE]at hb)⟩
 rw[hv1]
 simp only[LVR,VR]
 have hcl:CL (G.setO (G.β L i) cur.size) w (G.β L i) 0 cs:=CL_of fun j c hc=>by
  have hj:j<cur.size:=by
   have:=(List.getElem?_eq_some_iff.1 hc).1
   omega
  exact⟨cur.getD j undef,by rw[Nat.zero_add];exact cell_of_heap hb hj,by rw[dc];omega,bm hle' c _ (hr j c hc)⟩
 obtain ⟨k1, k2⟩ := yO (isA := eo P e) (sz := sz) len 0 cs (by
  rcases hg1 with h|⟨h1,h2⟩
  ·exact .inl h
  ·exact .inr ⟨Nat.eq_of_beq_eq_true h1,h2⟩) hg2 hcl
 exact⟨_,len,cap,rfl,(wD len cs).symm,hv2,.inr ⟨G.β L i,0,sz,rfl,k1,k2⟩⟩
theorem m6: ∀{ts:List (Nat×TypeId)} {s s':S} {μ:Mu} {tm:Array Value} {G:Gh},jV P ts s=some s'→Rel G L s μ tm w→
  ∃G',Rel G' L s' μ tm w∧Ext L (az G w s μ tm) G w G' w (az G' w s' μ tm)
 |[],s,s',μ,tm,G,h,R=>by
  simp only[jV,Option.some.injEq]at h
  subst h
  exact⟨G,R,Ext.refl G w fun _ h=>h⟩
 |t::r,s,s',μ,tm,G,h,R=>by
  simp only[jV]at h
  obtain⟨s1,h1,h2⟩:=ab.1 h
  obtain⟨G1,R1,E1⟩:=wK h1 R
  obtain⟨G2,R2,E2⟩:=m6 h2 R1
  exact⟨G2,R2,E1.trans E2⟩
end
end Go.Abs
set_option linter.unusedVariables false
set_option linter.unusedSimpArgs false
namespace Go.Abs
open Go
def KOK {α:Type}(L:Nat)(G:Gh)(w:World)(s:S)(μ:Mu)(a:Act)(dst:Option Tmp)(k:LV→S→Mu→Option α)(r:α)(K:Act→World→Prop):Prop:=
 ∀v s' μ' cv w' G',k v s' μ'=some r→Rel G' L (s'.put dst v) μ' (a.put dst cv).tmps w'→
  Ext L (az G w s μ a.tmps) G w G' w' (az G' w' (s'.put dst v) μ' (a.put dst cv).tmps)→K (a.put dst cv) w'
def POK {α:Type}(L:Nat)(G:Gh)(w:World)(s:S)(μ:Mu)(a:Act)(p:CV→S→Mu→Option α)(r:α)(Q:Exit→Act→World→Prop):Prop:=
 ∀v s' μ' pv w' G',p v s' μ'=some r→Rel G' L s' μ' a.tmps w'→VR G' w' v pv→
  Ext L (az G w s μ a.tmps) G w G' w' (az G' w' s' μ' a.tmps)→Q (.panic [{v:=pv,recovered:=false}]) a w'
section
variable {P:Program}{α:Type}{L:Nat}{G:Gh}{w:World}{s:S}{μ:Mu}{a:Act}{o:Oper}{k:LV→S→Mu→Option α}{p:CV→S→Mu→Option α}{r:α}{K:Act→World→Prop}{Q:Exit→Act→World→Prop}
theorem de {cv:Value}{w':World}(h:(execOp a.eval o).run P w= .ok (.value cv) w')(hK:K (a.put o.dst cv) w'):o.wp P a w K Q:=by
 unfold Oper.wp;rw[h];exact hK
theorem mA {w':World}(h:(execOp a.eval o).run P w= .ok .skip w')(hK:K (a.put o.dst undef) w'):o.wp P a w K Q:=by
 unfold Oper.wp;rw[h];exact hK
theorem Ey {v:Value}{w':World}(h:(execOp a.eval o).run P w= .halt (.panic v) w')(hQ:Q (.panic [{v,recovered:=false}]) a w'):o.wp P a w K Q:=by
 unfold Oper.wp;rw[h];exact hQ
theorem dn (R:Rel G L s μ a.tmps w)(hd: ∀d,o.dst=some d→d<a.tmps.size)(hk:KOK L G w s μ a o.dst k r K){ts:List Nat}{v:LV}{cv:Value}
  (h:k v (ad ts s) μ=some r) (hrun:(execOp a.eval o).run P w= .ok (.value cv) w) (hv:LVR G w L s.lam.length v cv)
  (ho: ∀b,aE v cv b→ ∃t,t∈ts∧aE (s.fr t) (a.tmps.getD t undef) b):o.wp P a w K Q:=by
 obtain⟨h1,h2⟩:=MO (dst:=o.dst) R hv ho hd
 exact de hrun (hk v _ μ cv w G h h1 h2)
theorem cB (R:Rel G L s μ a.tmps w)(hd: ∀d,o.dst=some d→d<a.tmps.size)(hk:KOK L G w s μ a o.dst k r K){ts:List Nat}{c:CV}
  (h:k (.cv c) (ad ts s) μ=some r) (hrun: ∃cv,(execOp a.eval o).run P w= .ok (.value cv) w∧VR G w c cv):o.wp P a w K Q:=by
 obtain⟨cv,h1,h2⟩:=hrun
 exact dn R hd hk h h1 (by simpa[LVR]using h2) (fun b hb=>by simp[aE]at hb)
theorem NN {x:LV}{v:Value}{n:Int}{t ty:TypeId}(h:Hy P t x=some n)(hv:LVR G w L s.lam.length x v):(Builtin.len_ #[t] ty #[v]).run P w= .ok (.int .i64 n) w:=by
 unfold Hy at h
 split at h
 ·rename_i hu
  obtain⟨l,h1,h2⟩:=ab.1 h
  simp only[Option.some.injEq]at h2
  rw[fv h1]at hv
  simp only[LVR,VR]at hv
  subst hv
  have e: ∀b:ByteArray,(Builtin.len_ #[t] ty #[.string b]).run P w= .ok (goInt (b.size:Nat)) w:=fun b=>by simp[Builtin.len_,run_underlying hu]
  rw[e,←h2]
  rfl
 ·rename_i e hu
  unfold PT at h
  have key: ∀A m c,v= .slice A m c→(m:Int)=n→(Builtin.len_ #[t] ty #[v]).run P w= .ok (.int .i64 n) w:=by
   intro A m c e em
   subst e
   simp[Builtin.len_,run_underlying hu,goInt,em]
  have key2: ∀xs,VR G w (.sl xs) v→(xs.length:Int)=n→(Builtin.len_ #[t] ty #[v]).run P w= .ok (.int .i64 n) w:=by
   intro xs hx e
   simp only[VR]at hx
   obtain⟨A,len,cap,e1,e2,_⟩:=hx
   exact key A len cap e1 (by rw[e2];exact e)
  split at h<;>simp only[Option.some.injEq,reduceCtorEq]at h
  ·simp only[LVR]at hv;exact key2 _ hv h
  ·simp only[LVR,VR]at hv;exact key none 0 0 hv h
  ·simp only[LVR]at hv;exact key2 _ (gi hv) h
  ·simp only[LVR]at hv
   obtain⟨_,cap,cur,e,fz,e1,_⟩:=hv
   exact key _ _ cap e1 h
  ·simp only[LVR,VR]at hv
   obtain⟨_,cap,cur,e,fz,e1,_⟩:=hv
   exact key _ _ cap e1 h
  ·simp only[LVR]at hv
   obtain⟨A,cap,e1⟩:=hv
   exact key A _ cap e1 h
 ·simp at h
theorem wQ {x:LV}{v:Value}(h:jZ x=some false)(hv:LVR G w L s.lam.length x v)(x':Operand)(he:a.eval x'=v)(ho:o.op= .nilCheck x'):
  (execOp a.eval o).run P w= .ok (.value v) w:=by
 have: ∀u,(match u with| .pointer none| .nilIface| .nilFunc=>False| .func (.method _) _ _=>False|_=>True)→a.eval x'=u→(execOp a.eval o).run P w= .ok (.value u) w:=by
  intro u hu e
  simp only[execOp,ho,e]
  cases u with
  |pointer A=>cases A<;>first|exact hu.elim|rfl
  |func fn f c=>cases fn<;>first|exact hu.elim|rfl
  |nilIface=>exact hu.elim
  |nilFunc=>exact hu.elim
  |_=>rfl
 refine this v ?_ he
 unfold jZ at h
 split at h<;>simp only[Option.some.injEq,reduceCtorEq,Bool.true_eq_false,Bool.false_eq_true]at h<;>simp only[LVR,VR]at hv
 ·obtain⟨_,_,rfl,_⟩:=hv;trivial
 ·obtain⟨_,rfl⟩:=hv;trivial
 ·obtain⟨_,rfl,_⟩:=hv;trivial
 ·obtain⟨_,rfl,_⟩:=hv;trivial
 ·obtain⟨_,rfl⟩:=hv;trivial
 ·obtain⟨_,rfl,_⟩:=hv;trivial
 ·obtain⟨_,rfl,_⟩:=hv;trivial
 ·obtain⟨_,rfl,_⟩:=hv;trivial
theorem Jr {nl:Nat}{x:LV}{v:Value}(hv:LVR G w L nl x v):LVR G w L nl (pg x) v∧ ∀b,aE (pg x) v b→aE x v b:=by
 cases x with
 |tloc i t n=>
  simp only[LVR,pg]at hv ⊢
  exact⟨⟨hv.1,hv.2.1⟩,fun b hb=>by simp[aE]at hb⟩
 |cv c=>
  cases c with
  |tref lev i t n=>
   simp only[LVR,VR,pg,kY]at hv ⊢
   exact⟨⟨hv.1,hv.2.1⟩,fun b hb=>by simp[aE]at hb⟩
  |_=>exact⟨hv,fun _ hb=>hb⟩
 |_=>exact⟨hv,fun _ hb=>hb⟩
end
end Go.Abs
