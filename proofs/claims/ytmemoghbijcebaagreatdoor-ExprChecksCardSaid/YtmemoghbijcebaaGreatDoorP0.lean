/-
  The statement ExprChecksCardSaid, proved; part 1 of 10 of its proof.
-/
import Derived.Orders
import Derived.LoopN
import Derived.Laws.Sem
import Derived.Laws.World
import Derived.Laws.AppendOwn
import Derived.Laws.MakeOwn
import Derived.WalkKit
set_option linter.all false
set_option linter.unusedSectionVars false
set_option linter.unusedVariables false
namespace Go.Abs
open Go
inductive CV where
 |undef
 |v (x:Value)
 |agg (cs:List CV)
 |sl (xs:List CV)
 |view (cs:List CV)
 |ref (lev i off:Nat)
 |msl (lev i off len:Nat)
 |clo (f:FuncId) (caps:List CV)
 |iface (t:TypeId) (x:CV)
 |mview (ks:List Value) (vs:List CV)
 |mref (lev i:Nat)
 |tref (lev i:Nat) (t:TypeId) (n:Nat)
 deriving Inhabited
inductive LV where
 |cv (c:CV)
 |osl (xs:List CV)
 |loc (i off:Nat)
 |lsl (i off len:Nat)
 |lclo (f:FuncId) (caps:List LV)
 |ltup (xs:List LV)
 |mloc (i:Nat)
 |tloc (i:Nat) (t:TypeId) (n:Nat)
 |ost (xs:List Value)
 |stl (n:Nat)
 deriving Inhabited
inductive Ob where
 |cells (cs:List LV)
 |arr (sz:Nat) (cs:List CV)
 |dead
 |map (ks:List Value) (vs:List CV)
 deriving Inhabited
abbrev Lam:=List Ob
abbrev Mu:=List Lam
inductive Out where
 |ret (v:LV) (μ:Mu)
 |panic (v:CV) (μ:Mu)
abbrev Fr:=Nat→LV
structure S where
 fr:Fr
 lam:Lam
 pushed:Bool
inductive St where
 |norm (s:S) (μ:Mu)
 |exit (id:Nat) (s:S) (μ:Mu)
 |ret (s:S) (μ:Mu)
 |panic (v:CV) (s:S) (μ:Mu)
structure OpHint where
 take:List Nat:=[]
 freeze:List Nat:=[]
 fza:List (Nat×TypeId):=[]
 cell:Bool:=false
 arr:Bool:=false
 outer:Bool:=false
 push:Bool:=false
 own:Bool:=false
 hide:Option Nat:=none
structure Hints where
 ops:List ((Nat×Nat)×OpHint):=[]
 live:List (Nat×List (Nat×Nat)×List (Nat×Nat)):=[]
 cuts:List (Nat×List (Nat×Nat)×List (Nat×Nat)):=[]
 objs:List (Nat×List (Nat×List Nat)):=[]
 res:List (Nat×Nat):=[]
 pan:List (Nat×Nat):=[]
 dfr:Option Nat:=none
 deriving Inhabited
@[reducible] def CV.int (k:IntKind) (n:Int):CV:= .v (.int k n)
@[reducible] def CV.bool (b:Bool):CV:= .v (.bool b)
@[reducible] def CV.str (l:List UInt8):CV:= .v (.string ⟨⟨l⟩⟩)
@[reducible] def LV.int (k:IntKind) (n:Int):LV:= .cv (.v (.int k n))
@[reducible] def LV.bool (b:Bool):LV:= .cv (.v (.bool b))
@[reducible] def LV.str (l:List UInt8):LV:= .cv (.v (.string ⟨⟨l⟩⟩))
def opt {α β:Type}(x:Option α)(k:α→Option β):Option β:=match x with|some a=>k a|none=>none
def ax {β:Type}(b:Bool)(k:Option β):Option β:=cond b k none
def bC (n:Nat):Bool:=decide (n≤1099511627776)
def upd (g:Fr)(t:Nat)(v:LV):Fr:=fun u=>match Nat.beq u t with|true=>v|false=>g u
def dR:List (Nat×LV)→Fr
 |[],_=> .cv .undef
 |(s,v)::r,t=>match Nat.beq s t with|true=>v|false=>dR r t
def iA:List Nat→Nat→Bool
 |[],_=>false
 |a::r,t=>match Nat.beq a t with|true=>true|false=>iA r t
def strip1:LV→LV
 | .cv c=> .cv c
 | .osl xs=> .cv (.sl xs)
 | .loc i off=> .loc i off
 | .lsl i off len=> .lsl i off len
 | .lclo f caps=> .lclo f caps
 | .mloc i=> .mloc i
 | .tloc i t n=> .tloc i t n
 | .ost xs=> .stl xs.length
 | .stl n=> .stl n
 | .ltup _=> .cv .undef
def strip:LV→LV
 | .cv c=> .cv c
 | .osl xs=> .cv (.sl xs)
 | .loc i off=> .loc i off
 | .lsl i off len=> .lsl i off len
 | .lclo f caps=> .lclo f caps
 | .mloc i=> .mloc i
 | .tloc i t n=> .tloc i t n
 | .ost xs=> .stl xs.length
 | .stl n=> .stl n
 | .ltup xs=> .ltup (xs.map strip1)
@[simp] def oX:LV→Bool
 | .osl _=>true
 | .ost _=>true
 |_=>false
def S.set (s:S)(t:Nat)(v:LV):S:={s with fr:=upd s.fr t v}
def S.put (s:S)(dst:Option Nat)(v:LV):S:=match dst with|some t=>s.set t v|none=>s
def ab:List Nat→S→S
 |[],s=>s
 |t::r,s=>ab r (s.set t (strip (s.fr t)))
def ic:Value→LV
 | .agg cs=> .cv (.agg (cs.toList.map .v))
 | .tuple cs=> .ltup (cs.toList.map fun c=> .cv (.v c))
 |x=> .cv (.v x)
def evA (h:OpHint)(fr:Fr):Operand→LV
 | .tmp t=>match iA h.take t with|true=>fr t|false=>strip (fr t)
 | .const c=>ic c
 | .global _=> .cv .undef
 | .func f=> .cv (.clo f [])
def CV.cells:CV→List CV
 | .agg cs=>cs
 |c=>[c]
def dc:CV→Bool
 | .undef=>false
 | .agg _=>false
 | .v x=>x.oneCell'
 |_=>true
def de:List CV→Bool
 |[]=>true
 |c::r=>match dc c with|true=>de r|false=>false
def eJ:CV→Bool
 | .agg cs=>de cs
 |c=>dc c
def LV.cells:LV→Option (List LV)
 | .cv c=>match eJ c with|true=>some (c.cells.map .cv)|false=>none
 | .ltup _=>none
 |x=>some [x]
def aC (k:IntKind):LV→Option Int
 | .cv (.v (.int k' n))=>match decide (k=k')with|true=>some n|false=>none
 |_=>none
def aM:LV→Option Bool
 | .cv (.v (.bool b))=>some b
 |_=>none
def aN:LV→Option (List UInt8)
 | .cv (.v (.string s))=>some s.data.toList
 |_=>none
def bp:LV→Option (List CV)
 | .cv (.sl xs)=>some xs
 | .cv (.v (.slice none 0 0))=>some []
 | .osl xs=>some xs
 |_=>none
def gM:LV→Option (List CV)
 | .osl xs=>some xs
 | .cv (.v (.slice none 0 0))=>some []
 |_=>none
def yD:LV→Option (List Value)
 | .ost xs=>some xs
 | .cv (.v (.slice none 0 0))=>some []
 |_=>none
def u4:List CV→Option (List Value)
 |[]=>some []
 | .v x::r=>match x.oneCell' with|true=>opt (u4 r) fun l=>some (x::l)|false=>none
 |_::_=>none
def bP:LV→Option CV
 | .cv c=>some c
 | .osl xs=>some (.sl xs)
 |_=>none
def cU:LV→Option (List CV)
 | .cv (.agg cs)=>some cs
 |_=>none
def aT:LV→Option (List LV)
 | .ltup xs=>some xs
 |_=>none
def aw {α:Type}:List α→Option (α×List α)
 |a::r=>some (a,r)
 |[]=>none
def aO {α:Type}:List α→Option Unit
 |[]=>some ()
 |_::_=>none
def gz {β:Type}(d:TypeDesc)(c:LV)(k:CV→Option β):Option β:=
 match d with
 | .int ik=>opt (aC ik c) fun n=>k (.v (.int ik n))
 | .bool=>opt (aM c) fun b=>k (.v (.bool b))
 | .string=>opt (aN c) fun l=>k (.v (.string ⟨⟨l⟩⟩))
 | .slice _=>opt (bp c) fun xs=>k (.sl xs)
 |_=>opt (bP c) k
def dt {β:Type}:List TypeDesc→List CV→(List CV→Option β)→Option β
 |[],cs,k=>opt (aO cs) fun _=>k []
 |d::ds,cs,k=>opt (aw cs) fun q=>gz d (.cv q.1) fun c=>dt ds q.2 fun r=>k (c::r)
def yP (P:Program):(depth:Nat)→TypeId→List TypeDesc
 |0,_=>[]
 |d+1,t=>match P.underlying t with
  |some (.struct fs)=>fs.toList.flatMap fun f=>yP P d f.type
  |some (.array n e)=>(List.replicate n ()).flatMap fun _=>yP P d e
  |some x=>[x]
  |none=>[]
def bD (P:Program)(t:TypeId):Bool:=
 match P.underlying t with
 |some (.struct _)=>true
 |some (.array _ _)=>true
 |_=>false
def yI (P:Program)(t:TypeId):Bool:=
 match P.underlying t with
 |some (.array n _)=>Nat.ble 20 n
 |_=>false
def fG {β:Type}(P:Program)(t:TypeId)(v:LV)(k:CV→Option β):Option β:=
 match bD P t with
 |true=>match yI P t with
  |true=>opt (cU v) fun cs=>k (.agg cs)
  |false=>opt (cU v) fun cs=>dt (yP P 8 t) cs fun cs=>k (.agg cs)
 |false=>match P.underlying t with
  |some d=>gz d v k
  |none=>none
def eZ {β:Type}(P:Program)(t:TypeId)(c:CV)(k:CV→Option β):Option β:=fG P t (.cv c) k
def jG {β:Type}(P:Program)(own:Bool)(t:TypeId)(v:LV)(k:LV→Option β):Option β:=
 match own with
 |true=>opt (gM v) fun xs=>k (.osl xs)
 |false=>fG P t v fun c=>k (.cv c)
def eo {β:Type}(P:Program):List TypeId→List LV→(List LV→Option β)→Option β
 |[],vs,k=>opt (aO vs) fun _=>k []
 |t::ts,vs,k=>opt (aw vs) fun q=>jG P false t q.1 fun x=>eo P ts q.2 fun r=>k (x::r)
def cW {β:Type}(P:Program)(own:Bool)(t:TypeId)(v:LV)(k:LV→Option β):Option β:=
 match P.underlying t with
 |some (.tuple ts)=>opt (aT v) fun xs=>eo P ts.toList xs fun xs=>k (.ltup xs)
 |_=>jG P own t v k
def nR (op:BinOp)(k:IntKind)(a:Int)(k':IntKind)(b:Int):Option CV:=
 match op with
 | .shl| .shr=>match decide (b<0)with
  |true=>none
  |false=>match op with
   | .shl=>some (.int k (k.wrap (a*2^(min b.toNat k.bits))))
   |_=>some (.int k (a.fdiv (2^(min b.toNat k.bits))))
 |_=>match decide (k=k')with
  |false=>none
  |true=>match op with
   | .add=>some (.int k (k.wrap (a+b)))
   | .sub=>some (.int k (k.wrap (a-b)))
   | .mul=>some (.int k (k.wrap (a*b)))
   | .quo=>match decide (b=0)with|true=>none|false=>some (.int k (k.wrap (a.tdiv b)))
   | .rem=>match decide (b=0)with|true=>none|false=>some (.int k (a.tmod b))
   | .and=>some (.int k (k.wrap (BitVec.ofInt k.bits a &&& BitVec.ofInt k.bits b).toNat))
   | .or=>some (.int k (k.wrap (BitVec.ofInt k.bits a ||| BitVec.ofInt k.bits b).toNat))
   | .xor=>some (.int k (k.wrap (BitVec.ofInt k.bits a ^^^ BitVec.ofInt k.bits b).toNat))
   | .andNot=>some (.int k (k.wrap (BitVec.ofInt k.bits a &&& ~~~BitVec.ofInt k.bits b).toNat))
   | .eql=>some (.bool (decide (a=b)))
   | .neq=>some (.bool (!decide (a=b)))
   | .lss=>some (.bool (decide (a<b)))
   | .leq=>some (.bool (decide (a≤b)))
   | .gtr=>some (.bool (decide (b<a)))
   | .geq=>some (.bool (decide (b≤a)))
   |_=>none
def FE (op:BinOp)(a b:List UInt8):Option CV:=
 match op with
 | .add=>match bC (a.length+b.length)with|true=>some (.str (a++b))|false=>none
 | .eql=>some (.bool (decide (a=b)))
 | .neq=>some (.bool (!decide (a=b)))
 | .lss=>some (.bool (Op.bytesLess a b))
 | .leq=>some (.bool (Op.bytesLess a b||decide (a=b)))
 | .gtr=>some (.bool (!(Op.bytesLess a b||decide (a=b))))
 | .geq=>some (.bool (!Op.bytesLess a b))
 |_=>none
def De:CV→CV→Option Bool
 | .v (.int k a),.v (.int k' b)=>match decide (k=k')with|true=>some (decide (a=b))|false=>none
 | .v (.bool a),.v (.bool b)=>some (a == b)
 | .v (.string a),.v (.string b)=>some (decide (a.data.toList=b.data.toList))
 |_,_=>none
def pU:List CV→List CV→Option Bool
 |[],[]=>some true
 |a::as,b::bs=>opt (De a b) fun x=>opt (pU as bs) fun y=>some (x&&y)
 |_,_=>none
def wu (P:Program)(t:TypeId):Option (List TypeDesc):=
 match P.underlying t with
 |some (.struct fs)=>
  match (fs.toList.zipIdx.all fun q => q.1.offset == q.2 && q.1.name != "_" &&
    (match P.underlying q.1.type with|some (.int _)=>true|some .bool=>true|some .string=>true|_=>false))&& !P.stoodInHeld t&& !P.eqGuardType P.depth t with
  |true=>some (fs.toList.map fun f=>(P.underlying f.type).getD .invalid)
  |false=>none
 |_=>none
def yO:TypeDesc→CV→Bool
 | .int k,.v (.int k' _)=>decide (k=k')
 | .bool,.v (.bool _)=>true
 | .string,.v (.string _)=>true
 |_,_=>false
def ji:List TypeDesc→List CV→Bool
 |[],[]=>true
 |d::ds,c::cs=>yO d c&&ji ds cs
 |_,_=>false
def eU:LV→Option Bool
 | .cv (.v (.pointer none))=>some true
 | .cv (.view _)=>some false
 | .cv (.ref _ _ _)=>some false
 | .cv (.clo _ _)=>some false
 | .cv (.iface _ _)=>some false
 | .loc _ _=>some false
 | .lclo _ _=>some false
 | .tloc _ _ _=>some false
 | .cv (.tref _ _ _ _)=>some false
 |_=>none
def eM:CV→CV
 | .tref lev i _ _=> .ref lev i 0
 |c=>c
def qp:LV→LV
 | .tloc i _ _=> .loc i 0
 | .cv c=> .cv (eM c)
 |x=>x
def tW (typed:Bool)(i:Nat)(t:TypeId)(n:Nat):LV:=match typed with|true=> .tloc i t n|false=> .loc i 0
def n0:LV→Option Bool
 | .cv (.v (.pointer none))=>some true
 | .cv (.view _)=>some false
 | .cv (.ref _ _ _)=>some false
 | .loc _ _=>some false
 |_=>none
def Cg:LV→Option Bool
 | .cv (.v .nilIface)=>some true
 | .cv (.iface _ _)=>some false
 |_=>none
def Tc:LV→Option Bool
 | .cv (.v (.slice none 0 0))=>some true
 | .cv (.sl (_::_))=>some false
 | .osl (_::_)=>some false
 |_=>none
def uI (d:TypeDesc)(c:Value)(a:LV):Option Bool:=
 match d,c with
 | .pointer _,.pointer none=>n0 a
 | .interface _,.nilIface=>Cg a
 | .slice _,.slice none 0 0=>Tc a
 |_,_=>none
def j4:Operand→Option Value
 | .const c=>some c
 |_=>none
def rh (P:Program)(op:BinOp)(t:TypeId)(x y:Operand)(a b:LV):Option CV:=
 match a,b with
 | .cv (.v (.int k m)),.cv (.v (.int k' n))=>nR op k m k' n
 | .cv (.v (.string m)),.cv (.v (.string n))=>FE op m.data.toList n.data.toList
 | .cv (.v (.bool m)),.cv (.v (.bool n))=>match op,P.underlying t with
  | .eql,some .bool=>some (.bool (m == n))
  | .neq,some .bool=>some (.bool (!(m == n)))
  |_,_=>none
 | .cv (.agg m),.cv (.agg n)=>
  opt (wu P t) fun ds => ax (ji ds m) (ax (ji ds n) (opt (pU m n) fun r => match op with
  | .eql=>some (.bool r)
  | .neq=>some (.bool (!r))
  |_=>none))
 |a,b=>opt (P.underlying t) fun d=>
  let go (r:Bool):Option CV:=match op with
   | .eql=>some (.bool r)
   | .neq=>some (.bool (!r))
   |_=>none
  match j4 y with
  |some c=>opt (uI d c a) go
  |none=>opt (j4 x) fun c=>opt (uI d c b) go
def xn (op:BinOp)(k:IntKind)(a:Int)(k':IntKind)(b:Int):Option CV:=
 match op with
 | .shl=>some (.int k (k.wrap (a*2^(min b.toNat k.bits))))
 | .shr=>some (.int k (a.fdiv (2^(min b.toNat k.bits))))
 |_=>match decide (k=k')with
  |false=>none
  |true=>match op with
   | .quo=>some (.int k (k.wrap (a.tdiv b)))
   | .rem=>some (.int k (a.tmod b))
   |_=>nR op k a k' b
def Ax:Operand→Option Value
 | .const .nilIface=>some .nilIface
 | .const (.pointer none)=>some (.pointer none)
 | .const (.slice none 0 0)=>some (.slice none 0 0)
 |_=>none
def K6 (op:BinOp)(r:Bool):Option CV:=
 match op with
 | .eql=>some (.bool r)
 | .neq=>some (.bool (!r))
 |_=>none
def lQ (op:BinOp)(a b:LV):Bool:=
 match a,b with
 | .cv (.v (.int _ _)),.cv (.v (.int _ n))=>match op with
  | .quo=> !decide (n=0)
  | .rem=> !decide (n=0)
  | .shl=> !decide (n<0)
  | .shr=> !decide (n<0)
  |_=>true
 | .cv (.v (.string m)),.cv (.v (.string n))=>match op with
  | .add=>bC (m.data.toList.length+n.data.toList.length)
  |_=>true
 |_,_=>true
def yj (P:Program)(op:BinOp)(t:TypeId)(x y:Operand)(a b:LV):Option CV:=
 match a,b with
 | .cv (.v (.int k m)),.cv (.v (.int k' n))=>xn op k m k' n
 | .cv (.v (.string m)),.cv (.v (.string n))=>match op with
  | .add=>some (.str (m.data.toList++n.data.toList))
  |_=>FE op m.data.toList n.data.toList
 |a,b=>rh P op t x y a b
def Ka (x y:Operand)(a b:LV):Option (Value×LV):=
 match Ax y with
 |some c=>some (c,a)
 |none=>match j4 y with
  |some _=>none
  |none=>match Ax x with
   |some c=>some (c,b)
   |none=>none
def pf {β:Type}(P:Program)(op:BinOp)(t:TypeId)(x y:Operand)(a b:LV)(f:CV→Option β):Option β:=
 match Ka x y a b with
 |some q=>opt (P.underlying t) fun d=>opt (uI d q.1 q.2) fun r=>opt (K6 op r) f
 |none=>ax (lQ op a b) (opt (yj P op t x y a b) f)
theorem OE {op:BinOp}{k k':IntKind}{a b:Int}{c:CV}(hg:lQ op (.cv (.v (.int k a))) (.cv (.v (.int k' b)))=true)(h:xn op k a k' b=some c):nR op k a k' b=some c:=by
 cases op
 case shl=>simp only[lQ,Bool.not_eq_true']at hg;simp only[xn]at h;simp only[nR,hg];exact h
 case shr=>simp only[lQ,Bool.not_eq_true']at hg;simp only[xn]at h;simp only[nR,hg];exact h
 case quo=>
  simp only[lQ,Bool.not_eq_true']at hg
  simp only[xn]at h
  simp only[nR,hg]
  exact h
 case rem=>
  simp only[lQ,Bool.not_eq_true']at hg
  simp only[xn]at h
  simp only[nR,hg]
  exact h
 all_goals
  simp only[xn]at h
  split at h
  ·cases h
  ·exact h
theorem KT {P:Program}{op:BinOp}{t:TypeId}{x y:Operand}{a b:LV}{c:CV}(hg:lQ op a b=true)(h:yj P op t x y a b=some c):rh P op t x y a b=some c:=by
 unfold yj at h
 split at h
 ·exact OE hg h
 ·split at h
  ·simp only[lQ]at hg
   simp only[rh,FE,hg]
   exact h
  ·exact h
 ·exact h
theorem zg {x:Operand}{c:Value}(h:Ax x=some c):x= .const c∧(c= .nilIface∨c= .pointer none∨c= .slice none 0 0):=by
 unfold Ax at h
 split at h<;>first|(cases h;done)|(simp only[Option.some.injEq]at h;subst h;exact⟨rfl,by simp⟩)
theorem NC {β:Type}{P:Program}{op:BinOp}{t:TypeId}{x y:Operand}{a b:LV}{f:CV→Option β}{r:β}(hx: ∀v,x= .const v→a=ic v)(hy: ∀v,y= .const v→b=ic v)(h:pf P op t x y a b f=some r):
  ∃c,rh P op t x y a b=some c∧f c=some r:=by
 have key: ∀{n:Value} {l:LV},(opt (P.underlying t) fun d=>opt (uI d n l) fun r=>opt (K6 op r) f)=some r→ ∃c,(opt (P.underlying t) fun d=>opt (uI d n l) (K6 op))=some c∧f c=some r:=by
  intro n l h
  cases hu:P.underlying t with
  |none=>rw[hu]at h;cases h
  |some d=>
   rw[hu]at h
   simp only[opt]at h ⊢
   cases hn:uI d n l with
   |none=>rw[hn]at h;cases h
   |some b=>
    rw[hn]at h
    simp only at h ⊢
    cases he:K6 op b with
    |none=>rw[he]at h;cases h
    |some c=>rw[he]at h;exact⟨c,rfl,h⟩
 unfold pf Ka at h
 cases hny:Ax y with
 |some n=>
  rw[hny]at h
  obtain⟨rfl,hc⟩:=zg hny
  have hb:=hy n rfl
  subst hb
  obtain⟨c,h1,h2⟩:=key h
  refine⟨c,?_,h2⟩
  unfold rh
  split
  ·rename_i e;rcases hc with rfl|rfl|rfl<;>simp[ic]at e
  ·rename_i e;rcases hc with rfl|rfl|rfl<;>simp[ic]at e
  ·rename_i e;rcases hc with rfl|rfl|rfl<;>simp[ic]at e
  ·rename_i e;rcases hc with rfl|rfl|rfl<;>simp[ic]at e
  ·simp only[j4]
   exact h1
 |none=>
  rw[hny]at h
  have plain:ax (lQ op a b) (opt (yj P op t x y a b) f)=some r→ ∃c,rh P op t x y a b=some c∧f c=some r:=by
   intro h
   unfold ax at h
   cases hg:lQ op a b with
   |false=>rw[hg]at h;cases h
   |true=>
    rw[hg]at h
    simp only[cond_true]at h
    cases hb:yj P op t x y a b with
    |none=>rw[hb]at h;cases h
    |some c=>rw[hb]at h;exact⟨c,KT hg hb,h⟩
  cases hcy:j4 y with
  |some cy=>rw[hcy]at h;exact plain h
  |none=>
   rw[hcy]at h
   cases hnx:Ax x with
   |none=>rw[hnx]at h;exact plain h
   |some n=>
    rw[hnx]at h
    obtain⟨rfl,hc⟩:=zg hnx
    have ha:=hx n rfl
    subst ha
    obtain⟨c,h1,h2⟩:=key h
    refine⟨c,?_,h2⟩
    unfold rh
    split
    ·rename_i e;rcases hc with rfl|rfl|rfl<;>simp[ic]at e
    ·rename_i e;rcases hc with rfl|rfl|rfl<;>simp[ic]at e
    ·rename_i e;rcases hc with rfl|rfl|rfl<;>simp[ic]at e
    ·rename_i e;rcases hc with rfl|rfl|rfl<;>simp[ic]at e
    ·rw[hcy]
     simp only[j4,opt]
     exact h1
def unA (op:UnOp):LV→Option CV
 | .cv (.v (.bool b))=>match op with| .not=>some (.bool (!b))|_=>none
 | .cv (.v (.int k n))=>match op with
  | .neg=>some (.int k (k.wrap (0-n)))
  | .xor=>some (.int k (k.wrap (BitVec.ofInt k.bits (if k.signed then -1 else k.max) ^^^ BitVec.ofInt k.bits n).toNat))
  |_=>none
 |_=>none
def zn (t:Bool)(a b:LV):LV:=
 match a,b with
 | .cv (.v (.bool x)),.cv (.v (.bool y))=> .cv (.v (.bool (cond t x y)))
 |a,b=>match t with|true=>a|false=>b
def bu (l:List UInt8)(i:Int):Option UInt8:=match decide (0≤i)with|true=>l[i.toNat]? |false=>none
def bm (xs:List CV)(i:Int):Option CV:=match decide (0≤i)with|true=>xs[i.toNat]? |false=>none
def dB {α:Type}(xs:List α)(lo hi:Int):Option (List α):=
 match decide (0≤lo)&&decide (lo≤hi)&&decide (hi≤(xs.length:Int))with
 |true=>some ((xs.drop lo.toNat).take (hi-lo).toNat)
 |false=>none
def bn:List CV→Option (List UInt8)
 |[]=>some []
 | .v (.int .u8 n)::r=>match decide (0≤n)&&decide (n<256)with
  |true=>opt (bn r) fun l=>some (UInt8.ofNat n.toNat::l)
  |false=>none
 |_::_=>none
def noB:CV→Bool
 | .v (.int .u8 _)=>false
 |_=>true
def fZ:List CV→Bool
 |[]=>true
 |y::_=>noB y
def S7:LV→Option Int
 | .cv (.sl xs)=>some (xs.length:Int)
 | .cv (.v (.slice none 0 0))=>some 0
 | .osl xs=>some (xs.length:Int)
 | .lsl _ _ len=>some (len:Int)
 | .cv (.msl _ _ _ len)=>some (len:Int)
 | .stl n=>some (n:Int)
 |_=>none
def Lk (P:Program)(t:TypeId)(x:LV):Option Int:=
 match P.underlying t with
 |some .string=>opt (aN x) fun l=>some (l.length:Int)
 |some (.slice _)=>S7 x
 |_=>none
def zeroCells (P:Program)(t:TypeId):Option (List CV):=
 match P.info? t with
 |some i=>match i.zero with
  |some z=>match z with
   | .agg cs=>some (cs.toList.map .v)
   |x=>some [.v x]
  |none=>none
 |none=>none
def bU (P:Program)(t:TypeId):Option Nat:=match P.info? t with|some i=>some i.size|none=>none
def j3 (P:Program)(t:TypeId):Bool:=match P.info? t with|some i=>Nat.ble i.bytes 128&&Nat.ble 1 i.size|none=>false
def bo {α:Type}:List α→Nat→List α→List α
 |cs,_,[]=>cs
 |cs,off,v::r=>bo (cs.set off v) (off+1) r
def kM (place:Nat→Option (Nat×Nat)):List CV→List (Nat×CV)→Option (List CV)
 |cs,[]=>some cs
 |cs,(i,c)::r=>
  match place i with
  |none=>none
  |some q=>match Nat.beq c.cells.length q.2&&Nat.ble (q.1+q.2) cs.length with
   |true=>kM place (bo cs q.1 c.cells) r
   |false=>none
def gp (P:Program):List Field→Option (List (Nat×Nat))
 |[]=>some []
 |f::r=>opt (bU P f.type) fun n=>opt (gp P r) fun l=>some ((f.offset,n)::l)
def gS (ev:Operand→LV):List (Nat×Operand)→Option (List (Nat×CV))
 |[]=>some []
 |q::r=>opt (bP (ev q.2)) fun c=>ax (eJ c) (opt (gS ev r) fun l=>some ((q.1,c)::l))
def yl (P:Program)(t:TypeId)(parts:List (Nat×CV)):Option CV:=
 opt (zeroCells P t) fun z=>
 match P.underlying t with
 |some (.struct fs)=>opt (gp P fs.toList) fun pl=>opt (kM (fun i=>pl[i]?) z parts) fun cs=>some (.agg cs)
 |some (.array _ e)=>opt (bU P e) fun n=>opt (kM (fun i=>some (i*n,n)) z parts) fun cs=>some (.agg cs)
 |_=>none
def un (sz:Nat):Nat→List (Nat×CV)→Option (List CV)
 |_,[]=>some []
 |n,(i,c)::r=>match Nat.beq i n&&Nat.beq c.cells.length sz with
  |true=>opt (un sz (n+1) r) fun l=>some (c::l)
  |false=>none
def uY:LV→Bool
 | .cv c=>dc c
 | .ltup _=>false
 |_=>true
def nM (b:Bool)(x:LV):Option (List LV):=match b with|true=>x.cells|false=>match uY x with|true=>some [x]|false=>none
def pV {β:Type}(b:Bool)(x:LV)(k:List LV→Option β):Option β:=match b with|true=>opt x.cells k|false=>ax (uY x) (k [x])
def ol (b:Bool)(c:CV):Bool:=match b with|true=>eJ c|false=>dc c
def kF (b:Bool)(c:CV):List CV:=match b with|true=>c.cells|false=>[c]
def lS (ag:Nat→Bool)(place:Nat→Option (Nat×Nat))(ev:Operand→LV):List CV→List (Nat×Operand)→Option (List CV)
 |cs,[]=>some cs
 |cs,q::r=>opt (place q.1) fun p=>opt (bP (ev q.2)) fun c=>ax (ol (ag q.1) c) (ax (Nat.beq (kF (ag q.1) c).length p.2&&Nat.ble (p.1+p.2) cs.length) (lS ag place ev (bo cs p.1 (kF (ag q.1) c)) r))
def yz {β:Type}(ag:Nat→Bool)(place:Nat→Option (Nat×Nat))(ev:Operand→LV):List CV→List (Nat×Operand)→(List CV→Option β)→Option β
 |cs,[],k=>k cs
 |cs,q::r,k=>opt (place q.1) fun p=>opt (bP (ev q.2)) fun c=>ax (ol (ag q.1) c) (ax (Nat.beq (kF (ag q.1) c).length p.2&&Nat.ble (p.1+p.2) cs.length) (yz ag place ev (bo cs p.1 (kF (ag q.1) c)) r k))
def B5 (P:Program)(t:TypeId):Nat→Bool:=fun i=>
 match P.underlying t with
 |some (.struct fs)=>match fs[i]? with|some f=>bD P f.type|none=>false
 |some (.array _ e)=>bD P e
 |_=>false
def kE (P:Program)(t:TypeId)(ev:Operand→LV)(parts:List (Nat×Operand)):Option CV:=
 opt (zeroCells P t) fun z=>
 match P.underlying t with
 |some (.struct fs)=>opt (gp P fs.toList) fun pl=>opt (lS (B5 P t) (fun i=>pl[i]?) ev z parts) fun cs=>some (.agg cs)
 |some (.array _ e)=>opt (bU P e) fun n=>opt (lS (B5 P t) (fun i=>some (i*n,n)) ev z parts) fun cs=>some (.agg cs)
 |_=>none
def ym {β:Type}(P:Program)(t:TypeId)(ev:Operand→LV)(parts:List (Nat×Operand))(k:CV→Option β):Option β:=
 opt (zeroCells P t) fun z=>
 match P.underlying t with
 |some (.struct fs)=>opt (gp P fs.toList) fun pl=>yz (B5 P t) (fun i=>pl[i]?) ev z parts fun cs=>k (.agg cs)
 |some (.array _ e)=>opt (bU P e) fun n=>yz (B5 P t) (fun i=>some (i*n,n)) ev z parts fun cs=>k (.agg cs)
 |_=>none
def mR (b:Bool)(sz:Nat)(ev:Operand→LV):Nat→List (Nat×Operand)→Option (List CV)
 |_,[]=>some []
 |n,q::r=>opt (bP (ev q.2)) fun c=>ax (ol b c) (ax (Nat.beq q.1 n&&Nat.beq (kF b c).length sz) (opt (mR b sz ev (n+1) r) fun l=>some (c::l)))
def Lr {β:Type}(b:Bool)(sz:Nat)(ev:Operand→LV):Nat→List (Nat×Operand)→(List CV→Option β)→Option β
 |_,[],k=>k []
 |n,q::r,k=>opt (bP (ev q.2)) fun c=>ax (ol b c) (ax (Nat.beq q.1 n&&Nat.beq (kF b c).length sz) (Lr b sz ev (n+1) r fun l=>k (c::l)))
def lx (P:Program)(s:TypeId)(f:Nat):Option (Nat×TypeId):=
 match P.underlying s with
 |some (.struct fs)=>match fs[f]? with
  |some f=>match bU P f.type with
   |some (_+1)=>some (f.offset,f.type)
   |_=>none
  |none=>none
 |_=>none
def fE (P:Program)(t:TypeId)(cs:List CV)(off:Nat):Option CV:=
 match bD P t with
 |true=>opt (bU P t) fun n=>match Nat.ble (off+n) cs.length with
  |true=>some (.agg ((cs.drop off).take n))
  |false=>none
 |false=>cs[off]?
def el (P:Program)(t:TypeId)(cs:List CV)(off:Nat):Option CV:=opt (P.underlying t) fun _=>fE P t cs off
def df (sz:Nat)(c:CV):Bool:=Nat.beq c.cells.length sz&&eJ c
def cS (sz:Nat):List CV→Bool
 |[]=>true
 |c::r=>match df sz c with|true=>cS sz r|false=>false
def jN:List LV→Option (List CV)
 |[]=>some []
 |x::r=>opt (bP x) fun c=>opt (jN r) fun l=>some (c::l)
def aU (μ:Mu)(lev i:Nat):Ob:=
 match μ[lev]? with
 |some l=>match l[i]? with|some o=>o|none=> .dead
 |none=> .dead
def aG (l:Lam)(i:Nat):Ob:=match l[i]? with|some o=>o|none=> .dead
def bj (μ:Mu)(lev i:Nat)(o:Ob):Mu:=
 match μ[lev]? with
 |some l=>μ.set lev (l.set i o)
 |none=>μ
def lH (P:Program)(t:TypeId)(o:Ob)(off:Nat):Option LV:=
 match o with
 | .cells cs=>match bD P t with
  |true=>opt (bU P t) fun n=>match Nat.ble (off+n) cs.length with
   |true=>opt (jN ((cs.drop off).take n)) fun l=>some (.cv (.agg l))
   |false=>none
  |false=>match cs[off]? with
   |some x=>some (strip x)
   |none=>none
 | .arr _ cs=>opt (fE P t cs off) fun c=>some (.cv c)
 | .dead=>none
 | .map _ _=>none
def bv (P:Program)(t:TypeId)(o:Ob)(off:Nat):Option LV:=opt (P.underlying t) fun _=>lH P t o off
def gc (P:Program)(t:TypeId)(o:Ob)(off:Nat):Option (LV×Ob):=opt (P.underlying t) fun _=>
 match bD P t with
 |true=>none
 |false=>match o with
  | .cells cs=>match cs[off]? with
   |some x=>some (x,.cells (cs.set off (strip x)))
   |none=>none
  |_=>none
def dY (P:Program)(t:TypeId)(o:Ob)(off:Nat)(v:LV):Option Ob:=
 match o with
 | .cells cs=>opt (nM (bD P t) v) fun vs=>opt (bU P t) fun n=>match Nat.beq vs.length n&&Nat.ble (off+n) cs.length with
  |true=>some (.cells (bo cs off vs))
  |false=>none
 | .arr sz cs=>opt (bP v) fun c=>opt (bU P t) fun n=>match df n c&&Nat.ble (off+n) cs.length with
  |true=>some (.arr sz (bo cs off c.cells))
  |false=>none
 | .dead=>none
 | .map _ _=>none
mutual
def below (n:Nat):CV→Bool
 | .undef=>true
 | .v _=>true
 | .agg cs=>b7 n cs
 | .sl cs=>b7 n cs
 | .view cs=>b7 n cs
 | .ref lev _ _=>decide (lev<n)
 | .msl lev _ _ _=>decide (lev<n)
 | .clo _ cs=>b7 n cs
 | .iface _ c=>below n c
 | .mview _ vs=>b7 n vs
 | .mref lev _=>decide (lev<n)
 | .tref lev _ _ _=>decide (lev<n)
def b7 (n:Nat):List CV→Bool
 |[]=>true
 |c::r=>match below n c with|true=>b7 n r|false=>false
end
def AC (lev:Nat):LV→Bool
 | .cv c=>below (lev+1) c
 | .osl xs=>b7 (lev+1) xs
 |_=>false
def mM (L:Nat):LV→Option CV
 | .cv c=>some c
 | .osl xs=>some (.sl xs)
 | .loc i off=>some (.ref L i off)
 | .lsl i off len=>some (.msl L i off len)
 | .mloc i=>some (.mref L i)
 | .tloc i t n=>some (.tref L i t n)
 |_=>none
def lh (L:Nat):List LV→Option (List CV)
 |[]=>some []
 |x::r=>opt (mM L x) fun c=>opt (lh L r) fun l=>some (c::l)
def vI (L:Nat):LV→Option LV
 | .osl xs=>some (.osl xs)
 | .lclo f caps=>opt (lh L caps) fun cs=>some (.cv (.clo f cs))
 |x=>opt (mM L x) fun c=>some (.cv c)
def gx (L:Nat):List LV→Option (List LV)
 |[]=>some []
 |x::r=>opt (vI L x) fun c=>opt (gx L r) fun l=>some (c::l)
def dT (L:Nat):Lam→Option Lam
 |[]=>some []
 | .dead::r=>opt (dT L r) fun l=>some (.dead::l)
 | .arr sz cs::r=>opt (dT L r) fun l=>some (.arr sz cs::l)
 | .map ks vs::r=>opt (dT L r) fun l=>some (.map ks vs::l)
 | .cells cs::r=>opt (gx L cs) fun cs=>opt (dT L r) fun l=>some (.cells cs::l)
def iY:LV→Bool
 | .cv _=>true
 | .osl _=>true
 |_=>false
def ge:List LV→Bool
 |[]=>true
 |x::r=>match iY x with|true=>ge r|false=>false
def p6:LV→Bool
 | .cv _=>true
 | .osl _=>true
 | .ltup xs=>ge xs
 |_=>false
def mr (n:Nat):LV→Bool
 | .cv c=>below n c
 | .osl xs=>b7 n xs
 |_=>false
def gn (n:Nat):LV→Bool
 | .ltup xs=>xs.all (mr n)
 |x=>mr n x
structure Rho where
 call:FuncId→List LV→Mu→Option Out
 loop:Hints→List (Nat×Nat)→Code→S→Mu→Option St
 seg:Hints→List (Nat×Nat)→Code→S→Mu→Option St
 dcall:FuncId→Option CV→List LV→Mu→Option Mu
section
variable (P:Program)(ρ:Rho)
variable {α:Type}
def callK (r:Option Out)(k:LV→Mu→Option α)(p:CV→Mu→Option α):Option α:=
 opt r fun
  | .ret v μ=>k v μ
  | .panic v μ=>p v μ
def jp (μ:Mu):Option (Mu×Lam):=match μ.reverse with|l::r=>some (r.reverse,l)|[]=>none
def dq:LV→Option (List CV)
 | .cv (.view cs)=>some cs
 |_=>none
def mw:LV→Option (Nat×Nat×Nat)
 | .cv (.ref lev i off)=>some (lev,i,off)
 |_=>none
def DU:LV→Option (Nat×Nat×Nat×Nat)
 | .cv (.msl lev i off len)=>some (lev,i,off,len)
 |_=>none
def kf {β:Type}(P:Program)(b:Bool)(t:TypeId)(v:LV)(k:LV→Option β):Option β:=match b with|true=>cW P false t v k|false=>k v
def gB (h:OpHint)(t:TypeId)(a:LV)(s:S)(μ:Mu)(k:LV→S→Mu→Option α):Option α:=
 match a with
 | .loc i off=>match h.outer with
  |true=>none
  |false=>match h.cell with
   |false=>opt (bv P t (aG s.lam i) off) fun v=>kf P h.arr t v fun v=>k v s μ
   |true=>opt (gc P t (aG s.lam i) off) fun q=>k q.1 {s with lam:=s.lam.set i q.2} μ
 | .cv _=>match h.outer with
  |false=>opt (dq a) fun cs=>opt (el P t cs 0) fun c=>k (.cv c) s μ
  |true=>opt (mw a) fun q=>match h.cell with
   |false=>opt (bv P t (aU μ q.1 q.2.1) q.2.2) fun v=>cW P false t v fun v=>k v s μ
   |true=>opt (gc P t (aU μ q.1 q.2.1) q.2.2) fun r=>cW P true t r.1 fun v=>k v s (bj μ q.1 q.2.1 r.2)
 |_=>none
def rJ (t:TypeId)(o:Ob)(off:Nat)(v:LV)(k:Ob→Option α):Option α:=
 match o with
 | .arr sz cs=>opt (bP v) fun c=>opt (bU P t) fun n=>ax (df n c&&Nat.ble (off+n) cs.length) (k (.arr sz (bo cs off c.cells)))
 | .cells cs=>pV (bD P t) v fun vs=>opt (bU P t) fun n=>ax (Nat.beq vs.length n&&Nat.ble (off+n) cs.length) (k (.cells (bo cs off vs)))
 |o=>opt (dY P t o off v) k
def it (h:OpHint)(t:TypeId)(a v:LV)(s:S)(μ:Mu)(k:LV→S→Mu→Option α):Option α:=
 match a with
 | .loc i off=>match h.outer with
  |true=>none
  |false=>rJ P t (aG s.lam i) off v fun o=>k (.cv .undef) {s with lam:=s.lam.set i o} μ
 | .cv _=>match h.outer with
  |false=>none
  |true=>opt (mw a) fun q=>ax (AC q.1 v) (opt (dY P t (aU μ q.1 q.2.1) q.2.2 v) fun o=>k (.cv .undef) s (bj μ q.1 q.2.1 o))
 |_=>none
def fa (h:OpHint)(s:TypeId)(a:LV)(f:Nat)(k:LV→Option α):Option α:=
 opt (lx P s f) fun q=>match a with
 | .loc i off=>k (.loc i (off+q.1))
 | .cv _=>match h.outer with
  |false=>opt (dq a) fun cs=>dt (yP P 8 s) cs fun cs=>ax (Nat.ble q.1 cs.length) (k (.cv (.view (cs.drop q.1))))
  |true=>opt (mw a) fun r=>k (.cv (.ref r.1 r.2.1 (r.2.2+q.1)))
 |_=>none
def DP (s:TypeId)(x:LV)(f:Nat):Option LV:=
 opt (lx P s f) fun q=>opt (cU x) fun cs=>opt (el P q.2 cs q.1) fun c=>some (.cv c)
def bW (i:Int)(len:Nat):Bool:=decide (0≤i)&&decide (i<(len:Int))
def kK (b:Bool)(n:Nat)(c:CV)(k:LV→Option α):Option α:=
 match b with
 |true=>ax (Nat.beq c.cells.length n) (k (.cv (.view c.cells)))
 |false=>ax (dc c) (ax (Nat.beq 1 n) (k (.cv (.view [c]))))
def fb (h:OpHint)(t:TypeId)(x:LV)(i:Int)(k:LV→Option α):Option α:=
 match P.underlying t with
 |some (.slice e)=>opt (bU P e) fun n=>match x with
  | .lsl id off len=>ax (bW i len) (k (.loc id (off+i.toNat*n)))
  | .osl xs=>opt (bm xs i) fun c=>eZ P e c fun c=>kK (bD P e) n c k
  | .cv _=>match h.outer with
   |false=>opt (bp x) fun xs=>opt (bm xs i) fun c=>eZ P e c fun c=>kK (bD P e) n c k
   |true=>opt (DU x) fun q=>ax (bW i q.2.2.2) (k (.cv (.ref q.1 q.2.1 (q.2.2.1+i.toNat*n))))
  |_=>none
 |some (.array len e)=>opt (bU P e) fun n=>match x with
  | .loc id off=>ax (bW i len) (k (.loc id (off+i.toNat*n)))
  | .cv _=>match h.outer with
   |false=>opt (dq x) fun cs=>ax (bW i len) (ax (Nat.ble (i.toNat*n) cs.length) (k (.cv (.view (cs.drop (i.toNat*n))))))
   |true=>opt (mw x) fun q=>ax (bW i len) (k (.cv (.ref q.1 q.2.1 (q.2.2+i.toNat*n))))
  |_=>none
 |_=>none
def kO (t:TypeId)(x:LV)(i:Int)(k:LV→Option α):Option α:=
 match P.underlying t with
 |some .string=>opt (aN x) fun l=>opt (bu l i) fun b=>k (.cv (.v (.int .u8 (b.toNat:Int))))
 |some (.array len e)=>match x with
  | .cv _=>opt (cU x) fun cs=>opt (bU P e) fun n=>ax (bW i len) (opt (el P e cs (i.toNat*n)) fun c=>eZ P e c fun c=>k (.cv c))
  |_=>none
 |_=>none
def kA:LV→Option Int
 | .cv (.v (.int _ n))=>some n
 |_=>none
def cT (ev:Operand→LV)(x:Option Operand)(d:Int)(k:Int→Option α):Option α:=
 match x with
 |none=>k d
 |some x=>opt (kA (ev x)) k
def qh (n:Nat)(a:Int)(xs:List CV):Bool:=match decide (a=0)with|true=>true|false=>cS n xs
def ir (t:TypeId)(x:LV)(lo hi:Option Operand)(ev:Operand→LV)(k:LV→Option α):Option α:=
 match P.underlying t with
 |some .string=>opt (aN x) fun l=>cT ev lo 0 fun a=>cT ev hi (l.length:Int) fun b=>opt (dB l a b) fun r=>k (.cv (.v (.string ⟨⟨r⟩⟩)))
 |some (.slice e)=>opt (bU P e) fun n=>match x with
  | .cv _=>opt (bp x) fun xs=>cT ev lo 0 fun a=>cT ev hi (xs.length:Int) fun b=>ax (qh n a xs) (opt (dB xs a b) fun r=>k (.cv (.sl r)))
  | .osl xs=>cT ev lo 0 fun a=>cT ev hi (xs.length:Int) fun b=>ax (qh n a xs) (opt (dB xs a b) fun r=>k (.cv (.sl r)))
  | .lsl id off len=>cT ev lo 0 fun a=>cT ev hi (len:Int) fun b=>
   ax (decide (a=0)&&decide (0≤b)&&decide (b≤(len:Int))) (k (.lsl id off b.toNat))
  | .ost xs=>cT ev lo 0 fun a=>cT ev hi (xs.length:Int) fun b=>
   ax (decide (a=0)&&decide (0≤b)&&decide (b<(xs.length:Int))) (k (.ost (xs.take b.toNat)))
  |_=>none
 |_=>none
def gI (isAgg:Bool)(sz:Nat):Nat→List CV→List CV
 |0,_=>[]
 |n+1,cs=>(match isAgg with|false=>cs.headD .undef|true=> .agg (cs.take sz))::gI isAgg sz n (cs.drop sz)
def dQ (sz:Nat)(xs ys:List CV):Bool:=bC (xs.length+ys.length)&&cS sz xs&&cS sz ys
def fL (h:OpHint)(t:TypeId)(xt:Option TypeId)(x y:LV)(s:S)(μ:Mu)(k:LV→S→Mu→Option α):Option α:=
 match P.underlying t with
 | some (.slice e) => opt (bU P e) fun sz => ax (j3 P e) (opt (zeroCells P e) fun z => ax (Nat.beq z.length sz) (match xt with
  |none=>none
  |some xt=>match h.own with
  |true=>opt (yD x) fun xs=>match P.underlying xt with
   |some (.slice _)=>opt (bp y) fun ys=>opt (u4 ys) fun vs=>ax (Nat.beq sz 1&&bC (xs.length+vs.length)) (k (.ost (xs++vs)) s μ)
   |_=>none
  |false=>opt (gM x) fun xs=>match P.underlying xt with
   |some .string=>opt (aN y) fun l=>ax (Nat.beq e 5&&(Nat.beq sz 1&&bC (xs.length+l.length)&&cS 1 xs)) (k (.osl (xs++l.map fun b=> .v (.int .u8 (b.toNat:Int)))) s μ)
   |some (.slice _)=>opt (bp y) fun ys=>ax ((Nat.beq e 5||fZ ys)&&dQ sz xs ys) (k (.osl (xs++ys)) s μ)
   |_=>none))
 |_=>none
def c8 (h:OpHint)(src dst:TypeId)(x:LV)(s:S)(μ:Mu)(k:LV→S→Mu→Option α):Option α:=
 match P.underlying dst with
 |some (.int ik)=>match P.underlying src with
  |some (.int _)=>opt (kA x) fun n=>k (.cv (.v (.int ik (ik.wrap n)))) s μ
  |_=>none
 |some .string=>match P.underlying src with
  |some .string=>opt (aN x) fun l=>k (.cv (.v (.string ⟨⟨l⟩⟩))) s μ
  |some (.slice e)=>match P.underlying e with
   |some (.int .u8)=>match x with
    | .lsl id off len=>match aG s.lam id with
     | .arr _ cs=>ax (Nat.ble (off+len) cs.length) (opt (bn ((cs.drop off).take len)) fun l=>k (.cv (.v (.string ⟨⟨l⟩⟩))) s μ)
     |_=>none
    |_=>opt (bp x) fun xs=>opt (bn xs) fun l=>k (.cv (.v (.string ⟨⟨l⟩⟩))) s μ
   |_=>none
  |_=>none
 |some (.slice e)=>match P.underlying src with
  |some .string=>match P.underlying e with
   | some (.int .u8) => opt (aN x) fun l => ax (bC l.length) (match h.arr with
    |true=>k (.lsl s.lam.length 0 l.length) {s with lam:=s.lam++[.arr 1 (l.map fun b=> .v (.int .u8 (b.toNat:Int)))]} μ
    |false=>k (.cv (.sl (l.map fun b=> .v (.int .u8 (b.toNat:Int))))) s μ)
   |_=>none
  |_=>none
 |_=>none
def Al (t:Nat)(s:S):Option S:=
 match s.fr t with
 | .loc i off=>match decide (off=0)with
  |true=>match aG s.lam i with
   | .cells cs=>opt (jN cs) fun l=>some {s with fr:=upd s.fr t (.cv (.view l)),lam:=s.lam.set i .dead}
   |_=>none
  |false=>none
 | .mloc i=>match aG s.lam i with
  | .map ks vs=>some {s with fr:=upd s.fr t (.cv (.mview ks vs)),lam:=s.lam.set i .dead}
  |_=>none
 | .ost xs=>some {s with fr:=upd s.fr t (.cv (.sl (xs.map .v)))}
 |_=>none
def p7:List Nat→S→Option S
 |[],s=>some s
 |t::r,s=>opt (Al t s) fun s=>p7 r s
def j6 (t:Nat)(e:TypeId)(s:S):Option S:=
 match s.fr t with
 | .lsl i off len=>match decide (off=0)with
  |true=>match aG s.lam i with
   | .arr sz cs=>opt (bU P e) fun n=>ax (Nat.beq sz n) (ax ((bD P e||(Nat.beq n 1&&de cs))&&Nat.ble (len*n) cs.length) (some {s with fr:=upd s.fr t (.cv (.sl (gI (bD P e) n len cs))),lam:=s.lam.set i .dead}))
   |_=>none
  |false=>none
 |_=>none
def jg:List (Nat×TypeId)→S→Option S
 |[],s=>some s
 |q::r,s=>opt (j6 P q.1 q.2 s) fun s=>jg r s
def rp {β:Type}(t:Nat)(e:TypeId)(s:S)(k:S→Option β):Option β:=
 match s.fr t with
 | .lsl i off len=>match decide (off=0)with
  |true=>match aG s.lam i with
   | .arr sz cs=>opt (bU P e) fun n=>ax (Nat.beq sz n) (ax ((bD P e||(Nat.beq n 1&&de cs))&&Nat.ble (len*n) cs.length) (k {s with fr:=upd s.fr t (.cv (.sl (gI (bD P e) n len cs))),lam:=s.lam.set i .dead}))
   |_=>none
  |false=>none
 |_=>none
def lT {β:Type}:List (Nat×TypeId)→S→(S→Option β)→Option β
 |[],s,k=>k s
 |q::r,s,k=>rp P q.1 q.2 s fun s=>lT r s k
theorem BQ {β:Type}{t:Nat}{e:TypeId}{s:S}{k:S→Option β}:rp P t e s k=opt (j6 P t e s) k:=by
 unfold rp j6
 cases s.fr t<;>try rfl
 dsimp only
 split
 ·split
  ·cases bU P e with
   |none=>rfl
   |some n=>
    dsimp only[opt]
    cases Nat.beq _ n
    ·rfl
    ·dsimp only[ax,cond_true]
     generalize((bD P e||(Nat.beq n 1&&de _))&&Nat.ble (_*n) _)=b
     cases b<;>rfl
  ·rfl
 ·rfl
theorem ly {β:Type}: ∀{l:List (Nat×TypeId)} {s:S} {k:S→Option β},lT P l s k=opt (jg P l s) k
 |[],s,k=>rfl
 |q::r,s,k=>by
  simp only[lT,jg,BQ]
  cases j6 P q.1 q.2 s with
  |none=>rfl
  |some s1=>exact ly
def optE {α β:Type}(x:Option α)(f:α→Option β)(g:Option β):Option β:=match x with|some a=>f a|none=>g
def Ld (d:TypeDesc)(v:LV):Option Value:=
 match d with
 | .int k=>opt (aC k v) fun n=>some (.int k n)
 | .string=>opt (aN v) fun l=>some (.string ⟨⟨l⟩⟩)
 | .bool=>opt (aM v) fun b=>some (.bool b)
 |_=>none
def DY:TypeDesc→Value→Bool
 | .bool,.bool _=>true
 | .int k,.int k' _=>decide (k'=k)
 | .string,.string _=>true
 |_,_=>false
def kQ (d:TypeDesc):List Value→Bool
 |[]=>true
 |x::r=>match DY d x with|true=>kQ d r|false=>false
def rx:Value→Value→Bool
 | .int _ a,.int _ b=>decide (a=b)
 | .string a,.string b=>decide (a.data.toList=b.data.toList)
 | .bool a,.bool b=>a == b
 |_,_=>false
def kP:List Value→Value→Option Nat
 |[],_=>none
 |x::r,k=>match rx k x with|true=>some 0|false=>opt (kP r k) fun n=>some (n+1)
def gQ:List Value→List CV→Value→Option CV
 |x::ks,c::vs,k=>match rx k x with|true=>some c|false=>gQ ks vs k
 |_,_,_=>none
def lB (ks:List Value)(k:Value):List Value:=match kP ks k with|some _=>ks|none=>ks++[k]
def lC (ks:List Value)(vs:List CV)(k:Value)(c:CV):List CV:=match kP ks k with|some i=>vs.set i c|none=>vs++[c]
def zN (P:Program)(t:TypeId):Option CV:=
 match P.info? t with
 |some i=>match i.zero with
  |some z=>match z with
   | .agg cs=>some (.agg (cs.toList.map .v))
   |x=>some (.v x)
  |none=>none
 |none=>none
def Cb (P:Program)(t:TypeId):Option (TypeDesc×TypeId):=
 match P.underlying t with
 |some (.map k e)=>opt (P.underlying k) fun d=>some (d,e)
 |_=>none
def iy (t:TypeId)(m x y:LV)(s:S)(μ:Mu)(k:LV→S→Mu→Option α):Option α:=
 opt (Cb P t) fun q=>opt (Ld q.1 x) fun kv=>opt (bP y) fun c=>match m with
  | .mloc i=>match aG s.lam i with
   | .map ks vs=>ax (kQ q.1 ks) (k (.cv .undef) {s with lam:=s.lam.set i (.map (lB ks kv) (lC ks vs kv c))} μ)
   |_=>none
  | .cv (.mref lev i)=>match aU μ lev i with
   | .map ks vs=>ax (kQ q.1 ks&&below (lev+1) c) (k (.cv .undef) s (bj μ lev i (.map (lB ks kv) (lC ks vs kv c))))
   |_=>none
  |_=>none
def vA (m:LV)(s:S)(μ:Mu):Option (List Value×List CV):=
 match m with
 | .cv (.mview ks vs)=>some (ks,vs)
 | .cv (.v (.map none))=>some ([],[])
 | .mloc i=>match aG s.lam i with| .map ks vs=>some (ks,vs)|_=>none
 | .cv (.mref lev i)=>match aU μ lev i with| .map ks vs=>some (ks,vs)|_=>none
 |_=>none
def jj (t:TypeId)(m x:LV)(ok:Bool)(s:S)(μ:Mu)(k:LV→Option α):Option α:=
 opt (Cb P t) fun q => opt (Ld q.1 x) fun kv => opt (vA m s μ) fun p => ax (kQ q.1 p.1) (
  optE (gQ p.1 p.2 kv)
   (fun c=>eZ P q.2 c fun c=>match ok with|true=>k (.ltup [.cv c,.cv (.v (.bool true))])|false=>k (.cv c))
   (opt (zN P q.2) fun z=>match ok with|true=>k (.ltup [.cv z,.cv (.v (.bool false))])|false=>k (.cv z)))
def jd (x:LV)(t:TypeId)(ok:Bool)(k:LV→Option α):Option α:=
 match P.underlying t with
 |some (.interface _)=>none
 |some _=>match ok with
  |false=>none
  |true=>opt (zN P t) fun z=>match x with
   | .cv (.iface u c)=>match Nat.beq u t with
    |true=>k (.ltup [.cv c,.cv (.v (.bool true))])
    |false=>k (.ltup [.cv z,.cv (.v (.bool false))])
   | .cv (.v .nilIface)=>k (.ltup [.cv z,.cv (.v (.bool false))])
   |_=>none
 |none=>none
def d6 (h:OpHint)(t:TypeId)(f:FuncId)(args:List LV)(s:S)(μ:Mu)(k:LV→S→Mu→Option α)(p:CV→S→Mu→Option α):Option α:=
 match h.push with
 | false => ax (!s.pushed && ge args) (
   callK (ρ.call f args μ) (fun v μ=>cW P h.own t v fun v=>k v s μ) (fun v μ=>p v s μ))
 |true=>opt (gx μ.length args) fun args=>opt (dT μ.length s.lam) fun l=>
   callK (ρ.call f args (μ++[l])) (fun v μ=>opt (jp μ) fun q=>cW P h.own t v fun v=>k v {s with lam:=q.2,pushed:=true} q.1)
    (fun v μ=>opt (jp μ) fun q=>p v {s with lam:=q.2,pushed:=true} q.1)
def xq (t:Nat):List Operand→Bool
 |[]=>false
 | .tmp u::r=>match Nat.beq u t with|true=>true|false=>xq t r
 |_::r=>xq t r
def fV:List Operand→Bool
 |[]=>true
 | .tmp t::r=>match xq t r with|true=>false|false=>fV r
 |_::r=>fV r
def AH:Operand→Operand→Bool
 | .tmp a,.tmp b=>Nat.beq a b
 |_,_=>false
def gv {α:Type}(n:Nat)(z:List α):List α:=(List.replicate n z).flatten
def yY (t:TypeId)(l:LV)(s:S)(μ:Mu)(k:LV→S→Mu→Option α):Option α:=
 match P.underlying t with
 | some (.slice e) => opt (bU P e) fun sz => ax (j3 P e) (opt (zeroCells P e) fun z => ax (Nat.beq z.length sz) (opt (kA l) fun n => ax (decide (0 ≤ n) && decide (n ≤ 1000000000)) (
   k (.lsl s.lam.length 0 n.toNat) {s with lam:=s.lam++[.arr sz (gv n.toNat z)]} μ)))
 |_=>none
def yt (t:TypeId)(x y:LV)(s:S)(μ:Mu)(k:LV→S→Mu→Option α):Option α:=
 match P.underlying t with
 |some (.slice e)=>opt (bU P e) fun sz=>match x with
  | .lsl i off len=>match aG s.lam i with
   | .arr z cs => ax (Nat.beq z sz) (opt (bp y) fun ys => ax (cS sz ys && (Nat.ble ys.length len && Nat.ble (off + ys.length * sz) cs.length)) (
     k (.cv (.v (.int .i64 (ys.length:Int)))) {s with lam:=s.lam.set i (.arr z (bo cs off (ys.flatMap CV.cells)))} μ))
   |_=>none
  |_=>none
 |_=>none
def ck (h:OpHint)(o:Oper)(s0:S)(μ:Mu)(k:LV→S→Mu→Option α)(p:CV→S→Mu→Option α):Option α:=
 let ev:=evA h s0.fr
 let s:=ab h.take s0
 match o.op with
 | .move x=>k (ev x) s μ
 | .assign x=>k (ev x) s μ
 | .pick c a b=>opt (aM (ev c)) fun t=>k (zn t (ev a) (ev b)) s μ
 | .alloc e=>opt (zeroCells P e) fun cs=>k (tW h.cell s.lam.length e cs.length) {s with lam:=s.lam++[.cells (cs.map .cv)]} μ
 | .box e x=>match h.cell with
  |false=>pV (bD P e) (ev x) fun cs=>k (.loc s.lam.length 0) {s with lam:=s.lam++[.cells cs]} μ
  |true=>opt (bP (ev x)) fun c=>ax (ol (bD P e) c) (k (.cv (.view (kF (bD P e) c))) s μ)
 | .build t parts=>ym P t ev parts.toList fun c=>k (.cv c) s μ
 | .buildSlice t len parts=>match P.underlying t with
  | some (.slice e) => opt (bU P e) fun sz => ax (j3 P e) (opt (zeroCells P e) fun _ => Lr (bD P e) sz ev 0 parts.toList fun xs =>
   ax (Nat.beq xs.length len) (ax ((Nat.beq e 5 || fZ xs) && Nat.ble (len * sz) 10000) (match h.arr with
   |false=>k (.osl xs) s μ
   |true=>k (.lsl s.lam.length 0 len) {s with lam:=s.lam++[.arr sz (xs.flatMap CV.cells)]} μ)))
  |_=>none
 | .load t a=>gB P h t (ev a) s μ k
 | .store t a v=>it P h t (ev a) (ev v) s μ k
 | .nilCheck x=>opt (eU (ev x)) fun b=>ax (!b) (k (qp (ev x)) s μ)
 | .binOp op t x y _=>pf P op t x y (ev x) (ev y) fun c=>k (.cv c) s μ
 | .unOp op _ x=>opt (unA op (ev x)) fun c=>k (.cv c) s μ
 | .convert src dst x=>c8 P h src dst (ev x) s μ k
 | .makeInterface t x=>match P.underlying t with
  |some (.interface _)=>none
  |some _=>opt (bP (ev x)) fun c=>k (.cv (.iface t c)) s μ
  |none=>none
 | .makeFunc fn first captured=>match fn with
  | .func f=>match first.toList with
   |[]=>k (.lclo f (captured.toList.map fun x=>strip1 (ev x))) s μ
   |_::_=>none
  |_=>none
 | .slice t x lo hi mx=>match mx with
  |none=>ir P t (ev x) lo hi ev fun v=>k v s μ
  |some _=>none
 | .fieldAddr t x f=>fa P h t (ev x) f fun v=>k v s μ
 | .field t x f=>opt (DP P t (ev x) f) fun v=>k v s μ
 | .indexAddr t x i=>opt (kA (ev i)) fun i=>fb P h t (ev x) i fun v=>k v s μ
 | .index t x i=>opt (kA (ev i)) fun i=>kO P t (ev x) i fun v=>k v s μ
 | .extract t i=>opt (aT (ev t)) fun xs=>opt (xs[i]?) fun v=>k v s μ
 | .panic x=>match ev x with
  | .cv (.iface t c)=>p (.iface t c) s μ
  |_=>none
 | .typeAssert x _ t ok=>jd P (ev x) t ok fun v=>k v s μ
 | .makeMap _ r=>match r with
  |some _=>none
  |none=>k (.mloc s.lam.length) {s with lam:=s.lam++[.map [] []]} μ
 | .makeSlice t l c=>match AH l c with
  |true=>yY P t (ev l) s μ k
  |false=>none
 | .insert t m x y=>iy P t (ev m) (ev x) (ev y) s μ k
 | .mapUpdate t m x y=>iy P t (ev m) (ev x) (ev y) s μ k
 | .lookup t m x ok=>jj P t (ev m) (ev x) ok s μ fun v=>k v s μ
 | .call c=>match c.callee with
  | .builtin b=>match b with
   | .len=>match c.args.toList,c.argTypes.toList with
    |[x],[t]=>opt (Lk P t (ev x)) fun n=>k (.cv (.v (.int .i64 n))) s μ
    |_,_=>none
   | .append=>match c.args.toList,c.argTypes.toList with
    |[x,y],[t,xt]=>fL P h t (some xt) (ev x) (ev y) s μ k
    |_,_=>none
   | .copy=>match c.args.toList,c.argTypes.toList with
    |[x,y],[t,_]=>yt P t (ev x) (ev y) s μ k
    |_,_=>none
   | .max=>match c.args.toList with
    |[x,y]=>opt (aC .i64 (ev x)) fun a=>opt (aC .i64 (ev y)) fun b=>k (.cv (.v (.int .i64 (max a b)))) s μ
    |_=>none
   | .min=>match c.args.toList with
    |[x,y]=>opt (aC .i64 (ev x)) fun a=>opt (aC .i64 (ev y)) fun b=>k (.cv (.v (.int .i64 (min a b)))) s μ
    |_=>none
   |_=>none
  | .value f => ax (fV c.args.toList) (match ev f with
   | .cv (.clo f caps)=>d6 P ρ h o.type f (c.args.toList.map ev++caps.map .cv) s μ k p
   | .lclo f caps=>d6 P ρ h o.type f (c.args.toList.map ev++caps) s μ k p
   |_=>none)
  | .invoke _ _=>none
 |_=>none
inductive Pl where
 |own (i:Nat)
 |out (lev i:Nat)
def kb:Ob→Bool
 | .dead=>false
 |_=>true
def DV (μ:Mu)(lev i:Nat):Bool:=match μ[lev]? with|some l=>Nat.blt i l.length|none=>false
def gA {β:Type}(t:Nat)(s:S)(μ:Mu)(k:Pl→Ob→S→Mu→Option β):Option β:=
 match s.fr t with
 | .loc i _=>match s.pushed with
  |true=>ax (kb (aG s.lam i)) (k (.own i) (aG s.lam i) {s with lam:=s.lam.set i .dead} μ)
  |false=>none
 | .cv c=>opt (mw (.cv c)) fun q=>ax (kb (aU μ q.1 q.2.1)) (k (.out q.1 q.2.1) (aU μ q.1 q.2.1) s (bj μ q.1 q.2.1 .dead))
 |_=>none
def fj {β:Type}(p:Pl)(ob:Ob)(s:S)(μ:Mu)(k:S→Mu→Option β):Option β:=
 match p with
 | .own i=>ax (Nat.blt i s.lam.length&& !kb (aG s.lam i)) (k {s with lam:=s.lam.set i ob} μ)
 | .out lev i=>ax (DV μ lev i&& !kb (aU μ lev i)) (k s (bj μ lev i ob))
def uK (h:OpHint)(o:Oper)(s:S)(μ:Mu)(k:LV→S→Mu→Option α)(p:CV→S→Mu→Option α):Option α:=
 match h.hide with
 |none=>ck P ρ h o s μ k p
 |some t=>gA t s μ fun pl ob s μ=>ck P ρ h o s μ (fun v s μ=>fj pl ob s μ fun s μ=>k v s μ) (fun v s μ=>fj pl ob s μ fun s μ=>p v s μ)
def opK (h:OpHint)(o:Oper)(s:S)(μ:Mu)(k:LV→S→Mu→Option α)(p:CV→S→Mu→Option α):Option α:=
 opt (p7 h.freeze s) fun s=>lT P h.fza s fun s=>uK P ρ h o s μ k p
def OD (r i:Nat):List ((Nat×Nat)×OpHint)→OpHint
 |[]=>{}
 |q::l=>match Nat.beq q.1.1 r&&Nat.beq q.1.2 i with|true=>q.2|false=>OD r i l
def Hints.op (H:Hints)(r i:Nat):OpHint:=OD r i H.ops
def na (ops:Array Oper)(j:Nat):Option Nat:=match ops[j]? with|some o=>o.dst|none=>none
def ed:LV→Option (Option Bool)
 | .cv (.v (.bool b))=>some (some b)
 | .cv (.v (.tuple _))=>some none
 |_=>none
def fg (H:Hints)(r:Nat)(ops:Array Oper):List Nat→S→Mu→(S→Mu→Option α)→(CV→S→Mu→Option α)→Option α
 |[],s,μ,k,_=>k s μ
 |i::rest,s,μ,k,p=>match ops[i]? with
  |none=>none
  |some o=>match o.guard with
   |none=>opK P ρ (H.op r i) o s μ (fun v s μ=>fg H r ops rest (s.put o.dst v) μ k p) p
   |some g=>opt (na ops g.1) fun d=>opt (ed (s.fr d)) fun q=>match q with
    |none=>fg H r ops rest (s.put o.dst (.cv (.v Go.undef))) μ k p
    |some b=>cond b
     (match g.2 with
     |true=>opK P ρ (H.op r i) o (s.set d (.cv (.v (.bool true)))) μ (fun v s μ=>fg H r ops rest (s.put o.dst v) μ k p) p
     |false=>fg H r ops rest ((s.set d (.cv (.v (.bool true)))).put o.dst (.cv (.v Go.undef))) μ k p)
     (match g.2 with
     |false=>opK P ρ (H.op r i) o (s.set d (.cv (.v (.bool false)))) μ (fun v s μ=>fg H r ops rest (s.put o.dst v) μ k p) p
     |true=>fg H r ops rest ((s.set d (.cv (.v (.bool false)))).put o.dst (.cv (.v Go.undef))) μ k p)
inductive Kind where
 |plain
 |rd
 |tk
 |wr
 |ap
 |look
 |tku
 |ou
 |all
def aY (h:OpHint)(o:Oper):Kind:=
 match o.op with
 | .load _ _=>match h.outer with
  |true=>match h.cell with|true=> .tku|false=> .look
  |false=>match h.cell with|true=> .tk|false=> .rd
 | .store _ _ _=>match h.outer with|true=> .ou|false=> .wr
 | .alloc _=> .ap
 | .box _ _=>match h.cell with|true=> .plain|false=> .ap
 | .buildSlice _ _ _=>match h.arr with|true=> .ap|false=> .plain
 | .convert _ _ _=>match h.arr with|true=> .all|false=> .rd
 | .call c=>match c.callee with
  | .builtin b=>match b with| .copy=> .all|_=> .plain
  |_=>match h.push with|true=> .all|false=> .ou
 | .panic _=> .all
 | .typeAssert _ _ _ _=> .all
 | .makeMap _ _=> .all
 | .makeSlice _ _ _=> .all
 | .insert _ _ _ _=> .all
 | .mapUpdate _ _ _ _=> .all
 | .lookup _ _ _ _=> .all
 |_=> .plain
def eQ:Kind→Kind→Bool
 | .all,_=>false
 |_,.all=>false
 | .plain,_=>true
 |_,.plain=>true
 | .rd,.rd=>true
 | .rd,.tk=>true
 | .tk,.rd=>true
 | .tk,.ou=>true
 | .ou,.tk=>true
 | .tk,.look=>true
 | .look,.tk=>true
 | .rd,.ap=>true
 | .rd,.ou=>true
 | .ou,.rd=>true
 | .wr,.ou=>true
 | .ou,.wr=>true
 | .ap,.ou=>true
 | .ou,.ap=>true
 | .look,.look=>true
 | .look,.tku=>true
 | .tku,.look=>true
 | .tku,.rd=>true
 | .rd,.tku=>true
 | .tku,.tk=>true
 | .tk,.tku=>true
 | .tku,.wr=>true
 | .wr,.tku=>true
 | .tku,.ap=>true
 | .ap,.tku=>true
 | .look,.rd=>true
 | .rd,.look=>true
 | .look,.wr=>true
 | .wr,.look=>true
 | .look,.ap=>true
 | .ap,.look=>true
 |_,_=>false
def jO (h:OpHint):Bool:=match h.freeze,h.fza with|[],[]=>true|_,_=>false
def dr (h:OpHint)(o:Oper):List Nat:=match o.dst with|some d=>d::h.take|none=>h.take
def pi:List Nat→List Nat→Bool
 |[],_=>true
 |a::r,l=>match iA l a with|true=>false|false=>pi r l
def xg (o:Oper):List Nat:=match o.dst with|some d=>[d]|none=>[]
def iD (h:OpHint)(o:Oper):Kind:=match h.hide with|none=>aY h o|some _=> .all
def vH (h:OpHint)(o:Oper)(t:Nat):Bool:=
 match o.guard,o.op with
 |none,.load _ (.tmp u)=>Nat.beq u t&&h.cell&&match h.hide with|none=>true|some _=>false
 |_,_=>false
def yG (hx:OpHint)(x:Oper)(hy:OpHint)(y:Oper):Bool:=
 match hy.hide,y.guard,y.op with
 |some t,none,.call c=>match c.callee with
  | .value _=>vH hx x t&& !iA (dr hx x) t&& !iA (dr hy y) t
  |_=>false
 |_,_,_=>false
def vx (H:Hints)(r:Nat)(ops:Array Oper)(j i:Nat):Bool:=
 match ops[j]?,ops[i]? with
 |some x,some y=>pi (xg x) (y.looksAt ops)&&pi (dr (H.op r j) x) (dr (H.op r i) y)&&pi (xg y) (x.looksAt ops)&&
  (eQ (iD (H.op r j) x) (iD (H.op r i) y)||yG (H.op r j) x (H.op r i) y)
 |_,_=>false
def jq (ops:Array Oper)(i:Nat):List Nat:=
 match ops[i]? with
 |some o=>(o.after.toList.filter (Region.binds .any)).map fun e=>e.on
 |none=>[]
def zu (rows:List (List Nat)):List Nat→List Nat
 |[]=>[]
 |p::r=>p::(rows.getD p []++zu rows r)
def ft (ops:Array Oper):Nat→List (List Nat)
 |0=>[]
 |n+1=>ft ops n++[zu (ft ops n) (jq ops n)]
def C2 (f:Nat→Bool):Nat→Bool
 |0=>true
 |n+1=>match f n with|true=>C2 f n|false=>false
def ltB (i:Nat):List Nat→Bool
 |[]=>true
 |p::r=>match Nat.blt p i with|true=>ltB i r|false=>false
def DH (H:Hints)(r:Nat)(ops:Array Oper):Bool:=
 C2 (fun i=>ltB i (jq ops i)&&jO (H.op r i)&&C2 (fun j=>iA ((ft ops ops.size).getD i []) j||vx H r ops j i) i) ops.size
end
mutual
def VP:LV→List Nat
 | .loc i _=>[i]
 | .lsl i _ _=>[i]
 | .mloc i=>[i]
 | .tloc i _ _=>[i]
 | .lclo _ caps=>qb caps
 | .ltup xs=>qb xs
 | .cv _=>[]
 | .osl _=>[]
 | .ost _=>[]
 | .stl _=>[]
def qb:List LV→List Nat
 |[]=>[]
 |x::r=>VP x++qb r
end
def o8 (l:Lam):Nat→List Nat→List Nat→List Nat
 |0,_,acc=>acc
 |_+1,[],acc=>acc
 |n+1,i::todo,acc=>match iA acc i with
  |true=>o8 l n todo acc
  |false=>match aG l i with
   | .cells cs=>o8 l n (qb cs++todo) (acc++[i])
   |_=>o8 l n todo (acc++[i])
def oU:List Nat→Nat→Nat→Option Nat
 |[],_,_=>none
 |a::r,n,i=>match Nat.beq a i with|true=>some n|false=>oU r (n+1) i
mutual
def eB (m:List Nat):LV→Option LV
 | .cv c=>some (.cv c)
 | .osl xs=>some (.osl xs)
 | .ost xs=>some (.ost xs)
 | .stl n=>some (.stl n)
 | .loc i off=>opt (oU m 0 i) fun j=>some (.loc j off)
 | .lsl i off len=>opt (oU m 0 i) fun j=>some (.lsl j off len)
 | .mloc i=>opt (oU m 0 i) fun j=>some (.mloc j)
 | .tloc i t n=>opt (oU m 0 i) fun j=>some (.tloc j t n)
 | .lclo f caps=>opt (eh m caps) fun l=>some (.lclo f l)
 | .ltup xs=>opt (eh m xs) fun l=>some (.ltup l)
def eh (m:List Nat):List LV→Option (List LV)
 |[]=>some []
 |x::r=>opt (eB m x) fun y=>opt (eh m r) fun l=>some (y::l)
end
def dZ (m:List Nat):List Ob→Option (List Ob)
 |[]=>some []
 | .dead::r=>opt (dZ m r) fun l=>some (.dead::l)
 | .arr sz cs::r=>opt (dZ m r) fun l=>some (.arr sz cs::l)
 | .map ks vs::r=>opt (dZ m r) fun l=>some (.map ks vs::l)
 | .cells cs::r=>opt (eh m cs) fun cs=>opt (dZ m r) fun l=>some (.cells cs::l)
def jv:List Nat→List LV→List (Nat×LV)
 |t::ts,v::vs=>(t,v)::jv ts vs
 |_,_=>[]
def Cd (m:Nat)(v:LV):Option LV:=
 match m with
 |0=>some (strip v)
 |1=>opt (gM v) fun xs=>some (.osl xs)
 |4=>opt (yD v) fun xs=>some (.ost xs)
 |_=>opt (bp v) fun xs=>some (.cv (.sl xs))
def uo (fr:Fr):List (Nat×Nat)→Option (List LV)
 |[]=>some []
 |q::r=>opt (Cd q.2 (fr q.1)) fun v=>opt (uo fr r) fun l=>some (v::l)
def dM {α:Type}(live:List (Nat×Nat))(s:S)(k:S→Option α):Option α:=
 opt (uo s.fr live) fun vs=>
 match s.pushed with
 |true=>k {s with fr:=dR (jv (live.map Prod.fst) vs)}
 |false=>
  let m:=o8 s.lam 1000 (qb vs) []
  opt (eh m vs) fun vs=>opt (dZ m (m.map (aG s.lam))) fun l=>k {fr:=dR (jv (live.map Prod.fst) vs),lam:=l,pushed:=false}
def zJ (L m:Nat):CV→Bool
 | .ref lev i _=>match Nat.blt lev L with|true=>true|false=>Nat.blt i m
 | .tref lev i _ _=>match Nat.blt lev L with|true=>true|false=>Nat.blt i m
 |c=>below L c
mutual
def iZ (L m:Nat):LV→Bool
 | .cv c=>zJ L m c
 | .osl xs=>b7 L xs
 | .ost _=>true
 | .stl _=>true
 | .loc i _=>Nat.blt i m
 | .lsl i _ _=>Nat.blt i m
 | .mloc i=>Nat.blt i m
 | .tloc i _ _=>Nat.blt i m
 | .lclo _ caps=>jH L m caps
 | .ltup _=>false
def jH (L m:Nat):List LV→Bool
 |[]=>true
 |x::r=>match iZ L m x with|true=>jH L m r|false=>false
end
def AJ (L m:Nat):Ob→Bool
 | .cells cs=>jH L m cs
 | .arr _ cs=>b7 L cs
 | .map _ vs=>b7 L vs
 | .dead=>true
def ot (L m:Nat):List Ob→Bool
 |[]=>true
 |x::r=>match AJ L m x with|true=>ot L m r|false=>false
def OI:List (Nat×Nat)→Option Nat
 |[]=>none
 |q::r=>match Nat.ble 1000000 q.1 with|true=>some (q.1-1000000)|false=>OI r
def fP (fr:Fr):List (Nat×Nat)→List (Nat×LV)
 |[]=>[]
 |q::r=>(q.1,fr q.1)::fP fr r
def zL:List (Nat×LV)→List LV
 |[]=>[]
 |q::r=>q.2::zL r
def jF {α:Type}(L:Nat)(live:List (Nat×Nat))(s:S)(k:S→Option α):Option α:=
 match OI live with
 |none=>k s
 |some m=>ax (s.pushed&&Nat.ble m s.lam.length&&jH L m (zL (fP s.fr live))&&ot L m (s.lam.take m)) (k {fr:=dR (fP s.fr live),lam:=s.lam.take m,pushed:=true})
def B8 {α:Type}(m:Nat)(v:LV)(k:LV→Option α):Option α:=
 match m with
 |0=>k v
 |1=>opt (gM v) fun xs=>k (.osl xs)
 |3=>opt (bP v) fun c=>k (.cv c)
 |_=>opt (bp v) fun xs=>k (.cv (.sl xs))
def gF {α:Type}:List Nat→List LV→(List LV→Option α)→Option α
 |[],cs,k=>k cs
 |m::ms,c::cs,k=>B8 m c fun c=>gF ms cs fun r=>k (c::r)
 |_::_,[],_=>none
def lI {α:Type}:List (Nat×List Nat)→S→(S→Option α)→Option α
 |[],s,k=>k s
 |q::r,s,k=>match Nat.beq q.1 1000000 with
  |true=>lI r {s with pushed:=true} k
  |false=>match aG s.lam q.1 with
   | .cells cs=>gF q.2 cs fun cs=>lI r {s with lam:=s.lam.set q.1 (.cells cs)} k
   |_=>none
def vD (r:Nat):List (Nat×List (Nat×List Nat))→List (Nat×List Nat)
 |[]=>[]
 |q::l=>match Nat.beq q.1 r with|true=>q.2|false=>vD r l
def bK:Code→Nat
 | .region id _ _=>id
 | .seq a b=>match bK a with|0=>bK b|n+1=>n+1
 | .cond _ a b=>match bK a with|0=>bK b|n+1=>n+1
 | .block _ c=>bK c
 | .loop c=>bK c
 |_=>0
def O9 (r:Nat):List (Nat×List (Nat×Nat)×List (Nat×Nat))→List (Nat×Nat)×List (Nat×Nat)
 |[]=>([],[])
 |q::l=>match Nat.beq q.1 r with|true=>q.2|false=>O9 r l
def K1 (r:Nat):List (Nat×List (Nat×Nat)×List (Nat×Nat))→Option (List (Nat×Nat)×List (Nat×Nat))
 |[]=>none
 |q::l=>match Nat.beq q.1 r with|true=>some q.2|false=>K1 r l
def Hints.lives (H:Hints)(r:Nat):List (Nat×Nat)×List (Nat×Nat):=O9 r H.live
def K2 (n:Nat)(kp:Option Nat)(d:Nat):Bool:=
 match Nat.blt d n with
 |true=>match kp with|some t=> !Nat.beq d t|none=>true
 |false=>false
def mD (n:Nat)(kp:Option Nat):List Oper→Bool
 |[]=>true
 |o::r=>match o.dst with
  |none=>mD n kp r
  |some d=>match K2 n kp d with|true=>mD n kp r|false=>false
def dF (n:Nat)(kp:Option Nat):Code→Bool
 | .region _ ops _=>mD n kp ops.toList
 | .seq a b=>match dF n kp a with|true=>dF n kp b|false=>false
 | .cond _ x y=>match dF n kp x with|true=>dF n kp y|false=>false
 | .block _ c=>dF n kp c
 | .loop c=>dF n kp c
 |_=>true
def bO (P:Program)(ρ:Rho)(H:Hints){α:Type}:Code→S→Mu→(St→Option α)→Option α
 | .skip,s,μ,k=>k (.norm s μ)
 | .region id ops draw,s,μ,k=>match draw with
  |false=>fg P ρ H id ops (List.range ops.size) s μ (fun s μ=>k (.norm s μ)) fun v s μ=>k (.panic v s μ)
  |true=>ax (DH H id ops) (fg P ρ H id ops (List.range ops.size) s μ (fun s μ=>k (.norm s μ)) fun _ _ _=>none)
 | .seq a b,s,μ,k=>bO P ρ H a s μ fun st=>match st with
  | .norm s μ=>match K1 (bK b) H.cuts with
   |none=>bO P ρ H b s μ k
   |some lv=>lI (vD (bK b) H.objs) s fun s=>dM lv.1 s fun s=>jF μ.length lv.1 s fun s=>opt (ρ.seg H lv.2 b s μ) k
  | .exit i s μ=>k (.exit i s μ)
  | .ret s μ=>k (.ret s μ)
  | .panic v s μ=>k (.panic v s μ)
 | .cond c x y,s,μ,k=>opt (aM (evA {} s.fr c)) fun b=>cond b (bO P ρ H x s μ k) (bO P ρ H y s μ k)
 | .block id c,s,μ,k=>bO P ρ H c s μ fun st=>match st with
  | .exit i s μ=>match Nat.beq i id with|true=>k (.norm s μ)|false=>k (.exit i s μ)
  | .norm s μ=>k (.norm s μ)
  | .ret s μ=>k (.ret s μ)
  | .panic v s μ=>k (.panic v s μ)
 | .loop c,s,μ,k=>lI (vD (bK c) H.objs) s fun s=>dM (H.lives (bK c)).1 s fun s=>jF μ.length (H.lives (bK c)).1 s fun s=>opt (ρ.loop H (H.lives (bK c)).2 c s μ) k
 | .exit id,s,μ,k=>k (.exit id s μ)
 | .ret,s,μ,k=>k (.ret s μ)
 |_,_,_,_=>none
def mI (P:Program)(ρ:Rho)(H:Hints)(lv:List (Nat×Nat))(c:Code)(s:S)(μ:Mu):Option St:=
 bO P ρ H c s μ fun st=>match st with
  | .norm s μ=>lI (vD (bK c) H.objs) s fun s=>dM (H.lives (bK c)).1 s fun s=>jF μ.length (H.lives (bK c)).1 s fun s=>ρ.loop H lv c s μ
  | .exit i s μ=>dM lv s fun s=>some (.exit i s μ)
  | .ret s μ=>dM H.res s fun s=>some (.ret s μ)
  | .panic v s μ=>dM H.pan s fun s=>some (.panic v s μ)
def uV (P:Program)(ρ:Rho)(H:Hints)(lv:List (Nat×Nat))(c:Code)(s:S)(μ:Mu):Option St:=
 bO P ρ H c s μ fun st=>match st with
  | .norm s μ=>dM lv s fun s=>some (.norm s μ)
  | .exit i s μ=>dM lv s fun s=>some (.exit i s μ)
  | .ret s μ=>dM H.res s fun s=>some (.ret s μ)
  | .panic v s μ=>dM H.pan s fun s=>some (.panic v s μ)
def j5:Nat→List LV→List (Nat×LV)
 |_,[]=>[]
 |n,v::r=>(n,v)::j5 (n+1) r
def Mw (P:Program)(s:S):ResultVar→Option LV
 | .tmp t=>some (s.fr t)
 | .cell a t=>match s.fr a with
  | .loc i off=>bv P t (aG s.lam i) off
  |_=>none
def vF (P:Program)(s:S):List ResultVar→Option (List LV)
 |[]=>some []
 |x::r=>opt (Mw P s x) fun v=>opt (vF P s r) fun l=>some (v::l)
def eH (vs:List LV):LV:=
 match vs with
 |[v]=>v
 |vs=> .ltup (vs.map strip1)
def gL (P:Program)(rs:List ResultVar)(s:S)(μ:Mu):Option Out:=
 opt (vF P s rs) fun vs=>
 let v:=eH vs
 ax (p6 v) (match s.pushed with
  |false=>some (.ret v μ)
  |true=>ax (gn μ.length v) (some (.ret v μ)))
def B7 (P:Program)(ρ:Rho)(H:Hints)(fn:Func)(c:Code)(args:List LV)(μ:Mu):Option Out:=
 ax (Nat.ble args.length fn.ntmps && dF fn.ntmps none c && !(fn.name == "runtime.NumGoroutine")) (
 bO P ρ H c {fr:=dR (j5 0 args),lam:=[],pushed:=false} μ fun st=>match st with
  | .norm s μ=>gL P fn.results.toList s μ
  | .ret s μ=>gL P fn.results.toList s μ
  | .panic v _ μ=>ax (below μ.length v) (some (.panic v μ))
  | .exit _ _ _=>none)
def kJ {α:Type}(ρ:Rho)(t:Nat)(pv:Option CV)(s:S)(μ:Mu)(k:S→Mu→Option α):Option α:=
 match s.fr t with
 | .lclo f caps=>opt (gx μ.length caps) fun args=>opt (dT μ.length s.lam) fun l=>
   opt (ρ.dcall f pv args (μ++[l])) fun μ2=>opt (jp μ2) fun q=>k {s with lam:=q.2,pushed:=true} q.1
 |_=>none
def Aj (P:Program)(ρ:Rho)(t:Nat)(rs:List ResultVar)(st:St):Option Out:=
 match st with
 | .norm s μ=>kJ ρ t none s μ fun s μ=>gL P rs s μ
 | .ret s μ=>kJ ρ t none s μ fun s μ=>gL P rs s μ
 | .panic v s μ=>kJ ρ t (some v) s μ fun s μ=>gL P rs s μ
 | .exit _ _ _=>none
def S1:LV→Bool
 | .lclo _ _=>true
 |_=>false
def Ao (t:Nat)(o:Oper):Bool:=
 match o.guard,o.dst,o.op with
 |none,none,.defer c=>match c.callee with
  | .value (.tmp u)=>match c.args.toList with|[]=>Nat.beq u t|_=>false
  |_=>false
 |_,_,_=>false
def pT (P:Program)(ρ:Rho)(H:Hints)(fn:Func)(c:Code)(t:Nat)(args:List LV)(μ:Mu):Option Out:=
 match c with
 | .seq a (.seq (.region id ops draw) b)=>match draw with
  |true=>none
  |false=>match ops[ops.size-1]? with
   |none=>none
   | some o => ax (Nat.ble args.length fn.ntmps && dF fn.ntmps none a && mD fn.ntmps none ops.toList && dF fn.ntmps (some t) b && !(fn.name == "runtime.NumGoroutine") && Ao t o) (
    bO P ρ H a {fr:=dR (j5 0 args),lam:=[],pushed:=false} μ fun st=>match st with
     | .norm s μ=>fg P ρ H id ops (List.range (ops.size-1)) s μ (fun s μ=>ax (S1 (s.fr t)) (bO P ρ H b s μ (Aj P ρ t fn.results.toList))) (fun _ _ _=>none)
     |_=>none)
 |_=>none
def ui (o:Oper):Bool:=
 match o.guard,o.op with
 |none,.call c=>match c.callee with| .builtin .recover=>true|_=>false
 |_,_=>false
def Fo (pv:Option CV):LV:=match pv with|some v=> .cv v|none=> .cv (.v .nilIface)
def pW (P:Program)(ρ:Rho)(H:Hints)(fn:Func)(c:Code)(pv:Option CV)(args:List LV)(μ:Mu):Option Mu:=
 match c with
 | .seq (.region id ops draw) b=>match draw with
  |true=>none
  |false=>match ops[0]? with
   |none=>none
   | some o => ax (Nat.ble args.length fn.ntmps && mD fn.ntmps none ops.toList && dF fn.ntmps none b && !(fn.name == "runtime.NumGoroutine") && ui o && fn.results.isEmpty) (
    fg P ρ H id ops (List.range' 1 (ops.size-1)) (S.put {fr:=dR (j5 0 args),lam:=[],pushed:=false} o.dst (Fo pv)) μ
     (fun s μ => bO P ρ H b s μ fun st => match st with
      | .norm s μ=>some μ
      | .ret s μ=>some μ
      |_=>none) (fun _ _ _=>none))
 |_=>none
structure Env where
 P:Program
 hints:FuncId→Hints
 prim:FuncId→Option (List LV→Mu→Option Out)
def aD (E:Env)(ρ:Rho)(f:FuncId)(args:List LV)(μ:Mu):Option Out:=
 match E.prim f with
 |some g=>g args μ
 |none=>match E.P.funcs[f]? with
  |some fn=>match fn.body with
   |some c=>match(E.hints f).dfr with
    |none=>B7 E.P ρ (E.hints f) fn c args μ
    |some t=>pT E.P ρ (E.hints f) fn c t args μ
   |none=>none
  |none=>none
def gY (E:Env)(ρ:Rho)(f:FuncId)(pv:Option CV)(args:List LV)(μ:Mu):Option Mu:=
 match E.P.funcs[f]? with
 |some fn=>match fn.body with
  |some c=>pW E.P ρ (E.hints f) fn c pv args μ
  |none=>none
 |none=>none
def evn (E:Env):Nat→Rho
 |0=>{call:=fun _ _ _=>none,loop:=fun _ _ _ _ _=>none,seg:=fun _ _ _ _ _=>none,dcall:=fun _ _ _ _=>none}
 |n+1=>{call:=aD E (evn E n),loop:=fun H lv c s μ=>mI E.P (evn E n) H lv c s μ,seg:=fun H lv c s μ=>uV E.P (evn E n) H lv c s μ,dcall:=gY E (evn E n)}
end Go.Abs
set_option linter.unusedVariables false
namespace Go.Abs
open Go
structure Gh where
 O:Nat→Nat
 β:Nat→Nat→Nat
 n:Nat→Nat
 sz:Nat→Nat→Nat
section
variable (G:Gh)(w:World)
mutual
def VR:CV→Value→Prop
 | .undef,_=>True
 | .v x,c=>c=x
 | .agg cs,c=> ∃vs:Array Value,c= .agg vs∧VRL cs vs.toList
 | .sl xs,c=> ∃A len cap,c= .slice A len cap∧len=xs.length∧len≤cap∧(len=0∨ ∃b off s,A=some ⟨b,off,none⟩∧(∀x∈xs,x.cells.length=s)∧EL b s off xs)
 | .view cs,c=> ∃b off,c= .pointer (some ⟨b,off,none⟩)∧CL b off cs
 | .ref lev i off,c=>i<G.n lev∧c= .pointer (some ⟨G.β lev i,off,none⟩)
 | .msl lev i off len,c=>i<G.n lev∧ ∃cap cur e fz,c= .slice (some ⟨G.β lev i,off,none⟩) len cap∧len≤cap∧w.heap[G.β lev i]? =some (.cells cur e fz)∧off+cap*G.sz lev i≤cur.size
 | .clo f caps,c=> ∃vs:Array Value,c= .func (.func f) #[] vs∧VRL caps vs.toList
 | .iface t x,c=> ∃v,c= .iface t v∧VR x v
 | .mview ks vs,c=> ∃r es clk,c= .map (some r)∧w.heap[r]? =some (.map es clk)∧0<G.O r∧es.toList.map MapEntry.key=ks∧VRL vs (es.toList.map MapEntry.val)
 | .mref lev i,c=>i<G.n lev∧c= .map (some (G.β lev i))
 | .tref lev i t n,c=>i<G.n lev∧c= .pointer (some ⟨G.β lev i,0,none⟩)∧ ∃cur fz,w.heap[G.β lev i]? =some (.cells cur t fz)∧cur.size=n
def VRL:List CV→List Value→Prop
 |[],vs=>vs=[]
 |c::cs,vs=> ∃v r,vs=v::r∧VR c v∧VRL cs r
def CL (b:Nat):Nat→List CV→Prop
 |_,[]=>True
 |off,c::r=>(∃v,w.cell? ⟨b,off,none⟩=some v∧off<G.O b∧VR c v)∧CL b (off+1) r
def EL (b s:Nat):Nat→List CV→Prop
 |_,[]=>True
 | off, x :: r => (match x with
  | .agg cs=>CL b off cs
  |c=> ∃v,w.cell? ⟨b,off,none⟩=some v∧off<G.O b∧VR c v)∧EL b s (off+s) r
end
end
def km (G:Gh)(w:World)(xs:List CV)(v:Value):Prop:=
 (xs=[]∧v= .slice none 0 0)∨
 ∃b cap cur e s,v= .slice (some ⟨b,0,none⟩) xs.length cap∧w.heap[b]? =some (.cells cur e (0,0))∧xs.length≤cap∧cap≤maxLen∧
  cap*s≤cur.size∧(∀x∈xs,x.cells.length=s)∧(xs=[]→cap=0)∧EL G w b s 0 xs∧G.O b=xs.length*s∧((bn xs).isSome=true→xs≠[]→e=5)
theorem AY {e:TypeId}{xs:List CV}(h:(Nat.beq e 5||fZ xs)=true):(bn xs).isSome=true→xs≠[]→e=5:=by
 intro hb hne
 rw[Bool.or_eq_true]at h
 rcases h with h|h
 ·exact Nat.eq_of_beq_eq_true h
 ·exfalso
  cases xs with
  |nil=>exact hne rfl
  |cons y r=>
   simp only[fZ]at h
   unfold noB at h
   split at h
   ·cases h
   ·rename_i hy
    unfold bn at hb
    split at hb
    ·rename_i heq;cases heq
    ·rename_i n r' heq
     injection heq with h1 h2
     exact hy n h1
    ·simp at hb
theorem rZ: ∀(xs ys:List CV),(bn (xs++ys)).isSome=true→(bn xs).isSome=true
 |[],ys,_=>rfl
 |y::r,ys,h=>by
  rw[List.cons_append]at h
  unfold bn at h ⊢
  split at h
  ·rename_i heq;cases heq
  ·rename_i n r' heq
   injection heq with h1 h2
   subst h1 h2
   simp only
   split at h
   ·have:(bn (r++ys)).isSome=true:=by
     cases hx:bn (r++ys)with
     |none=>rw[hx]at h;simp[opt]at h
     |some l=>rfl
    have:=rZ r ys this
    cases hx:bn r with
    |none=>rw[hx]at this;cases this
    |some l=>rfl
   ·cases h
  ·simp at h
theorem r9: ∀(xs ys:List CV),(bn (xs++ys)).isSome=true→(bn ys).isSome=true
 |[],ys,h=>h
 |y::r,ys,h=>by
  rw[List.cons_append]at h
  unfold bn at h
  split at h
  ·rename_i heq;cases heq
  ·rename_i n r' heq
   injection heq with h1 h2
   subst h2
   split at h
   ·refine r9 r ys ?_
    cases hx:bn (r++ys)with
    |none=>rw[hx]at h;simp[opt]at h
    |some l=>rfl
   ·cases h
  ·simp at h
theorem F0 {e:TypeId}{xs ys:List CV}(h:(Nat.beq e 5||fZ ys)=true)(hne:ys≠[]):(bn (xs++ys)).isSome=true→xs++ys≠[]→e=5:=
 fun h1 _=>AY h (r9 xs ys h1) hne
def pL (G:Gh)(w:World)(xs:List Value)(v:Value):Prop:=
 (xs=[]∧v= .slice none 0 0)∨
 ∃b cap cur e,v= .slice (some ⟨b,0,none⟩) xs.length cap∧w.heap[b]? =some (.cells cur e (0,0))∧xs.length≤cap∧cap≤maxLen∧cap≤cur.size∧G.O b=0∧ ∀(j:Nat) x,xs[j]? =some x→cur.getD j undef=x
mutual
def LVR (G:Gh)(w:World)(L nl:Nat):LV→Value→Prop
 | .cv c,v=>VR G w c v
 | .osl xs,v=>km G w xs v
 | .ost xs,v=>pL G w xs v
 | .stl n,v=> ∃A cap,v= .slice A n cap
 | .loc i off,v=>i<nl∧v= .pointer (some ⟨G.β L i,off,none⟩)
 | .lsl i off len,v=>i<nl∧ ∃cap cur e fz,v= .slice (some ⟨G.β L i,off,none⟩) len cap∧len≤cap∧cap≤maxLen∧w.heap[G.β L i]? =some (.cells cur e fz)∧off+cap*G.sz L i≤cur.size
 | .lclo f caps,v=> ∃vs:Array Value,v= .func (.func f) #[] vs∧bT G w L nl caps vs.toList
 | .ltup xs,v=> ∃vs:Array Value,v= .tuple vs∧bT G w L nl xs vs.toList
 | .mloc i,v=>i<nl∧v= .map (some (G.β L i))
 | .tloc i t n,v=>i<nl∧v= .pointer (some ⟨G.β L i,0,none⟩)∧ ∃cur fz,w.heap[G.β L i]? =some (.cells cur t fz)∧cur.size=n
def bT (G:Gh)(w:World)(L nl:Nat):List LV→List Value→Prop
 |[],vs=>vs=[]
 |c::cs,vs=> ∃v r,vs=v::r∧oX c=false∧LVR G w L nl c v∧bT G w L nl cs r
end
def ec (cur:Array Value)(fz:Nat×Nat):Prop:= ∀j,j<cur.size→ ¬(fz.1≤j∧j<fz.2)
def sF (G:Gh)(w:World)(ks:List Value)(vs:List CV)(es:Array MapEntry):Prop:=es.toList.map MapEntry.key=ks∧VRL G w vs (es.toList.map MapEntry.val)
def ObR (G:Gh)(w:World)(L nl:Nat)(b sz:Nat):Ob→Prop
 | .dead=>True
 | .cells cs=> ∃cur e fz,w.heap[b]? =some (.cells cur e fz)∧ec cur fz∧G.O b=0∧cs.length≤cur.size∧ ∀j x,cs[j]? =some x→LVR G w L nl x (cur.getD j undef)
 | .arr k cs=>k=sz∧ ∃cur e fz,w.heap[b]? =some (.cells cur e fz)∧ec cur fz∧G.O b=0∧cs.length≤cur.size∧ ∀j x,cs[j]? =some x→VR G w x (cur.getD j undef)
 | .map ks vs=> ∃es clk,w.heap[b]? =some (.map es clk)∧G.O b=0∧sF G w ks vs es
def aH:LV→Value→Nat→Prop
 | .osl _,.slice (some a) _ _,b=>a.block=b
 | .ost _,.slice (some a) _ _,b=>a.block=b
 |_,_,_=>False
inductive Loc where
 |fr (t:Nat)
 |ob (lev i k:Nat)
def Gh.below (G:Gh)(lev:Nat):Gh:={G with n:=fun l=>if l≤lev then G.n l else 0}
def aE (H:Mu)(lev i:Nat):Ob:=aU H lev i
def ay (G:Gh)(w:World)(fr:Fr)(tm:Array Value)(H:Mu):Loc→Nat→Prop
 | .fr t,b=>aH (fr t) (tm.getD t undef) b
 | .ob lev i k,b=>match aE H lev i with
  | .cells cs=>match cs[k]? with
   |some x=> ∃cur e fz,w.heap[G.β lev i]? =some (.cells cur e fz)∧aH x (cur.getD k undef) b
   |none=>False
  |_=>False
def aK:Ob→Prop
 | .dead=>False
 |_=>True
def fI (G:Gh)(w:World)(fr:Fr)(tm:Array Value)(H:Mu)(b:Nat):Prop:=
 (∃l,ay G w fr tm H l b)∨ ∃lev i,aK (aE H lev i)∧G.β lev i=b
structure Rel (G:Gh) (L:Nat) (s:S) (μ:Mu) (tm:Array Value) (w:World):Prop where
 lev:μ.length=L
 fr: ∀t,LVR G w L s.lam.length (s.fr t) (tm.getD t undef)
 lam: ∀i,ObR G w L s.lam.length (G.β L i) (G.sz L i) (aG s.lam i)
 mu: ∀lev i,lev<L→ObR (G.below lev) w lev 0 (G.β lev i) (G.sz lev i) (aU μ lev i)
 inj: ∀lev i lev' i',aK (aE (μ++[s.lam]) lev i)→aK (aE (μ++[s.lam]) lev' i')→G.β lev i=G.β lev' i'→lev=lev'∧i=i'
 own: ∀l l' b,ay G w s.fr tm (μ++[s.lam]) l b→ay G w s.fr tm (μ++[s.lam]) l' b→l=l'
 apart: ∀l b lev i,ay G w s.fr tm (μ++[s.lam]) l b→aK (aE (μ++[s.lam]) lev i)→G.β lev i≠b
 nlt: ∀lev,lev<L→G.n lev=(μ.getD lev []).length
 nL:G.n L=if s.pushed then s.lam.length else 0
 ngt: ∀lev,L<lev→G.n lev=0
structure Le (G:Gh) (w:World) (G':Gh) (w':World):Prop where
 map: ∀(b:Nat) (es:Array MapEntry) (clk:Nat),0<G.O b→w.heap[b]? =some (.map es clk)→0<G'.O b∧w'.heap[b]? =some (.map es clk)
 ref: ∀lev i,i<G.n lev→i<G'.n lev∧G'.β lev i=G.β lev i∧G'.sz lev i=G.sz lev i
 imm: ∀(b off:Nat) (v:Value),off<G.O b→w.cell? ⟨b,off,none⟩=some v→off<G'.O b∧w'.cell? ⟨b,off,none⟩=some v
 blk: ∀(b:Nat) (cur:Array Value) (e:TypeId) (fz:Nat×Nat),w.heap[b]? =some (.cells cur e fz)→ ∃(cur':Array Value) (fz':Nat×Nat),w'.heap[b]? =some (.cells cur' e fz')∧cur'.size=cur.size
theorem Le.refl (G:Gh)(w:World):Le G w G w:=⟨fun _ _ _ h hb=>⟨h,hb⟩,fun _ _ h=>⟨h,rfl,rfl⟩,fun _ _ _ h hc=>⟨h,hc⟩,fun b cur e fz h=>⟨cur,fz,h,rfl⟩⟩
theorem Le.trans {G G1 G2:Gh}{w w1 w2:World}(a:Le G w G1 w1)(b:Le G1 w1 G2 w2):Le G w G2 w2:=by
 refine⟨fun bl es clk h hb=> ?_,fun lev i h=> ?_,fun bl off v h hc=> ?_,fun bl cur e fz h=> ?_⟩
 ·obtain⟨h1,h2⟩:=a.map bl es clk h hb
  exact b.map bl es clk h1 h2
 ·obtain⟨h1,h2,h3⟩:=a.ref lev i h
  obtain⟨k1,k2,k3⟩:=b.ref lev i h1
  exact⟨k1,k2.trans h2,k3.trans h3⟩
 ·obtain⟨h1,h2⟩:=a.imm bl off v h hc
  exact b.imm bl off v h1 h2
 ·obtain⟨c1,f1,h1,e1⟩:=a.blk bl cur e fz h
  obtain⟨c2,f2,h2,e2⟩:=b.blk bl c1 e f1 h1
  exact⟨c2,f2,h2,e2.trans e1⟩
section
variable {G G':Gh}{w w':World}(h:Le G w G' w')
include h
mutual
theorem bi: ∀(c:CV) (v:Value),VR G w c v→VR G' w' c v
 | .undef,v,_=>by simp[VR]
 | .v x,v,hv=>by simpa[VR]using hv
 | .agg cs,v,hv=>by
  simp only[VR]at hv ⊢
  obtain⟨vs,e,hl⟩:=hv
  exact⟨vs,e,hJ cs _ hl⟩
 | .sl xs,v,hv=>by
  simp only[VR]at hv ⊢
  obtain⟨A,len,cap,e,h1,h2,h3⟩:=hv
  refine⟨A,len,cap,e,h1,h2,h3.imp id ?_⟩
  rintro⟨b,off,s,e1,hs,hl⟩
  exact⟨b,off,s,e1,hs,d8 b s off xs hl⟩
 | .view cs,v,hv=>by
  simp only[VR]at hv ⊢
  obtain⟨b,off,e,hl⟩:=hv
  exact⟨b,off,e,zP b off cs hl⟩
 | .ref lev i off,v,hv=>by
  simp only[VR]at hv ⊢
  obtain⟨h1,e⟩:=hv
  obtain⟨a,b,_⟩:=h.ref lev i h1
  exact⟨a,by rw[b];exact e⟩
 | .msl lev i off len,v,hv=>by
  simp only[VR]at hv ⊢
  obtain⟨h1,cap,cur,e,fz,hv,hc,hb,hs⟩:=hv
  obtain⟨a,b,c⟩:=h.ref lev i h1
  obtain⟨cur',fz',hb',hs'⟩:=h.blk _ _ _ _ hb
  exact⟨a,cap,cur',e,fz',by rw[b];exact hv,hc,by rw[b];exact hb',by rw[hs',c];exact hs⟩
 | .clo f caps,v,hv=>by
  simp only[VR]at hv ⊢
  obtain⟨vs,e,hl⟩:=hv
  exact⟨vs,e,hJ caps _ hl⟩
 | .iface t x,v,hv=>by
  simp only[VR]at hv ⊢
  obtain⟨u,e,hl⟩:=hv
  exact⟨u,e,bi x u hl⟩
 | .mview ks vs,v,hv=>by
  simp only[VR]at hv ⊢
  obtain⟨r,es,clk,e,h1,h2,h3,h4⟩:=hv
  obtain⟨k1,k2⟩:=h.map r es clk h2 h1
  exact⟨r,es,clk,e,k2,k1,h3,hJ vs _ h4⟩
 | .mref lev i,v,hv=>by
  simp only[VR]at hv ⊢
  obtain⟨h1,e⟩:=hv
  obtain⟨a,b,_⟩:=h.ref lev i h1
  exact⟨a,by rw[b];exact e⟩
 | .tref lev i t n,v,hv=>by
  simp only[VR]at hv ⊢
  obtain⟨h1,e,cur,fz,h2,h3⟩:=hv
  obtain⟨a,b,_⟩:=h.ref lev i h1
  obtain⟨cur',fz',hb',hs'⟩:=h.blk _ _ _ _ h2
  exact⟨a,by rw[b];exact e,cur',fz',by rw[b];exact hb',by rw[hs',h3]⟩
theorem hJ: ∀(cs:List CV) (vs:List Value),VRL G w cs vs→VRL G' w' cs vs
 |[],vs,hv=>by simpa[VRL]using hv
 |c::cs,vs,hv=>by
  simp only[VRL]at hv ⊢
  obtain⟨v,r,e,h1,h2⟩:=hv
  exact⟨v,r,e,bi c v h1,hJ cs r h2⟩
theorem zP (b:Nat): ∀(off:Nat) (cs:List CV),CL G w b off cs→CL G' w' b off cs
 |_,[],_=>by simp[CL]
 |off,c::cs,hv=>by
  simp only[CL]at hv ⊢
  obtain⟨⟨v,hc,ho,h1⟩,h2⟩:=hv
  obtain⟨a,b⟩:=h.imm _ _ _ ho hc
  exact⟨⟨v,b,a,bi c v h1⟩,zP _ (off+1) cs h2⟩
theorem d8 (b s:Nat): ∀(off:Nat) (cs:List CV),EL G w b s off cs→EL G' w' b s off cs
 |_,[],_=>by simp[EL]
 |off,.agg cs::r,hv=>by
  simp only[EL]at hv ⊢
  exact⟨zP b off cs hv.1,d8 b s (off+s) r hv.2⟩
 |off,.undef::r,hv=>by
  simp only[EL]at hv ⊢
  obtain⟨⟨v,hc,ho,h1⟩,h2⟩:=hv
  obtain⟨a,b⟩:=h.imm _ _ _ ho hc
  exact⟨⟨v,b,a,by simp[VR]⟩,d8 _ s (off+s) r h2⟩
 |off,.v x::r,hv=>by
  simp only[EL]at hv ⊢
  obtain⟨⟨v,hc,ho,h1⟩,h2⟩:=hv
  obtain⟨a,b⟩:=h.imm _ _ _ ho hc
  exact⟨⟨v,b,a,bi (.v x) v h1⟩,d8 _ s (off+s) r h2⟩
 |off,.sl x::r,hv=>by
  simp only[EL]at hv ⊢
  obtain⟨⟨v,hc,ho,h1⟩,h2⟩:=hv
  obtain⟨a,b⟩:=h.imm _ _ _ ho hc
  exact⟨⟨v,b,a,bi (.sl x) v h1⟩,d8 _ s (off+s) r h2⟩
 |off,.view x::r,hv=>by
  simp only[EL]at hv ⊢
  obtain⟨⟨v,hc,ho,h1⟩,h2⟩:=hv
  obtain⟨a,b⟩:=h.imm _ _ _ ho hc
  exact⟨⟨v,b,a,bi (.view x) v h1⟩,d8 _ s (off+s) r h2⟩
 |off,.ref x y z::r,hv=>by
  simp only[EL]at hv ⊢
  obtain⟨⟨v,hc,ho,h1⟩,h2⟩:=hv
  obtain⟨a,b⟩:=h.imm _ _ _ ho hc
  exact⟨⟨v,b,a,bi (.ref x y z) v h1⟩,d8 _ s (off+s) r h2⟩
 |off,.msl x y z l::r,hv=>by
  simp only[EL]at hv ⊢
  obtain⟨⟨v,hc,ho,h1⟩,h2⟩:=hv
  obtain⟨a,b⟩:=h.imm _ _ _ ho hc
  exact⟨⟨v,b,a,bi (.msl x y z l) v h1⟩,d8 _ s (off+s) r h2⟩
 |off,.clo f x::r,hv=>by
  simp only[EL]at hv ⊢
  obtain⟨⟨v,hc,ho,h1⟩,h2⟩:=hv
  obtain⟨a,b⟩:=h.imm _ _ _ ho hc
  exact⟨⟨v,b,a,bi (.clo f x) v h1⟩,d8 _ s (off+s) r h2⟩
 |off,.iface t x::r,hv=>by
  simp only[EL]at hv ⊢
  obtain⟨⟨v,hc,ho,h1⟩,h2⟩:=hv
  obtain⟨a,b⟩:=h.imm _ _ _ ho hc
  exact⟨⟨v,b,a,bi (.iface t x) v h1⟩,d8 _ s (off+s) r h2⟩
 |off,.mview x y::r,hv=>by
  simp only[EL]at hv ⊢
  obtain⟨⟨v,hc,ho,h1⟩,h2⟩:=hv
  obtain⟨a,b⟩:=h.imm _ _ _ ho hc
  exact⟨⟨v,b,a,bi (.mview x y) v h1⟩,d8 _ s (off+s) r h2⟩
 |off,.mref x y::r,hv=>by
  simp only[EL]at hv ⊢
  obtain⟨⟨v,hc,ho,h1⟩,h2⟩:=hv
  obtain⟨a,b⟩:=h.imm _ _ _ ho hc
  exact⟨⟨v,b,a,bi (.mref x y) v h1⟩,d8 _ s (off+s) r h2⟩
 |off,.tref x y t n::r,hv=>by
  simp only[EL]at hv ⊢
  obtain⟨⟨v,hc,ho,h1⟩,h2⟩:=hv
  obtain⟨a,b⟩:=h.imm _ _ _ ho hc
  exact⟨⟨v,b,a,bi (.tref x y t n) v h1⟩,d8 _ s (off+s) r h2⟩
end
theorem me {ks:List Value}{vs:List CV}{es:Array MapEntry}(hm:sF G w ks vs es):sF G' w' ks vs es:=⟨hm.1,hJ h vs _ hm.2⟩
end
end Go.Abs
set_option linter.unusedVariables false
namespace Go.Abs
open Go
structure Ext (L:Nat) (T:Nat→Prop) (G:Gh) (w:World) (G':Gh) (w':World) (T':Nat→Prop):Prop where
 le:Le G w G' w'
 os:w'.os=w.os
 tape:w'.tape=w.tape
 output:w'.output=w.output
 size:w.heap.size≤w'.heap.size
 keep: ∀b,b<w.heap.size→ ¬T b→w'.heap[b]? =w.heap[b]? ∧G'.O b=G.O b
 grow: ∀b,T' b→T b∨w.heap.size≤b
 lev: ∀l,l<L→(∀i,G'.β l i=G.β l i∧G'.sz l i=G.sz l i)∧G'.n l=G.n l
theorem Ext.refl {L:Nat}{T T':Nat→Prop}(G:Gh)(w:World)(h: ∀b,T' b→T b):Ext L T G w G w T':=
 ⟨Le.refl G w,rfl,rfl,rfl,Nat.le_refl _,fun _ _ _=>⟨rfl,rfl⟩,fun b hb=> .inl (h b hb),fun _ _=>⟨fun _=>⟨rfl,rfl⟩,rfl⟩⟩
theorem Ext.trans {L:Nat}{T T1 T2:Nat→Prop}{G G1 G2:Gh}{w w1 w2:World}(a:Ext L T G w G1 w1 T1)(b:Ext L T1 G1 w1 G2 w2 T2):Ext L T G w G2 w2 T2:=by
 refine⟨a.le.trans b.le,b.os.trans a.os,b.tape.trans a.tape,b.output.trans a.output,Nat.le_trans a.size b.size,fun x hx hT=> ?_,fun x hx=> ?_,fun l hl=> ?_⟩
 ·obtain⟨h1,h2⟩:=a.keep x hx hT
  have h3: ¬T1 x:=fun h=>by
   rcases a.grow x h with h|h
   ·exact hT h
   ·omega
  obtain⟨h4,h5⟩:=b.keep x (Nat.lt_of_lt_of_le hx a.size) h3
  exact⟨h4.trans h1,h5.trans h2⟩
 ·rcases b.grow x hx with h|h
  ·exact a.grow x h
  ·exact .inr (Nat.le_trans a.size h)
 ·obtain⟨h1,h2⟩:=a.lev l hl
  obtain⟨h3,h4⟩:=b.lev l hl
  exact⟨fun i=>⟨(h3 i).1.trans (h1 i).1,(h3 i).2.trans (h1 i).2⟩,h4.trans h2⟩
theorem Ext.drew {L:Nat}{T T':Nat→Prop}{G G':Gh}{w w':World}(h:Ext L T G w G' w' T'):Ext L T G w G' w'.drew T':=
 ⟨⟨h.le.map,h.le.ref,h.le.imm,h.le.blk⟩,h.os,h.tape,h.output,h.size,h.keep,h.grow,h.lev⟩
theorem Ext.weaken {L:Nat}{T T1 T' T1':Nat→Prop}{G G':Gh}{w w':World}(h:Ext L T G w G' w' T')(h1: ∀b,T b→T1 b)(h2: ∀b,T1' b→T' b):Ext L T1 G w G' w' T1':=
 ⟨h.le,h.os,h.tape,h.output,h.size,fun b hb hn=>h.keep b hb fun ht=>hn (h1 b ht),fun b hb=>(h.grow b (h2 b hb)).imp (h1 b) id,h.lev⟩
section
variable {G G':Gh}{w w':World}{L nl nl':Nat}
theorem kn (h:Le G w G' w'){xs:List CV}{v:Value}(ho: ∀a n c,v= .slice (some a) n c→w'.heap[a.block]? =w.heap[a.block]? ∧G'.O a.block=G.O a.block)(hv:km G w xs v):km G' w' xs v:=by
 rcases hv with hv|⟨b,cap,cur,e,s,rfl,hb,h1,h2,h3,h4,h5,h6,h7,h8⟩
 ·exact .inl hv
 ·obtain⟨k1,k2⟩:=ho _ _ _ rfl
  exact .inr ⟨b,cap,cur,e,s,rfl,k1.trans hb,h1,h2,h3,h4,h5,d8 h b s 0 xs h6,k2.trans h7,h8⟩
theorem sG {xs:List Value}{v:Value}(ho: ∀a n c,v= .slice (some a) n c→w'.heap[a.block]? =w.heap[a.block]? ∧G'.O a.block=G.O a.block)(hv:pL G w xs v):pL G' w' xs v:=by
 rcases hv with hv|⟨b,cap,cur,e,rfl,hb,h1,h2,h3,h4,h5⟩
 ·exact .inl hv
 ·obtain⟨k1,k2⟩:=ho _ _ _ rfl
  exact .inr ⟨b,cap,cur,e,rfl,k1.trans hb,h1,h2,h3,k2.trans h4,h5⟩
theorem nz {x:LV}{v:Value}{b:Nat}(h:oX x=false): ¬aH x v b:=by
 cases x<;>simp[aH]at h ⊢
mutual
theorem cZ (h:Le G w G' w')(hn:nl≤nl')(hβ: ∀i,i<nl→G'.β L i=G.β L i∧G'.sz L i=G.sz L i): ∀(x:LV) (v:Value),
  (∀b,aH x v b→w'.heap[b]? =w.heap[b]? ∧G'.O b=G.O b)→LVR G w L nl x v→LVR G' w' L nl' x v
 | .cv c,v,ho,hv=>by simp only[LVR]at hv ⊢; exact bi h c v hv
 | .osl xs,v,ho,hv=>by
  simp only[LVR]at hv ⊢
  exact kn h (fun a n c e=>ho a.block (by subst e;simp[aH])) hv
 | .ost xs,v,ho,hv=>by
  simp only[LVR]at hv ⊢
  exact sG (fun a n c e=>ho a.block (by subst e;simp[aH])) hv
 | .stl n,v,ho,hv=>by simpa[LVR]using hv
 | .loc i off,v,ho,hv=>by
  simp only[LVR]at hv ⊢
  exact⟨by omega,by rw[(hβ i hv.1).1];exact hv.2⟩
 | .lsl i off len,v,ho,hv=>by
  simp only[LVR]at hv ⊢
  obtain⟨h0,cap,cur,e,fz,h1,h2,h2',h3,h4⟩:=hv
  obtain⟨cur',fz',hb',hs'⟩:=h.blk _ _ _ _ h3
  refine⟨by omega,cap,cur',e,fz',by rw[(hβ i h0).1];exact h1,h2,h2',by rw[(hβ i h0).1];exact hb',by rw[hs',(hβ i h0).2];exact h4⟩
 | .lclo f caps,v,ho,hv=>by
  simp only[LVR]at hv ⊢
  obtain⟨vs,e,hl⟩:=hv
  exact⟨vs,e,sC h hn hβ caps _ hl⟩
 | .ltup xs,v,ho,hv=>by
  simp only[LVR]at hv ⊢
  obtain⟨vs,e,hl⟩:=hv
  exact⟨vs,e,sC h hn hβ xs _ hl⟩
 | .mloc i,v,ho,hv=>by
  simp only[LVR]at hv ⊢
  exact⟨by omega,by rw[(hβ i hv.1).1];exact hv.2⟩
 | .tloc i t n,v,ho,hv=>by
  simp only[LVR]at hv ⊢
  obtain⟨h0,e,cur,fz,h2,h3⟩:=hv
  obtain⟨cur',fz',hb',hs'⟩:=h.blk _ _ _ _ h2
  exact⟨by omega,by rw[(hβ i h0).1];exact e,cur',fz',by rw[(hβ i h0).1];exact hb',by rw[hs',h3]⟩
theorem sC (h:Le G w G' w')(hn:nl≤nl')(hβ: ∀i,i<nl→G'.β L i=G.β L i∧G'.sz L i=G.sz L i): ∀(xs:List LV) (vs:List Value),
  bT G w L nl xs vs→bT G' w' L nl' xs vs
 |[],vs,hv=>by simpa[bT]using hv
 |x::xs,vs,hv=>by
  simp only[bT]at hv ⊢
  obtain⟨v,r,e,h0,h1,h2⟩:=hv
  exact⟨v,r,e,h0,cZ h hn hβ x v (fun b hb=>absurd hb (nz h0)) h1,sC h hn hβ xs r h2⟩
end
theorem ci (h:Le G w G' w')(hn:nl≤nl')(hβ: ∀i,i<nl→G'.β L i=G.β L i∧G'.sz L i=G.sz L i){b sz:Nat}{o:Ob}
  (hb:aK o→w'.heap[b]? =w.heap[b]? ∧G'.O b=G.O b)
  (ho: ∀cs j x cur e fz,o= .cells cs→cs[j]? =some x→w.heap[b]? =some (.cells cur e fz)→ ∀b',aH x (cur.getD j undef) b'→w'.heap[b']? =w.heap[b']? ∧G'.O b'=G.O b')
  (hv:ObR G w L nl b sz o):ObR G' w' L nl' b sz o:=by
 cases o with
 |dead=>simp[ObR]
 |cells cs=>
  simp only[ObR]at hv ⊢
  obtain⟨cur,e,fz,h1,h2,h3,h4,h5⟩:=hv
  obtain⟨k1,k2⟩:=hb trivial
  exact⟨cur,e,fz,k1.trans h1,h2,k2.trans h3,h4,fun j x hx=>cZ h hn hβ x _ (fun b' hb'=>ho cs j x cur e fz rfl hx h1 b' hb') (h5 j x hx)⟩
 |arr k cs=>
  simp only[ObR]at hv ⊢
  obtain⟨hk,cur,e,fz,h1,h2,h3,h4,h5⟩:=hv
  obtain⟨k1,k2⟩:=hb trivial
  exact⟨hk,cur,e,fz,k1.trans h1,h2,k2.trans h3,h4,fun j x hx=>bi h x _ (h5 j x hx)⟩
 |map ks vs=>
  simp only[ObR]at hv ⊢
  obtain⟨es,clk,h1,h2,h3⟩:=hv
  obtain⟨k1,k2⟩:=hb trivial
  exact⟨es,clk,k1.trans h1,k2.trans h2,me h h3⟩
end
theorem Le.below {G G':Gh}{w w':World}(h:Le G w G' w')(lev:Nat):Le (G.below lev) w (G'.below lev) w':=by
 refine⟨h.map,fun l i hi=> ?_,h.imm,h.blk⟩
 simp only[Gh.below]at hi ⊢
 split at hi
 ·rename_i hl
  rw[if_pos hl]
  exact h.ref l i hi
 ·omega
theorem ba {μ:Mu}{l:Lam}{lev i:Nat}(h:lev<μ.length):aU (μ++[l]) lev i=aU μ lev i:=by
 simp[aU,List.getElem?_append_left h]
theorem br {μ:Mu}{l:Lam}{i:Nat}:aU (μ++[l]) μ.length i=aG l i:=by
 simp[aU,aG]
theorem jl {μ:Mu}{l:Lam}{lev i:Nat}(h:μ.length<lev):aU (μ++[l]) lev i= .dead:=by
 simp only[aU]
 rw[List.getElem?_eq_none (by simp;omega)]
theorem Rel.frame {G G':Gh}{w w':World}{L:Nat}{s:S}{μ:Mu}{tm:Array Value}(R:Rel G L s μ tm w)(hle:Le G w G' w')
  (hT: ∀b,fI G w s.fr tm (μ++[s.lam]) b→w'.heap[b]? =w.heap[b]? ∧G'.O b=G.O b)
  (hβ: ∀lev i,lev<L∨(lev=L∧i<s.lam.length)→G'.β lev i=G.β lev i∧G'.sz lev i=G.sz lev i) (hn:G'.n=G.n):
  Rel G' L s μ tm w'∧(∀l b,ay G' w' s.fr tm (μ++[s.lam]) l b→ay G w s.fr tm (μ++[s.lam]) l b):=by
 have hlive: ∀lev i,aK (aE (μ++[s.lam]) lev i)→lev<L∨(lev=L∧i<s.lam.length):=by
  intro lev i h
  rcases Nat.lt_trichotomy lev L with h1|h1|h1
  ·exact .inl h1
  ·subst h1
   refine .inr ⟨rfl,?_⟩
   rw[←R.lev]at h
   simp only[aE,br,aG]at h
   by_cases hi:i<s.lam.length
   ·exact hi
   ·rw[List.getElem?_eq_none (by omega)]at h
    exact h.elim
  ·rw[←R.lev]at h1
   simp only[aE,jl h1]at h
   exact h.elim
 have hown: ∀l b,ay G' w' s.fr tm (μ++[s.lam]) l b→ay G w s.fr tm (μ++[s.lam]) l b:=by
  intro l b h
  cases l with
  |fr t=>exact h
  |ob lev i k=>
   simp only[ay]at h ⊢
   split at h
   ·rename_i cs hcs
    have hl:aK (aE (μ++[s.lam]) lev i):=by rw[hcs];trivial
    split at h
    ·rename_i x hx
     obtain⟨cur,e,fz,hb,ho⟩:=h
     rw[(hβ lev i (hlive lev i hl)).1,(hT _ (.inr ⟨lev,i,hl,rfl⟩)).1]at hb
     exact⟨cur,e,fz,hb,ho⟩
    ·exact h
   ·exact h
 refine⟨⟨R.lev,fun t=> ?_,fun i=> ?_,fun lev i hl=> ?_,fun lev i lev' i' h h' e=> ?_,fun l l' b h h'=>R.own l l' b (hown l b h) (hown l' b h'),fun l b lev i h h' e=> ?_,?_,?_,?_⟩,hown⟩
 ·exact cZ hle (Nat.le_refl _) (fun i hi=>hβ L i (.inr ⟨rfl,hi⟩)) _ _ (fun b hb=>hT b (.inl ⟨.fr t,hb⟩)) (R.fr t)
 ·have hob:=R.lam i
  have e1:aE (μ++[s.lam]) L i=aG s.lam i:=by rw[←R.lev];exact br
  by_cases hi:i<s.lam.length
  ·rw[(hβ L i (.inr ⟨rfl,hi⟩)).1,(hβ L i (.inr ⟨rfl,hi⟩)).2]
   refine ci hle (Nat.le_refl _) (fun i hi=>hβ L i (.inr ⟨rfl,hi⟩)) (fun hl=>hT _ (.inr ⟨L,i,by rw[e1];exact hl,rfl⟩)) (fun cs j x cur e fz ho hx hb b' hb'=>hT b' (.inl ⟨.ob L i j,?_⟩)) hob
   simp only[ay,e1,ho,hx]
   exact⟨cur,e,fz,hb,hb'⟩
  ·have:aG s.lam i= .dead:=by simp only[aG];rw[List.getElem?_eq_none (by omega)]
   rw[this]
   trivial
 ·have e1:aE (μ++[s.lam]) lev i=aU μ lev i:=ba (by rw[R.lev];exact hl)
  have hob:=R.mu lev i hl
  rw[(hβ lev i (.inl hl)).1,(hβ lev i (.inl hl)).2]
  refine ci (hle.below lev) (Nat.le_refl _) (fun i hi=>by omega) (fun h=>hT _ (.inr ⟨lev,i,by rw[e1];exact h,rfl⟩)) (fun cs j x cur e fz ho hx hb b' hb'=>hT b' (.inl ⟨.ob lev i j,?_⟩)) hob
  simp only[ay,e1,ho,hx]
  exact⟨cur,e,fz,hb,hb'⟩
 ·rw[(hβ lev i (hlive lev i h)).1,(hβ lev' i' (hlive lev' i' h')).1]at e
  exact R.inj lev i lev' i' h h' e
 ·rw[(hβ lev i (hlive lev i h')).1]at e
  exact R.apart l b lev i (hown l b h) h' e
 ·rw[hn];exact R.nlt
 ·rw[hn];exact R.nL
 ·rw[hn];exact R.ngt
theorem fH (g:Fr)(t:Nat)(v:LV):upd g t v t=v:=by simp[upd,Nat.beq_refl]
theorem eD (g:Fr){t u:Nat}(v:LV)(h:u≠t):upd g t v u=g u:=by
 have:Nat.beq u t=false:=by cases e:Nat.beq u t with
  |false=>rfl
  |true=>exact absurd (Nat.eq_of_beq_eq_true e) h
 simp[upd,this]
theorem sd (tm:Array Value){d:Nat}(v:Value)(h:d<tm.size):(tm.setIfInBounds d v).getD d undef=v:=by
 simp[Array.getD,h]
theorem p8 (tm:Array Value){d t:Nat}(v:Value)(h:t≠d):(tm.setIfInBounds d v).getD t undef=tm.getD t undef:=by
 simp only[Array.getD_eq_getD_getElem?]
 rw[Array.getElem?_setIfInBounds_ne (by omega)]
theorem BY {G:Gh}{w:World}{b s:Nat}: ∀{off:Nat} {xs:List CV},EL G w b s off xs→ ∀j x,xs[j]? =some x→CL G w b (off+j*s) x.cells
 |off,[],_,j,x,hx=>by simp at hx
 |off,y::r,h,0,x,hx=>by
  simp only[List.getElem?_cons_zero,Option.some.injEq]at hx
  subst hx
  cases y<;>simp only[EL]at h<;>simp only[CV.cells,Nat.zero_mul,Nat.add_zero,CL,and_true]<;>first|exact h.1|exact h.1
 |off,y::r,h,j+1,x,hx=>by
  have h2:EL G w b s (off+s) r:=by cases y<;>simp only[EL]at h<;>exact h.2
  have:=BY h2 j x (by simpa using hx)
  rw[show off+(j+1)*s=off+s+j*s by rw[Nat.add_mul];omega]
  exact this
theorem g9 {G:Gh}{w:World}{xs:List CV}{v:Value}(h:km G w xs v):VR G w (.sl xs) v:=by
 simp only[VR]
 rcases h with⟨rfl,rfl⟩|⟨b,cap,cur,e,s,rfl,hb,h1,h2,h3,h4,h5,h6,h7⟩
 ·exact⟨none,0,0,rfl,rfl,Nat.le_refl _,.inl rfl⟩
 ·exact⟨_,_,_,rfl,rfl,h1,.inr ⟨b,0,s,rfl,h4,h6⟩⟩
theorem vO {G:Gh}{w:World}{xs:List Value}{v:Value}(h:pL G w xs v): ∃A cap,v= .slice A xs.length cap:=by
 rcases h with⟨rfl,rfl⟩|⟨b,cap,cur,e,rfl,_⟩
 ·exact⟨none,0,rfl⟩
 ·exact⟨_,cap,rfl⟩
theorem i7 {G:Gh}{w:World}{L nl:Nat}{x:LV}{v:Value}(h:LVR G w L nl x v):LVR G w L nl (strip1 x) v∧oX (strip1 x)=false:=by
 cases x<;>simp only[strip1,LVR]at h ⊢ <;>first
  |exact⟨h,by simp⟩
  |exact⟨g9 h,by simp⟩
  |exact⟨vO h,by simp⟩
  |exact⟨by simp[VR],by simp⟩
theorem vN {G:Gh}{w:World}{L nl:Nat}: ∀{xs:List LV} {vs:List Value},bT G w L nl xs vs→bT G w L nl (xs.map strip1) vs
 |[],vs,h=>by simpa[bT]using h
 |x::xs,vs,h=>by
  simp only[bT,List.map_cons]at h ⊢
  obtain⟨v,r,e,h0,h1,h2⟩:=h
  exact⟨v,r,e,(i7 h1).2,(i7 h1).1,vN h2⟩
theorem jV {G:Gh}{w:World}{L nl:Nat}{x:LV}{v:Value}(h:LVR G w L nl x v):LVR G w L nl (strip x) v:=by
 cases x<;>simp only[strip,LVR]at h ⊢ <;>first
  |exact h
  |exact g9 h
  |exact vO h
  |(obtain⟨vs,e,hl⟩:=h;exact⟨vs,e,vN hl⟩)
theorem i8 {x:LV}{v:Value}{b:Nat}: ¬aH (strip x) v b:=by
 cases x<;>simp[strip,aH]
theorem Rel.put {G:Gh}{w:World}{L:Nat}{s:S}{μ:Mu}{tm:Array Value}(R:Rel G L s μ tm w){d:Nat}{v:LV}{cv:Value}(hd:d<tm.size)
  (hv:LVR G w L s.lam.length v cv)
  (ho: ∀b,aH v cv b→(∀l,ay G w s.fr tm (μ++[s.lam]) l b→l= .fr d)∧ ∀lev i,aK (aE (μ++[s.lam]) lev i)→G.β lev i≠b):
  Rel G L (s.set d v) μ (tm.setIfInBounds d cv) w∧
  (∀b,fI G w (s.set d v).fr (tm.setIfInBounds d cv) (μ++[(s.set d v).lam]) b→fI G w s.fr tm (μ++[s.lam]) b∨aH v cv b):=by
 have hcase: ∀l b,ay G w (s.set d v).fr (tm.setIfInBounds d cv) (μ++[(s.set d v).lam]) l b→(l= .fr d∧aH v cv b)∨(l≠ .fr d∧ay G w s.fr tm (μ++[s.lam]) l b):=by
  intro l b h
  cases l with
  |fr t=>
   by_cases ht:t=d
   ·subst ht
    simp only[ay,S.set,fH,sd tm cv hd]at h
    exact .inl ⟨rfl,h⟩
   ·simp only[ay,S.set,eD _ _ ht,p8 tm cv ht]at h
    exact .inr ⟨by simpa using ht,h⟩
  |ob lev i k=>exact .inr ⟨by simp,h⟩
 refine⟨⟨R.lev,fun t=> ?_,R.lam,R.mu,R.inj,fun l l' b h h'=> ?_,fun l b lev i h h'=> ?_,R.nlt,R.nL,R.ngt⟩,fun b hb=> ?_⟩
 ·by_cases ht:t=d
  ·subst ht
   simp only[S.set,fH,sd tm cv hd]
   exact hv
  ·simp only[S.set,eD _ _ ht,p8 tm cv ht]
   exact R.fr t
 ·rcases hcase l b h with⟨e,h1⟩|⟨e,h1⟩<;>rcases hcase l' b h' with⟨e',h1'⟩|⟨e',h1'⟩
  ·rw[e,e']
  ·exact absurd ((ho b h1).1 l' h1') e'
  ·exact absurd ((ho b h1').1 l h1) e
  ·exact R.own l l' b h1 h1'
 ·rcases hcase l b h with⟨e,h1⟩|⟨e,h1⟩
  ·exact(ho b h1).2 lev i h'
  ·exact R.apart l b lev i h1 h'
 ·rcases hb with⟨l,hl⟩|h
  ·rcases hcase l b hl with⟨e,h1⟩|⟨e,h1⟩
   ·exact .inr h1
   ·exact .inl (.inl ⟨l,h1⟩)
  ·exact .inl (.inr h)
theorem Rel.strip1 {G:Gh}{w:World}{L:Nat}{s:S}{μ:Mu}{tm:Array Value}(R:Rel G L s μ tm w)(t:Nat):
  Rel G L (s.set t (strip (s.fr t))) μ tm w∧
  (∀l b,ay G w (s.set t (strip (s.fr t))).fr tm (μ++[s.lam]) l b→l≠ .fr t∧ay G w s.fr tm (μ++[s.lam]) l b):=by
 have hcase: ∀l b,ay G w (s.set t (strip (s.fr t))).fr tm (μ++[s.lam]) l b→l≠ .fr t∧ay G w s.fr tm (μ++[s.lam]) l b:=by
  intro l b h
  cases l with
  |fr u=>
   by_cases ht:u=t
   ·subst ht
    simp only[ay,S.set,fH]at h
    exact absurd h i8
   ·simp only[ay,S.set,eD _ _ ht]at h
    exact⟨by simpa using ht,h⟩
  |ob lev i k=>exact⟨by simp,h⟩
 refine⟨⟨R.lev,fun u=> ?_,R.lam,R.mu,R.inj,fun l l' b h h'=>R.own l l' b (hcase l b h).2 (hcase l' b h').2,fun l b lev i h h'=>R.apart l b lev i (hcase l b h).2 h',R.nlt,R.nL,R.ngt⟩,hcase⟩
 by_cases ht:u=t
 ·subst ht
  simp only[S.set,fH]
  exact jV (R.fr u)
 ·simp only[S.set,eD _ _ ht]
  exact R.fr u
theorem aQ: ∀(ts:List Nat) (s:S),(ab ts s).lam=s.lam∧(ab ts s).pushed=s.pushed
 |[],s=>⟨rfl,rfl⟩
 |t::r,s=>by simpa[ab,S.set]using aQ r (s.set t (strip (s.fr t)))
theorem Rel.strips {G:Gh}{w:World}{L:Nat}{μ:Mu}{tm:Array Value}: ∀(ts:List Nat) {s:S},Rel G L s μ tm w→
  Rel G L (ab ts s) μ tm w∧
  (∀l b,ay G w (ab ts s).fr tm (μ++[s.lam]) l b→(∀t,t∈ts→l≠ .fr t)∧ay G w s.fr tm (μ++[s.lam]) l b)
 |[],s,R=>⟨R,fun l b h=>⟨by simp,h⟩⟩
 |t::r,s,R=>by
  obtain⟨R1,h1⟩:=R.strip1 t
  obtain⟨R2,h2⟩:=Rel.strips r R1
  refine⟨R2,fun l b h=> ?_⟩
  obtain⟨a1,a2⟩:=h2 l b h
  obtain⟨b1,b2⟩:=h1 l b a2
  refine⟨fun u hu=> ?_,b2⟩
  rcases List.mem_cons.1 hu with rfl|hu
  ·exact b1
  ·exact a1 u hu
end Go.Abs
set_option linter.unusedVariables false
namespace Go.Abs
open Go
theorem ac {α β:Type}{x:Option α}{k:α→Option β}{r:β}:opt x k=some r↔ ∃a,x=some a∧k a=some r:=by
 cases x<;>simp[opt]
theorem aF {β:Type}{b:Bool}{k:Option β}{r:β}:ax b k=some r↔b=true∧k=some r:=by
 cases b<;>simp[ax]
theorem fB {l:List Nat}{t:Nat}:iA l t=true↔t∈l:=by
 induction l with
 |nil=>simp[iA]
 |cons a r ih=>
  simp only[iA,List.mem_cons]
  cases h:Nat.beq a t with
  |true=>simp[Nat.eq_of_beq_eq_true h]
  |false=>
   have:t≠a:=fun e=>by subst e;simp[Nat.beq_refl]at h
   simp[ih,this]
section
variable {G:Gh}{w:World}{L:Nat}
abbrev aB (G:Gh)(w:World)(s:S)(μ:Mu)(tm:Array Value):Nat→Prop:=fI G w s.fr tm (μ++[s.lam])
theorem SW (vs:List Value):VRL G w (vs.map .v) vs:=by
 induction vs with
 |nil=>simp[VRL]
 |cons v r ih=>simp only[List.map_cons,VRL];exact⟨v,r,rfl,by simp[VR],ih⟩
theorem UX (nl:Nat)(vs:List Value):bT G w L nl (vs.map fun c=> .cv (.v c)) vs:=by
 induction vs with
 |nil=>simp[bT]
 |cons v r ih=>simp only[List.map_cons,bT];exact⟨v,r,rfl,by simp,by simp[LVR,VR],ih⟩
theorem M5 (nl:Nat)(v:Value):LVR G w L nl (ic v) v:=by
 cases v<;>simp only[ic,LVR,VR]
 ·exact⟨_,rfl,SW _⟩
 ·exact⟨_,rfl,UX _ _⟩
theorem ya {v u:Value}{b:Nat}: ¬aH (ic v) u b:=by
 cases v<;>simp[ic,aH]
theorem aX {s:S}{μ:Mu}{a:Act}(R:Rel G L s μ a.tmps w)(h:OpHint)(x:Operand):
  LVR G w L s.lam.length (evA h s.fr x) (a.eval x)∧ ∀b,aH (evA h s.fr x) (a.eval x) b→ ∃t,t∈h.take∧aH (s.fr t) (a.tmps.getD t undef) b:=by
 cases x with
 |tmp t=>
  simp only[evA,Act.eval]
  cases ht:iA h.take t with
  |true=>exact⟨R.fr t,fun b hb=>⟨t,fB.1 ht,hb⟩⟩
  |false=>exact⟨jV (R.fr t),fun b hb=>absurd hb i8⟩
 |const c=>exact⟨M5 _ c,fun b hb=>absurd hb ya⟩
 |global g=>exact⟨by simp[evA,LVR,VR],fun b hb=>by simp[evA,aH]at hb⟩
 |func f=>exact⟨by simp only[evA,LVR,VR,Act.eval];exact⟨#[],rfl,by simp[VRL]⟩,fun b hb=>by simp[evA,aH]at hb⟩
theorem cg {G0:Gh}{w0:World}{T0:Nat→Prop}{s:S}{μ:Mu}{a:Act}{v:LV}{cv:Value}{dst:Option Tmp}(R:Rel G L s μ a.tmps w)
  (E:Ext L T0 G0 w0 G w (aB G w s μ a.tmps)) (hv:LVR G w L s.lam.length v cv)
  (ho: ∀b,aH v cv b→(∀l,¬ay G w s.fr a.tmps (μ++[s.lam]) l b)∧(∀lev i,aK (aE (μ++[s.lam]) lev i)→G.β lev i≠b)∧(T0 b∨w0.heap.size≤b))
  (hd: ∀d,dst=some d→d<a.tmps.size):
  Rel G L (s.put dst v) μ (a.put dst cv).tmps w∧Ext L T0 G0 w0 G w (aB G w (s.put dst v) μ (a.put dst cv).tmps):=by
 cases dst with
 |none=>exact⟨R,E⟩
 |some d=>
  obtain⟨R',h⟩:=R.put (hd d rfl) hv fun b hb=>⟨fun l hl=>absurd hl ((ho b hb).1 l),(ho b hb).2.1⟩
  refine⟨R',⟨E.le,E.os,E.tape,E.output,E.size,E.keep,fun b hb=> ?_,E.lev⟩⟩
  rcases h b hb with h|h
  ·exact E.grow b h
  ·exact(ho b h).2.2
theorem Qk {s:S}{μ:Mu}{a:Act}{v:LV}{cv:Value}{dst:Option Tmp}{ts:List Nat}(R:Rel G L s μ a.tmps w)
  (hv:LVR G w L s.lam.length v cv) (ho: ∀b,aH v cv b→ ∃t,t∈ts∧aH (s.fr t) (a.tmps.getD t undef) b)
  (hd: ∀d,dst=some d→d<a.tmps.size):
  Rel G L ((ab ts s).put dst v) μ (a.put dst cv).tmps w∧
  Ext L (aB G w s μ a.tmps) G w G w (aB G w ((ab ts s).put dst v) μ (a.put dst cv).tmps):=by
 obtain⟨R',h⟩:=Rel.strips ts R
 have hl:=aQ ts s
 refine cg R' (Ext.refl G w fun b hb=> ?_) (by rw[hl.1];exact hv) (fun b hb=> ?_) hd
 ·rcases hb with⟨l,hb⟩|hb
  ·exact .inl ⟨l,(h l b (by rw[←hl.1];exact hb)).2⟩
  ·exact .inr (by rw[←hl.1];exact hb)
 ·obtain⟨t,ht,ho⟩:=ho b hb
  refine⟨fun l hl'=> ?_,fun lev i hlv=> ?_,.inl (.inl ⟨.fr t,ho⟩)⟩
  ·obtain⟨h1,h2⟩:=h l b (by rw[←hl.1];exact hl')
   exact h1 t ht (R.own l (.fr t) b h2 ho)
  ·exact R.apart (.fr t) b lev i ho (by rw[←hl.1];exact hlv)
end
end Go.Abs
set_option linter.unusedVariables false
namespace Go.Abs
open Go
section
variable {G:Gh}{w:World}{L nl:Nat}
theorem iP {k:IntKind}{x:LV}{n:Int}(h:aC k x=some n):x= .cv (.v (.int k n)):=by
 unfold aC at h
 split at h
 ·rename_i k' m
  cases hk:decide (k=k')with
  |true=>simp only[hk,Option.some.injEq]at h;simp only[decide_eq_true_eq]at hk;rw[h,hk]
  |false=>simp[hk]at h
 ·simp at h
theorem fW {x:LV}{b:Bool}(h:aM x=some b):x= .cv (.v (.bool b)):=by
 unfold aM at h;split at h<;>simp_all
theorem fX {x:LV}{l:List UInt8}(h:aN x=some l):x=LV.str l:=by
 unfold aN at h;split at h<;>simp_all
 subst h;rfl
theorem mq {x:LV}{n:Int}(h:kA x=some n): ∃k,x= .cv (.v (.int k n)):=by
 unfold kA at h;split at h<;>simp_all
theorem j7 {x:LV}{cs:List CV}(h:cU x=some cs):x= .cv (.agg cs):=by
 unfold cU at h;split at h<;>simp_all
theorem A6 {x:LV}{xs:List LV}(h:aT x=some xs):x= .ltup xs:=by
 unfold aT at h;split at h<;>simp_all
theorem rr {x:LV}{cs:List CV}(h:dq x=some cs):x= .cv (.view cs):=by
 unfold dq at h;split at h<;>simp_all
theorem oT {x:LV}{q:Nat×Nat×Nat}(h:mw x=some q):x= .cv (.ref q.1 q.2.1 q.2.2):=by
 unfold mw at h;split at h<;>simp_all
 subst h;exact⟨rfl,rfl,rfl⟩
theorem OC {x:LV}{q:Nat×Nat×Nat×Nat}(h:DU x=some q):x= .cv (.msl q.1 q.2.1 q.2.2.1 q.2.2.2):=by
 unfold DU at h;split at h<;>simp_all
 subst h;exact⟨rfl,rfl,rfl,rfl⟩
theorem Na:VR G w (.sl []) (.slice none 0 0):=by
 simp only[VR];exact⟨none,0,0,rfl,rfl,Nat.le_refl _,.inl rfl⟩
theorem fm {x:LV}{xs:List CV}(h:bp x=some xs){v:Value}(hv:LVR G w L nl x v):VR G w (.sl xs) v:=by
 unfold bp at h
 split at h<;>simp only[Option.some.injEq,reduceCtorEq]at h<;>subst h
 ·simpa[LVR]using hv
 ·simp only[LVR,VR]at hv;subst hv;exact Na
 ·exact g9 hv
theorem jh {x:LV}{xs:List CV}(h:gM x=some xs){v:Value}(hv:LVR G w L nl x v):km G w xs v∧ ∀b,aH (.osl xs) v b→aH x v b:=by
 unfold gM at h
 split at h<;>simp only[Option.some.injEq,reduceCtorEq]at h<;>subst h
 ·exact⟨hv,fun b hb=>hb⟩
 ·simp only[LVR,VR]at hv;subst hv;exact⟨.inl ⟨rfl,rfl⟩,fun b hb=>by simp[aH]at hb⟩
theorem yE {x:LV}{xs:List Value}(h:yD x=some xs){v:Value}(hv:LVR G w L nl x v):LVR G w L nl (.ost xs) v∧ ∀b,aH (.ost xs) v b→aH x v b:=by
 unfold yD at h
 split at h<;>simp only[Option.some.injEq,reduceCtorEq]at h<;>subst h
 ·exact⟨hv,fun b hb=>hb⟩
 ·simp only[LVR,VR]at hv;subst hv;exact⟨by simp only[LVR];exact .inl ⟨rfl,rfl⟩,fun b hb=>by simp[aH]at hb⟩
theorem BI: ∀{cs:List CV} {vs:List Value},u4 cs=some vs→cs=vs.map .v∧ ∀v∈vs,v.oneCell'=true
 |[],vs,h=>by simp only[u4,Option.some.injEq]at h;subst h;exact⟨rfl,fun v hv=>by simp at hv⟩
 |c::r,vs,h=>by
  unfold u4 at h
  split at h<;>try(simp at h;done)
  ·rename_i e;cases e
  ·rename_i x r' e
   injection e with e1 e2
   subst e1 e2
   split at h<;>try(simp at h;done)
   rename_i hx
   obtain⟨l,h1,h2⟩:=ac.1 h
   simp only[Option.some.injEq]at h2
   subst h2
   obtain⟨h3,h4⟩:=BI h1
   refine⟨by rw[h3];rfl,fun v hv=> ?_⟩
   rcases List.mem_cons.1 hv with rfl|hv
   ·exact hx
   ·exact h4 v hv
theorem ew {x:LV}{c:CV}(h:bP x=some c){v:Value}(hv:LVR G w L nl x v):VR G w c v:=by
 unfold bP at h
 split at h<;>simp only[Option.some.injEq,reduceCtorEq]at h<;>subst h
 ·simpa[LVR]using hv
 ·exact g9 hv
theorem BM {α:Type}{l:List α}{q:α×List α}(h:aw l=some q):l=q.1::q.2:=by
 cases l<;>simp[aw]at h;subst h;rfl
theorem A9 {α:Type}{l:List α}{u:Unit}(h:aO l=some u):l=[]:=by
 cases l<;>simp[aO]at h ⊢
theorem ph {β:Type}{d:TypeDesc}{x:LV}{k:CV→Option β}{r:β}(h:gz d x k=some r):
  ∃c,k c=some r∧ ∀(G:Gh) (w:World) (L nl:Nat) v,LVR G w L nl x v→VR G w c v:=by
 unfold gz at h
 split at h<;>obtain⟨a,h1,h2⟩:=ac.1 h<;>refine⟨_,h2,fun G w L nl v hv=> ?_⟩
 ·rw[iP h1]at hv;simpa[LVR]using hv
 ·rw[fW h1]at hv;simpa[LVR]using hv
 ·rw[fX h1]at hv;simpa[LVR]using hv
 ·exact fm h1 hv
 ·exact ew h1 hv
def jw (cs cs':List CV):Prop:=cs'.length=cs.length∧ ∀(j:Nat) (c c':CV),cs[j]? =some c→cs'[j]? =some c'→ ∀(G:Gh) (w:World) (v:Value),VR G w c v→VR G w c' v
theorem jw.cons {c c':CV}{r r':List CV}(h:jw r r')(hc: ∀(G:Gh) (w:World) v,VR G w c v→VR G w c' v):jw (c::r) (c'::r'):=by
 refine⟨by simp[h.1],fun j x x' hx hx'=> ?_⟩
 cases j with
 |zero=>simp only[List.getElem?_cons_zero,Option.some.injEq]at hx hx';subst hx;subst hx';exact hc
 |succ j=>exact h.2 j x x' (by simpa using hx) (by simpa using hx')
theorem jw.tail {c c':CV}{r r':List CV}(h:jw (c::r) (c'::r')):jw r r'∧ ∀(G:Gh) (w:World) v,VR G w c v→VR G w c' v:=
 ⟨⟨by simpa using h.1,fun j x x' hx hx'=>h.2 (j+1) x x' (by simpa using hx) (by simpa using hx')⟩,h.2 0 c c' rfl rfl⟩
theorem jw.VRL: ∀{cs cs':List CV},jw cs cs'→ ∀{vs},VRL G w cs vs→VRL G w cs' vs
 |[],[],_,vs,h=>h
 |[],_::_,hf,_,_=>by simp[jw]at hf
 |_::_,[],hf,_,_=>by simp[jw]at hf
 |c::r,c'::r',hf,vs,h=>by
  simp only[Go.Abs.VRL]at h ⊢
  obtain⟨v,s,e,h1,h2⟩:=h
  exact⟨v,s,e,hf.tail.2 G w v h1,hf.tail.1.VRL h2⟩
theorem jw.CL {b:Nat}: ∀{off:Nat} {cs cs':List CV},jw cs cs'→CL G w b off cs→CL G w b off cs'
 |_,[],[],_,h=>h
 |_,[],_::_,hf,_=>by simp[jw]at hf
 |_,_::_,[],hf,_=>by simp[jw]at hf
 |off,c::r,c'::r',hf,h=>by
  simp only[Go.Abs.CL]at h ⊢
  obtain⟨⟨v,h1,h2,h3⟩,h4⟩:=h
  exact⟨⟨v,h1,h2,hf.tail.2 G w v h3⟩,hf.tail.1.CL h4⟩
theorem kG {β:Type}: ∀{ds:List TypeDesc} {cs:List CV} {k:List CV→Option β} {r:β},dt ds cs k=some r→ ∃cs',k cs'=some r∧jw cs cs'
 |[],cs,k,r,h=>by
  simp only[dt]at h
  obtain⟨u,h1,h2⟩:=ac.1 h
  rw[A9 h1]
  exact⟨[],h2,rfl,fun j c c' hc=>by simp at hc⟩
 |d::ds,cs,k,r,h=>by
  simp only[dt]at h
  obtain⟨q,h1,h2⟩:=ac.1 h
  rw[BM h1]
  obtain⟨c,h3,h4⟩:=ph h2
  obtain⟨cs',h5,h6⟩:=kG h3
  exact⟨c::cs',h5,h6.cons fun G w v hv=>h4 G w 0 0 v (by simpa[LVR]using hv)⟩
theorem oq {β:Type}{P:Program}{t:TypeId}{x:LV}{k:CV→Option β}{r:β}(h:fG P t x k=some r):
  ∃c,k c=some r∧ ∀(G:Gh) (w:World) (L nl:Nat) v,LVR G w L nl x v→VR G w c v:=by
 unfold fG at h
 split at h
 ·split at h
  ·obtain⟨cs,h1,h2⟩:=ac.1 h
   refine⟨_,h2,fun G w L nl v hv=> ?_⟩
   rw[j7 h1]at hv
   simpa only[LVR]using hv
  ·obtain⟨cs,h1,h2⟩:=ac.1 h
   obtain⟨cs',h3,h4⟩:=kG h2
   refine⟨_,h3,fun G w L nl v hv=> ?_⟩
   rw[j7 h1]at hv
   simp only[LVR,VR]at hv ⊢
   obtain⟨vs,e,hl⟩:=hv
   exact⟨vs,e,h4.VRL hl⟩
 ·split at h
  ·exact ph h
  ·simp at h
theorem u7 {β:Type}{P:Program}{own:Bool}{t:TypeId}{x:LV}{k:LV→Option β}{r:β}(h:jG P own t x k=some r):
  ∃y,k y=some r∧ ∀(G:Gh) (w:World) (L nl:Nat) v,LVR G w L nl x v→LVR G w L nl y v∧(∀b,aH y v b→aH x v b)∧(own=false→oX y=false):=by
 unfold jG at h
 split at h
 ·obtain⟨xs,h1,h2⟩:=ac.1 h
  exact⟨_,h2,fun G w L nl v hv=>⟨(jh h1 hv).1,(jh h1 hv).2,by simp⟩⟩
 ·obtain⟨c,h1,h2⟩:=oq h
  exact⟨_,h1,fun G w L nl v hv=>⟨by simp only[LVR];exact h2 G w L nl v hv,fun b hb=>by simp[aH]at hb,by simp⟩⟩
theorem qo {β:Type}{P:Program}: ∀{ts:List TypeId} {xs:List LV} {k:List LV→Option β} {r:β},eo P ts xs k=some r→
  ∃ys,k ys=some r∧ ∀(G:Gh) (w:World) (L nl:Nat) vs,bT G w L nl xs vs→bT G w L nl ys vs
 |[],xs,k,r,h=>by
  simp only[eo]at h
  obtain⟨u,h1,h2⟩:=ac.1 h
  rw[A9 h1]
  exact⟨[],h2,fun G w L nl vs hv=>hv⟩
 |t::ts,xs,k,r,h=>by
  simp only[eo]at h
  obtain⟨q,h1,h2⟩:=ac.1 h
  rw[BM h1]
  obtain⟨y,h3,h4⟩:=u7 h2
  obtain⟨ys,h5,h6⟩:=qo h3
  refine⟨y::ys,h5,fun G w L nl vs hv=> ?_⟩
  simp only[bT]at hv ⊢
  obtain⟨v,s,e,h0,h7,h8⟩:=hv
  exact⟨v,s,e,(h4 G w L nl v h7).2.2 rfl,(h4 G w L nl v h7).1,h6 G w L nl s h8⟩
theorem fF {β:Type}{P:Program}{own:Bool}{t:TypeId}{x:LV}{k:LV→Option β}{r:β}(h:cW P own t x k=some r):
  ∃y,k y=some r∧ ∀(G:Gh) (w:World) (L nl:Nat) v,LVR G w L nl x v→LVR G w L nl y v∧(∀b,aH y v b→aH x v b):=by
 unfold cW at h
 split at h
 ·obtain⟨xs,h1,h2⟩:=ac.1 h
  obtain⟨ys,h3,h4⟩:=qo h2
  refine⟨_,h3,fun G w L nl v hv=>⟨?_,fun b hb=>by simp[aH]at hb⟩⟩
  rw[A6 h1]at hv
  simp only[LVR]at hv ⊢
  obtain⟨vs,e,hl⟩:=hv
  exact⟨vs,e,h4 G w L nl _ hl⟩
 ·obtain⟨y,h1,h2⟩:=u7 h
  exact⟨y,h1,fun G w L nl v hv=>⟨(h2 G w L nl v hv).1,(h2 G w L nl v hv).2.1⟩⟩
theorem ss {β:Type}{P:Program}{b:Bool}{t:TypeId}{x:LV}{k:LV→Option β}{r:β}(h:kf P b t x k=some r):
  ∃y,k y=some r∧ ∀(G:Gh) (w:World) (L nl:Nat) v,LVR G w L nl x v→LVR G w L nl y v∧(∀b,aH y v b→aH x v b):=by
 cases b with
 |true=>exact fF h
 |false=>exact⟨x,h,fun G w L nl v hv=>⟨hv,fun _ hb=>hb⟩⟩
theorem tZ {β:Type}{d:TypeDesc}{x:LV}{f:CV→Option β}:gz d x f=opt (gz d x some) f:=by
 unfold gz
 cases d<;>(simp only[];first|(cases aC _ x<;>rfl)|(cases aM x<;>rfl)|(cases aN x<;>rfl)|(cases bp x<;>rfl)|(cases bP x<;>rfl))
theorem m7 {β:Type}: ∀{ds:List TypeDesc} {cs:List CV} {f:List CV→Option β},dt ds cs f=opt (dt ds cs some) f
 |[],cs,f=>by
  unfold dt
  cases aO cs<;>rfl
 |d::ds,cs,f=>by
  unfold dt
  cases aw cs with
  |none=>rfl
  |some q=>
   simp only[opt]
   rw[tZ,tZ (f:=fun c=>dt ds q.2 fun r=>some (c::r))]
   cases gz d (.cv q.1) some with
   |none=>rfl
   |some c=>
    simp only[opt]
    rw[m7,m7 (f:=fun r=>some (c::r))]
    cases dt ds q.2 some<;>rfl
theorem MG {β:Type}{P:Program}{t:TypeId}{x:LV}{f:CV→Option β}:fG P t x f=opt (fG P t x some) f:=by
 unfold fG
 cases bD P t with
 |false=>
  simp only[]
  cases P.underlying t with
  |none=>rfl
  |some d=>exact tZ
 |true=>
  simp only[]
  cases yI P t with
  |true=>cases cU x<;>rfl
  |false=>
   cases cU x with
   |none=>rfl
   |some cs=>
    simp only[opt]
    rw[m7,m7 (f:=fun cs=>some (CV.agg cs))]
    cases dt (yP P 8 t) cs some<;>rfl
theorem Ic {β:Type}{P:Program}{t:TypeId}{x:CV}{f g:CV→Option β}{r:β}(h:eZ P t x f=some r)(hfg: ∀c,f c=some r→g c=some r):eZ P t x g=some r:=by
 unfold eZ at h ⊢
 rw[MG]at h ⊢
 cases hq:fG P t (.cv x) some with
 |none=>rw[hq]at h;cases h
 |some c=>rw[hq]at h;exact hfg c h
theorem yF {α β:Type}{b:Bool}{x:Option α}{k:α→Option β}:opt (ax b x) k=ax b (opt x k):=by cases b<;>rfl
theorem qf {α β γ:Type}{x:Option α}{f:α→Option β}{k:β→Option γ}:opt (opt x f) k=opt x fun a=>opt (f a) k:=by cases x<;>rfl
theorem kH {β:Type}{b:Bool}{x:LV}{k:List LV→Option β}:pV b x k=opt (nM b x) k:=by
 cases b
 ·simp only[pV,nM]
  cases uY x<;>rfl
 ·rfl
theorem nN {c:CV}(h:dc c=true):c.cells=[c]:=by cases c<;>first|rfl|(simp[dc]at h;done)
theorem uZ {c:CV}(h:dc c=true):eJ c=true:=by cases c<;>first|exact h|(simp[dc]at h;done)
theorem Ov {α:Type}{b:Bool}{n:Nat}{c:CV}{k:LV→Option α}{r:α}(h:kK b n c k=some r):ax (Nat.beq c.cells.length n) (k (.cv (.view c.cells)))=some r:=by
 cases b with
 |true=>exact h
 |false=>
  simp only[kK]at h
  obtain⟨h1,h⟩:=aF.1 h
  rw[nN h1]
  exact h
theorem kI {b:Bool}{x:LV}{cs:List LV}(h:nM b x=some cs):x.cells=some cs:=by
 cases b with
 |true=>exact h
 |false=>
  simp only[nM]at h
  split at h<;>simp only[Option.some.injEq,reduceCtorEq]at h
  rename_i hs
  subst h
  cases x with
  |cv c=>
   simp only[uY]at hs
   simp only[LV.cells,uZ hs,nN hs,List.map_cons,List.map_nil]
  |ltup xs=>simp[uY]at hs
  |_=>rfl
theorem rT {b:Bool}{c:CV}(h:ol b c=true):eJ c=true∧kF b c=c.cells:=by
 cases b with
 |true=>exact⟨h,rfl⟩
 |false=>exact⟨uZ h,(nN h).symm⟩
theorem xk {β:Type}{ag:Nat→Bool}{place:Nat→Option (Nat×Nat)}{ev:Operand→LV}: ∀(l:List (Nat×Operand)) (cs:List CV) (k:List CV→Option β),yz ag place ev cs l k=opt (lS ag place ev cs l) k
 |[],cs,k=>rfl
 |q::r,cs,k=>by
  simp only[yz,lS,qf,yF,xk r]
theorem nq {β:Type}{b:Bool}{sz:Nat}{ev:Operand→LV}: ∀(l:List (Nat×Operand)) (n:Nat) (k:List CV→Option β),Lr b sz ev n l k=opt (mR b sz ev n l) k
 |[],n,k=>rfl
 |q::r,n,k=>by
  simp only[Lr,mR,qf,yF,nq r]
  rfl
theorem oP {β:Type}{P:Program}{t:TypeId}{ev:Operand→LV}{l:List (Nat×Operand)}{k:CV→Option β}:ym P t ev l k=opt (kE P t ev l) k:=by
 unfold ym kE
 simp only[qf]
 congr;funext z
 split
 ·simp only[qf,xk];rfl
 ·simp only[qf,xk];rfl
 ·rfl
theorem vV {ag:Nat→Bool}{place:Nat→Option (Nat×Nat)}{ev ev':Operand→LV}: ∀{l:List (Nat×Operand)} {cs:List CV},(∀q∈l,ev' q.2=ev q.2)→lS ag place ev' cs l=lS ag place ev cs l
 |[],cs,_=>rfl
 |q::r,cs,h=>by
  simp only[lS]
  rw[h q (by simp)]
  simp only[vV (l:=r) fun x hx=>h x (List.mem_cons_of_mem _ hx)]
theorem rD {b:Bool}{sz:Nat}{ev ev':Operand→LV}: ∀{l:List (Nat×Operand)} {n:Nat},(∀q∈l,ev' q.2=ev q.2)→mR b sz ev' n l=mR b sz ev n l
 |[],n,_=>rfl
 |q::r,n,h=>by
  simp only[mR]
  rw[h q (by simp)]
  simp only[rD (l:=r) fun x hx=>h x (List.mem_cons_of_mem _ hx)]
theorem C8 {P:Program}{t:TypeId}{ev ev':Operand→LV}{l:List (Nat×Operand)}(h: ∀q∈l,ev' q.2=ev q.2):kE P t ev' l=kE P t ev l:=by
 unfold kE
 simp only[vV h]
theorem ub {ag:Nat→Bool}{place:Nat→Option (Nat×Nat)}{ev:Operand→LV}: ∀{l:List (Nat×Operand)} {cs out:List CV},lS ag place ev cs l=some out→ ∃ps,gS ev l=some ps∧kM place cs ps=some out
 |[],cs,out,h=>⟨[],rfl,h⟩
 |q::r,cs,out,h=>by
  simp only[lS]at h
  obtain⟨p,h1,h⟩:=ac.1 h
  obtain⟨c,h2,h⟩:=ac.1 h
  obtain⟨h3,h⟩:=aF.1 h
  obtain⟨h4,h⟩:=aF.1 h
  obtain⟨e1,e2⟩:=rT h3
  rw[e2]at h4 h
  obtain⟨ps,h5,h6⟩:=ub h
  refine⟨(q.1,c)::ps,?_,?_⟩
  ·simp only[gS]
   exact ac.2 ⟨c,h2,aF.2 ⟨e1,ac.2 ⟨ps,h5,rfl⟩⟩⟩
  ·simp only[kM,h1]
   rw[h4]
   exact h6
theorem D7 {b:Bool}{sz:Nat}{ev:Operand→LV}: ∀{l:List (Nat×Operand)} {n:Nat} {xs:List CV},mR b sz ev n l=some xs→ ∃ps,gS ev l=some ps∧un sz n ps=some xs
 |[],n,xs,h=>⟨[],rfl,h⟩
 |q::r,n,xs,h=>by
  simp only[mR]at h
  obtain⟨c,h2,h⟩:=ac.1 h
  obtain⟨h3,h⟩:=aF.1 h
  obtain⟨h4,h⟩:=aF.1 h
  obtain⟨l,h5,h⟩:=ac.1 h
  obtain⟨e1,e2⟩:=rT h3
  rw[e2]at h4
  obtain⟨ps,h6,h7⟩:=D7 h5
  refine⟨(q.1,c)::ps,?_,?_⟩
  ·simp only[gS]
   exact ac.2 ⟨c,h2,aF.2 ⟨e1,ac.2 ⟨ps,h6,rfl⟩⟩⟩
  ·simp only[un]
   rw[h4]
   exact ac.2 ⟨l,h7,h⟩
theorem KU {P:Program}{t:TypeId}{ev:Operand→LV}{l:List (Nat×Operand)}{c:CV}(h:kE P t ev l=some c): ∃ps,gS ev l=some ps∧yl P t ps=some c:=by
 unfold kE at h
 obtain⟨z,h1,h⟩:=ac.1 h
 split at h
 ·rename_i fs hu
  obtain⟨pl,h2,h⟩:=ac.1 h
  obtain⟨cs,h3,h⟩:=ac.1 h
  obtain⟨ps,h4,h5⟩:=ub h3
  refine⟨ps,h4,?_⟩
  unfold yl
  refine ac.2 ⟨z,h1,?_⟩
  rw[hu]
  exact ac.2 ⟨pl,h2,ac.2 ⟨cs,h5,h⟩⟩
 ·rename_i e n hu
  obtain⟨sz,h2,h⟩:=ac.1 h
  obtain⟨cs,h3,h⟩:=ac.1 h
  obtain⟨ps,h4,h5⟩:=ub h3
  refine⟨ps,h4,?_⟩
  unfold yl
  refine ac.2 ⟨z,h1,?_⟩
  rw[hu]
  exact ac.2 ⟨sz,h2,ac.2 ⟨cs,h5,h⟩⟩
 ·cases h
theorem lY {α:Type}{P:Program}{t:TypeId}{o:Ob}{off:Nat}{v:LV}{k:Ob→Option α}:rJ P t o off v k=opt (dY P t o off v) k:=by
 cases o with
 |arr sz cs=>
  simp only[rJ,dY]
  cases bP v with
  |none=>rfl
  |some c=>
   simp only[opt]
   cases bU P t with
   |none=>rfl
   |some n=>
    simp only[]
    cases (df n c&&Nat.ble (off+n) cs.length)<;>rfl
 |cells cs=>
  simp only[rJ,dY,kH]
  cases nM (bD P t) v with
  |none=>rfl
  |some vs=>
   simp only[opt]
   cases bU P t with
   |none=>rfl
   |some n=>
    simp only[]
    cases (Nat.beq vs.length n&&Nat.ble (off+n) cs.length)<;>rfl
 |dead=>rfl
 |map ks vs=>rfl
end
end Go.Abs
set_option linter.unusedVariables false
set_option linter.unusedSimpArgs false
namespace Go.Abs
open Go
section
variable {G:Gh}{w:World}{L nl:Nat}{P:Program}
theorem Q4 {op:BinOp}{t:TypeId}{k k':IntKind}{a b:Int}{c:CV}(h:nR op k a k' b=some c):
    ∃v,(binOp op t (.int k a) (.int k' b)).run P w= .ok v w∧c= .v v:=by
  by_cases hs:op= .shl∨op= .shr
  · rcases hs with rfl|rfl<;>unfold nR at h<;>simp only[]at h<;>
      (cases hb : decide (b < 0) <;> simp only [hb, Option.some.injEq, reduceCtorEq] at h
       have hb': ¬b<0:=by simpa using hb
       exact⟨_,by simp only[binOp,Op.shift,if_neg hb'];rfl,h.symm⟩)
  · have hk:decide (k=k')=true:=by
      cases hk:decide (k=k')with
      |true=>rfl
      |false=>exfalso;unfold nR at h;cases op<;>simp_all
    simp only[decide_eq_true_eq]at hk
    subst hk
    unfold nR at h
    cases op<;>simp only[eq_self_iff_true,decide_true]at h
    case quo=>
      cases hb:decide (b=0)<;>simp only[hb,Option.some.injEq,reduceCtorEq]at h
      have hb': ¬b=0:=by simpa using hb
      exact⟨_,by simp only[binOp,ne_eq,not_true_eq_false,if_false,Op.intDiv,if_neg hb'];rfl,h.symm⟩
    case rem=>
      cases hb:decide (b=0)<;>simp only[hb,Option.some.injEq,reduceCtorEq]at h
      have hb': ¬b=0:=by simpa using hb
      exact⟨_,by simp only[binOp,ne_eq,not_true_eq_false,if_false,Op.intDiv,if_neg hb'];rfl,h.symm⟩
    case shl=>exact absurd (.inl rfl) hs
    case shr=>exact absurd (.inr rfl) hs
    all_goals
      simp only[Option.some.injEq,reduceCtorEq]at h
      exact⟨_,by simp only[binOp,ne_eq,not_true_eq_false,if_false];rfl,h.symm⟩
theorem so (a b:ByteArray):(a.toList == b.toList)=decide (a.data.toList=b.data.toList):=by
  rw[ByteArray.toList_eq,ByteArray.toList_eq]
  cases h:decide (a.data.toList=b.data.toList)with
  |true=>simp only[decide_eq_true_eq]at h;rw[h];simp
  |false=>simp only[decide_eq_false_iff_not]at h;simpa using h
theorem BB (a:ByteArray):a.size=a.data.toList.length:=rfl
theorem Pn (a b:ByteArray):a++b=⟨⟨a.data.toList++b.data.toList⟩⟩:=by
  apply ByteArray.ext
  simp[ByteArray.data_append]
theorem SA {op:BinOp}{t:TypeId}{a b:ByteArray}{c:CV}(h:FE op a.data.toList b.data.toList=some c):
    ∃v,(binOp op t (.string a) (.string b)).run P w= .ok v w∧c= .v v:=by
  unfold FE at h
  have hb:binOp op t (.string a) (.string b)=Op.stringOp op a b:=by cases op<;>rfl
  rw[hb]
  cases op<;>simp only[Option.some.injEq,reduceCtorEq]at h
  · cases hs:bC (a.data.toList.length+b.data.toList.length)<;>simp only[hs,Option.some.injEq,reduceCtorEq]at h
    simp only[bC,decide_eq_true_eq]at hs
    refine⟨_,?_,h.symm⟩
    have: ¬((a.size+b.size:Nat):Int)>IntKind.i64.max:=by
      rw[BB,BB]
      simp only[IntKind.max,IntKind.bits,IntKind.signed]
      omega
    simp only[Op.stringOp,if_neg this,Sem.run_pure,Pn]
  all_goals
    refine⟨_,rfl,?_⟩
    rw[←h]
    simp only[CV.bool]
    (try rw[so])
    (try simp only[ByteArray.toList_eq])
theorem KY {d:TypeDesc}{c c':CV}{b:Bool}(h:De c c'=some b): ∃v v',c= .v v∧c'= .v v'∧
    ((∃k m n,v= .int k m∧v'= .int k n∧b=decide (m=n))∨(∃m n,v= .bool m∧v'= .bool n∧b=(m == n))∨(∃m n,v= .string m∧v'= .string n∧b=decide (m.data.toList=n.data.toList))):=by
  unfold De at h
  split at h
  · rename_i k m k' n
    cases hk:decide (k=k')<;>simp only[hk,Option.some.injEq,reduceCtorEq]at h
    simp only[decide_eq_true_eq]at hk
    subst hk
    exact⟨_,_,rfl,rfl,.inl ⟨_,_,_,rfl,rfl,h.symm⟩⟩
  · simp only[Option.some.injEq]at h
    exact⟨_,_,rfl,rfl,.inr (.inl ⟨_,_,rfl,rfl,h.symm⟩)⟩
  · simp only[Option.some.injEq]at h
    exact⟨_,_,rfl,rfl,.inr (.inr ⟨_,_,rfl,rfl,h.symm⟩)⟩
  · simp at h
theorem dp: ∀{cs:List CV} {vs:List Value},VRL G w cs vs→cs.length=vs.length∧ ∀(j:Nat) c,cs[j]? =some c→ ∃v,vs[j]? =some v∧VR G w c v
  |[],vs,h=>by simp only[VRL]at h;subst h;exact⟨rfl,fun j c hc=>by simp at hc⟩
  |c::cs,vs,h=>by
    simp only[VRL]at h
    obtain⟨v,r,rfl,h1,h2⟩:=h
    obtain⟨e,hg⟩:=dp h2
    refine⟨by simp[e],fun j x hx=> ?_⟩
    cases j with
    |zero=>simp only[List.getElem?_cons_zero,Option.some.injEq]at hx;subst hx;exact⟨v,rfl,h1⟩
    |succ j=>simpa using hg j x (by simpa using hx)
theorem qt: ∀{cs:List LV} {vs:List Value},bT G w L nl cs vs→cs.length=vs.length∧ ∀(j:Nat) c,cs[j]? =some c→ ∃v,vs[j]? =some v∧LVR G w L nl c v∧oX c=false
  |[],vs,h=>by simp only[bT]at h;subst h;exact⟨rfl,fun j c hc=>by simp at hc⟩
  |c::cs,vs,h=>by
    simp only[bT]at h
    obtain⟨v,r,rfl,h0,h1,h2⟩:=h
    obtain⟨e,hg⟩:=qt h2
    refine⟨by simp[e],fun j x hx=> ?_⟩
    cases j with
    |zero=>simp only[List.getElem?_cons_zero,Option.some.injEq]at hx;subst hx;exact⟨v,rfl,h1,h0⟩
    |succ j=>simpa using hg j x (by simpa using hx)
theorem UQ {op:UnOp}{x:LV}{v:Value}{c:CV}(h:unA op x=some c)(hv:LVR G w L nl x v):
    ∃u,(Op.unary op v).run P w= .ok u w∧c= .v u:=by
  unfold unA at h
  split at h
  · simp only[LVR,VR]at hv
    subst hv
    cases op<;>simp only[Option.some.injEq,reduceCtorEq]at h
    exact⟨_,rfl,h.symm⟩
  · simp only[LVR,VR]at hv
    subst hv
    cases op<;>simp only[Option.some.injEq,reduceCtorEq]at h
    · exact⟨_,by simp[Op.unary,Op.intArith],h.symm⟩
    · exact⟨_,by simp[Op.unary,Op.intBits],h.symm⟩
  · simp at h
theorem P1 {t:Bool}{x y:LV}{u v:Value}(hx:LVR G w L nl x u)(hy:LVR G w L nl y v):
    LVR G w L nl (zn t x y) (if t=true then u else v)∧ ∀b,aH (zn t x y) (if t=true then u else v) b→aH x u b∨aH y v b:=by
  unfold zn
  split
  · simp only[LVR,VR]at hx hy ⊢
    subst hx;subst hy
    exact⟨by cases t<;>rfl,fun b hb=>by simp[aH]at hb⟩
  · cases t
    · exact⟨hy,fun b hb=> .inr hb⟩
    · exact⟨hx,fun b hb=> .inl hb⟩
end
end Go.Abs
set_option linter.unusedVariables false
set_option linter.unusedSimpArgs false
namespace Go.Abs
open Go
section
variable {G:Gh}{w:World}{L nl:Nat}{P:Program}
theorem HU {t:TypeId}{d:TypeDesc}(h:P.underlying t=some d)(hs: ∀fs,d≠ .struct fs)(ha: ∀n e,d≠ .array n e){cs:Array Value}{off:Nat}{v:Value}(hv:cs[off]? =some v):
  (part t cs off).run P w= .ok v w:=by
 simp only[part,isAgg,Sem.run_bind,run_underlying h,Result.andThen_ok]
 cases d<;>first
  |(exact absurd rfl (hs _))
  |(exact absurd rfl (ha _ _))
  |simp[hv]
theorem t8 {xs ys:Array Value}{d:Nat}: ∀(fs:List Field) (k:Nat) (ms ns:List CV) (r:Bool),
  (fs.zipIdx k).all (fun q=>q.1.offset == q.2&&q.1.name != "_" &&(match P.underlying q.1.type with|some (.int _)=>true|some .bool=>true|some .string=>true|_=>false))=true→
  ji (fs.map fun f=>(P.underlying f.type).getD .invalid) ms=true→ji (fs.map fun f=>(P.underlying f.type).getD .invalid) ns=true→
  (∀j u,ms[j]? =some (.v u)→xs[k+j]? =some u)→(∀j u,ns[j]? =some (.v u)→ys[k+j]? =some u)→pU ms ns=some r→
  (Op.eqFields (d+1) xs ys fs).run P w= .ok r w
 |[],k,ms,ns,r,h1,h2,h3,h4,h5,h6=>by
  cases ms<;>cases ns<;>simp[ji,pU]at h2 h3 h6
  subst h6
  simp[Op.eqFields]
 |f::fs,k,ms,ns,r,h1,h2,h3,h4,h5,h6=>by
  cases ms with
  |nil=>simp[ji]at h2
  |cons m ms=>
   cases ns with
   |nil=>simp[ji]at h3
   |cons n ns=>
    simp only[List.map_cons,ji,Bool.and_eq_true]at h2 h3
    simp only[List.zipIdx_cons,List.all_cons,Bool.and_eq_true,beq_iff_eq,bne_iff_ne]at h1
    obtain⟨⟨⟨ho,hn⟩,hk⟩,hr⟩:=h1
    simp only[pU]at h6
    obtain⟨b,hb,h6⟩:=ac.1 h6
    obtain⟨b2,hb2,h6⟩:=ac.1 h6
    simp only[Option.some.injEq]at h6
    have ih:=t8 (d:=d) (xs:=xs) (ys:=ys) fs (k+1) ms ns b2 (by simpa[Bool.and_eq_true]using hr) h2.2 h3.2 (fun j u hu=>by have:=h4 (j+1) u (by simpa using hu);rw[←this];congr 1;omega)
     (fun j u hu=>by have:=h5 (j+1) u (by simpa using hu);rw[←this];congr 1;omega) hb2
    obtain⟨u,v,rfl,rfl,hc⟩:=KY (d:= .bool) hb
    have hx:=h4 0 u rfl
    have hy:=h5 0 v rfl
    simp only[Nat.add_zero]at hx hy
    have hrun:(Op.equalIn (d+1) f.type u v).run P w= .ok b w:=by
     rcases hc with⟨kk,m,n,rfl,rfl,rfl⟩|⟨m,n,rfl,rfl,rfl⟩|⟨m,n,rfl,rfl,rfl⟩
     ·have: ∃k',P.underlying f.type=some (.int k'):=by
       have h2':=h2.1
       split at hk<;>rename_i hu<;>simp only[hu,Option.getD_some,yO]at h2'<;>first|exact⟨_,hu⟩|simp at h2'|simp at hk
      obtain⟨k',hu⟩:=this
      rw[run_equalIn_int w d f.type kk k' m n hu];rfl
     ·have:P.underlying f.type=some .bool:=by
       have h2':=h2.1
       split at hk<;>rename_i hu<;>simp only[hu,Option.getD_some,yO]at h2'<;>first|exact hu|simp at h2'|simp at hk
      rw[run_equalIn_bool' w d f.type m n this]
     ·have:P.underlying f.type=some .string:=by
       have h2':=h2.1
       split at hk<;>rename_i hu<;>simp only[hu,Option.getD_some,yO]at h2'<;>first|exact hu|simp at h2'|simp at hk
      rw[run_equalIn_string w d f.type m n this,so]
    have hp: ∀{cs:Array Value} {v:Value},cs[k]? =some v→(part f.type cs f.offset).run P w= .ok v w:=by
     intro cs v hv
     rw[ho]
     split at hk<;>rename_i hu<;>first|exact HU hu (by simp) (by simp) hv|simp at hk
    simp only[Op.eqFields,hn,ne_eq,not_false_eq_true,if_true,Sem.run_bind,hp hx,hp hy,Result.andThen_ok,hrun]
    cases b
    ·simp at h6;subst h6;simp
    ·simp at h6;subst h6;simpa using ih
theorem rX {x:CV}{xs:List CV}{u:Value}(h:VR G w (.sl (x::xs)) u): ∃A n c,u= .slice (some A) (n+1) c:=by
 simp only[VR]at h
 obtain⟨A,len,cap,rfl,hl,hc,h⟩:=h
 rcases h with h|⟨b,off,s,rfl,_⟩
 ·simp[h]at hl
 ·exact⟨_,xs.length,cap,by rw[hl];rfl⟩
def vm (P:Program)(w:World)(t:TypeId)(u cn:Value)(r:Bool):Prop:=
 (∀op o,(eqGuard op t o (.const cn) u cn).run P w= .ok () w∧(eqGuard op t (.const cn) o cn u).run P w= .ok () w)∧
 (binOp .eql t u cn).run P w= .ok (.bool r) w∧(binOp .neq t u cn).run P w= .ok (.bool (!r)) w∧(binOp .eql t cn u).run P w= .ok (.bool r) w∧(binOp .neq t cn u).run P w= .ok (.bool (!r)) w
theorem DM {t e:TypeId}(hd:P.underlying t=some (.pointer e))(d:Nat)(A:Option Addr):
  (Op.equalIn (d+1) t (.pointer A) (.pointer none)).run P w= .ok A.isNone w∧(Op.equalIn (d+1) t (.pointer none) (.pointer A)).run P w= .ok A.isNone w:=by
 cases A<;>simp[Op.equalIn,run_underlying hd]
theorem JF {t:TypeId}{ms:Array (String×TypeId)}(hd:P.underlying t=some (.interface ms))(d:Nat):(Op.equalIn (d+1) t .nilIface .nilIface).run P w= .ok true w:=by
 simp[Op.equalIn,run_underlying hd]
theorem DL {t k:TypeId}{v:Value}{ms:Array (String×TypeId)}(hd:P.underlying t=some (.interface ms))(d:Nat):
  (Op.equalIn (d+1) t (.iface k v) .nilIface).run P w= .ok false w∧(Op.equalIn (d+1) t .nilIface (.iface k v)).run P w= .ok false w:=by
 simp[Op.equalIn,run_underlying hd]
theorem JG {t e:TypeId}(hd:P.underlying t=some (.slice e))(d:Nat)(A:Option Addr)(n c:Nat)(h:A=none→n=0∧c=0):
  (Op.equalIn (d+1) t (.slice A n c) (.slice none 0 0)).run P w= .ok A.isNone w∧(Op.equalIn (d+1) t (.slice none 0 0) (.slice A n c)).run P w= .ok A.isNone w:=by
 cases A with
 |none=>obtain⟨rfl,rfl⟩:=h rfl;simp[Op.equalIn,run_underlying hd]
 |some a=>simp[Op.equalIn,run_underlying hd]
theorem zh {t:TypeId}{u cn:Value}{r:Bool}(h1: ∀d,(Op.equalIn (d+1) t u cn).run P w= .ok r w)(h2: ∀d,(Op.equalIn (d+1) t cn u).run P w= .ok r w)
  (hg: ∀op o,(eqGuard op t o (.const cn) u cn).run P w= .ok () w∧(eqGuard op t (.const cn) o cn u).run P w= .ok () w)
  (hb:binOp .eql t u cn=(do pure (.bool (←Op.equal t u cn)))∧binOp .neq t u cn=(do pure (.bool (!(←Op.equal t u cn))))∧binOp .eql t cn u=(do pure (.bool (←Op.equal t cn u)))∧binOp .neq t cn u=(do pure (.bool (!(←Op.equal t cn u))))):
  vm P w t u cn r:=by
 have e1:(Op.equal t u cn).run P w= .ok r w:=h1 9999
 have e2:(Op.equal t cn u).run P w= .ok r w:=h2 9999
 refine⟨hg,?_,?_,?_,?_⟩
 ·rw[hb.1,Sem.run_bind,e1];rfl
 ·rw[hb.2.1,Sem.run_bind,e1];rfl
 ·rw[hb.2.2.1,Sem.run_bind,e2];rfl
 ·rw[hb.2.2.2,Sem.run_bind,e2];rfl
theorem vC {t e:TypeId}(hd:P.underlying t=some (.pointer e))(A:Option Addr):vm P w t (.pointer A) (.pointer none) A.isNone:=
 zh (fun d=>(DM hd d A).1) (fun d=>(DM hd d A).2) (fun op o=>by cases op<;>exact⟨rfl,rfl⟩) ⟨rfl,rfl,rfl,rfl⟩
theorem Wf {t:TypeId}{ms:Array (String×TypeId)}(hd:P.underlying t=some (.interface ms)):vm P w t .nilIface .nilIface true:=
 zh (fun d=>JF hd d) (fun d=>JF hd d) (fun op o=>by cases op<;>cases o<;>exact⟨rfl,rfl⟩) ⟨rfl,rfl,rfl,rfl⟩
theorem Ut {t k:TypeId}{v:Value}{ms:Array (String×TypeId)}(hd:P.underlying t=some (.interface ms)):vm P w t (.iface k v) .nilIface false:=
 zh (fun d=>(DL hd d).1) (fun d=>(DL hd d).2) (fun op o=>by cases op<;>exact⟨rfl,rfl⟩) ⟨rfl,rfl,rfl,rfl⟩
theorem E7 {t e:TypeId}(hd:P.underlying t=some (.slice e))(A:Option Addr)(n c:Nat)(h:A=none→n=0∧c=0):vm P w t (.slice A n c) (.slice none 0 0) A.isNone:=
 zh (fun d=>(JG hd d A n c h).1) (fun d=>(JG hd d A n c h).2) (fun op o=>by cases op<;>exact⟨rfl,rfl⟩) ⟨rfl,rfl,rfl,rfl⟩
theorem A0 {t:TypeId}{d:TypeDesc}{u cn:Value}{r:Bool}{x:LV}(hd:P.underlying t=some d)(hx:uI d cn x=some r)(hv:LVR G w L nl x u):vm P w t u cn r:=by
 unfold uI at hx
 split at hx
 ·unfold n0 at hx
  split at hx<;>simp only[Option.some.injEq,reduceCtorEq]at hx<;>subst hx
  ·simp only[LVR,VR]at hv;subst hv;exact vC hd _
  ·simp only[LVR,VR]at hv;obtain⟨b,off,rfl,_⟩:=hv;exact vC hd _
  ·simp only[LVR,VR]at hv;obtain⟨_,rfl⟩:=hv;exact vC hd _
  ·simp only[LVR]at hv;obtain⟨_,rfl⟩:=hv;exact vC hd _
 ·unfold Cg at hx
  split at hx<;>simp only[Option.some.injEq,reduceCtorEq]at hx<;>subst hx
  ·simp only[LVR,VR]at hv;subst hv;exact Wf hd
  ·simp only[LVR,VR]at hv;obtain⟨v,rfl,_⟩:=hv;exact Ut hd
 ·unfold Tc at hx
  split at hx<;>simp only[Option.some.injEq,reduceCtorEq]at hx<;>subst hx
  ·simp only[LVR,VR]at hv;subst hv;exact E7 hd none 0 0 (by simp)
  ·simp only[LVR]at hv;obtain⟨A,n,c,rfl⟩:=rX hv;exact E7 hd (some A) _ _ (by simp)
  ·simp only[LVR]at hv;obtain⟨A,n,c,rfl⟩:=rX (g9 hv);exact E7 hd (some A) _ _ (by simp)
 ·simp at hx
theorem F6 {op:BinOp}{t:TypeId}{x y:Operand}{k k':IntKind}{m n:Int}:(eqGuard op t x y (.int k m) (.int k' n)).run P w= .ok () w:=by cases op<;>rfl
theorem F7 {op:BinOp}{t:TypeId}{x y:Operand}{m n:ByteArray}:(eqGuard op t x y (.string m) (.string n)).run P w= .ok () w:=by cases op<;>rfl
theorem ua {op:BinOp}{t:TypeId}{x y:Operand}{m n:Bool}:(eqGuard op t x y (.bool m) (.bool n)).run P w= .ok () w:=by cases op<;>rfl
theorem Ir {t:TypeId}(hd:P.underlying t=some .bool)(m n:Bool):(Op.equal t (.bool m) (.bool n)).run P w= .ok (m == n) w:=run_equalIn_bool' w 9999 t m n hd
theorem yr {x:Operand}{c:Value}(h:j4 x=some c):x= .const c:=by
 cases x<;>simp[j4]at h ⊢; exact h
theorem QK {op:BinOp}{t:TypeId}{x y:Operand}{a b:LV}{c:CV}{u v:Value}(h:rh P op t x y a b=some c)(ha:LVR G w L nl a u)(hb:LVR G w L nl b v)
  (hx: ∀cc,x= .const cc→u=cc) (hy: ∀cc,y= .const cc→v=cc):
  ∃cv,(do eqGuard op t x y u v;binOp op t u v:Sem Value).run P w= .ok cv w∧c= .v cv:=by
 unfold rh at h
 split at h
 ·simp only[LVR,VR]at ha hb;subst ha;subst hb
  obtain⟨cv,h1,h2⟩:=Q4 (P:=P) (w:=w) (t:=t) h
  exact⟨cv,by simp only[Sem.run_bind,F6,Result.andThen_ok];exact h1,h2⟩
 ·simp only[LVR,VR]at ha hb;subst ha;subst hb
  obtain⟨cv,h1,h2⟩:=SA (P:=P) (w:=w) (t:=t) h
  exact⟨cv,by simp only[Sem.run_bind,F7,Result.andThen_ok];exact h1,h2⟩
 ·simp only[LVR,VR]at ha hb;subst ha;subst hb
  rename_i m n
  split at h<;>simp only[Option.some.injEq,reduceCtorEq]at h
  ·rename_i ht
   refine⟨.bool (m == n),?_,h.symm⟩
   simp only[Sem.run_bind,ua,Result.andThen_ok]
   show ((do pure (Value.bool (←Op.equal t (.bool m) (.bool n))):Sem Value).run P w)=_
   rw[Sem.run_bind,Ir ht];rfl
  ·rename_i ht
   refine⟨.bool (!(m == n)),?_,h.symm⟩
   simp only[Sem.run_bind,ua,Result.andThen_ok]
   show ((do pure (Value.bool (!(←Op.equal t (.bool m) (.bool n)))):Sem Value).run P w)=_
   rw[Sem.run_bind,Ir ht];rfl
 ·rename_i m n
  obtain⟨ds,h1,ha1⟩:=ac.1 h
  obtain⟨h2,ha2⟩:=aF.1 ha1
  obtain⟨h3,ha3⟩:=aF.1 ha2
  obtain⟨r,h4,hfin⟩:=ac.1 ha3
  clear h ha1 ha2 ha3
  unfold wu at h1
  split at h1<;>try(simp at h1;done)
  rename_i fs ht
  split at h1<;>simp only[Option.some.injEq,reduceCtorEq]at h1
  rename_i hc
  simp only[Bool.and_eq_true,Bool.not_eq_true']at hc
  subst h1
  have hf:P.fieldsOf t=fs:=by simp[Program.fieldsOf,ht]
  simp only[LVR,VR]at ha hb
  obtain⟨xs,rfl,hxs⟩:=ha
  obtain⟨ys,rfl,hys⟩:=hb
  have hg:(Op.equalIn 10000 t (.agg xs) (.agg ys)).run P w= .ok r w:=by
   rw[run_equalIn_struct w 9999 t xs ys (by rw[hf];exact ht) hc.1.2,hf]
   refine t8 fs.toList 0 m n r hc.1.1 h2 h3 (fun j u hu=> ?_) (fun j u hu=> ?_) h4
   ·obtain⟨v,hv,hr⟩:=(dp hxs).2 j _ hu
    simp only[VR]at hr
    subst hr
    simpa using hv
   ·obtain⟨v,hv,hr⟩:=(dp hys).2 j _ hu
    simp only[VR]at hr
    subst hr
    simpa using hv
  cases op<;>simp only[Option.some.injEq,reduceCtorEq]at hfin
  ·exact⟨_,by simp only[Sem.run_bind,run_eqGuard_agg w _ t x y xs ys hc.2,Result.andThen_ok,run_eql_struct,hg],hfin.symm⟩
  ·exact⟨_,by simp only[Sem.run_bind,run_eqGuard_agg w _ t x y xs ys hc.2,Result.andThen_ok,run_neq_struct,hg],hfin.symm⟩
 ·obtain⟨d,hd,hb1⟩:=ac.1 h
  clear h
  simp only[]at hb1
  split at hb1
  ·rename_i cc hcc
   have hyc:=yr hcc
   obtain⟨r,hr,hfin⟩:=ac.1 hb1
   clear hb1
   have hv:=hy cc hyc
   subst hv
   obtain⟨hG,e1,e2,_,_⟩:=A0 (P:=P) hd hr ha
   subst hyc
   cases op<;>simp only[Option.some.injEq,reduceCtorEq]at hfin
   ·exact⟨_,by simp only[Sem.run_bind,(hG .eql x).1,Result.andThen_ok,e1],hfin.symm⟩
   ·exact⟨_,by simp only[Sem.run_bind,(hG .neq x).1,Result.andThen_ok,e2],hfin.symm⟩
  ·obtain⟨cc,hcc,hb2⟩:=ac.1 hb1
   have hxc:=yr hcc
   obtain⟨r,hr,hfin⟩:=ac.1 hb2
   clear hb1 hb2
   have hu:=hx cc hxc
   subst hu
   obtain⟨hG,_,_,e1,e2⟩:=A0 (P:=P) hd hr hb
   subst hxc
   cases op<;>simp only[Option.some.injEq,reduceCtorEq]at hfin
   ·exact⟨_,by simp only[Sem.run_bind,(hG .eql y).2,Result.andThen_ok,e1],hfin.symm⟩
   ·exact⟨_,by simp only[Sem.run_bind,(hG .neq y).2,Result.andThen_ok,e2],hfin.symm⟩
end
end Go.Abs
set_option linter.unusedVariables false
set_option linter.unusedSimpArgs false
namespace Go.Abs
open Go
theorem dP (b off j:Nat):(⟨b,off,none⟩:Addr).add j=⟨b,off+j,none⟩:=by
 unfold Addr.add;split<;>simp_all
section
variable {G:Gh}{w:World}{L nl:Nat}{P:Program}
theorem Co {b:Nat}: ∀{off:Nat} {cs:List CV},CL G w b off cs→ ∀(j:Nat) c,cs[j]? =some c→ ∃v,w.cell? ⟨b,off+j,none⟩=some v∧off+j<G.O b∧VR G w c v
 |off,[],h,j,c,hc=>by simp at hc
 |off,x::r,h,j,c,hc=>by
  simp only[CL]at h
  cases j with
  |zero=>
   simp only[List.getElem?_cons_zero,Option.some.injEq]at hc
   subst hc
   exact h.1
  |succ j=>
   have:=Co h.2 j c (by simpa using hc)
   rwa [show off+1+j=off+(j+1)by omega]at this
theorem pz {b:Nat}: ∀{off:Nat} {cs:List CV} (n:Nat),CL G w b off cs→CL G w b (off+n) (cs.drop n)
 |off,cs,0,h=>by simpa using h
 |off,[],n+1,h=>by simp[CL]
 |off,x::r,n+1,h=>by
  simp only[CL]at h
  rw[show off+(n+1)=off+1+n by omega]
  exact pz n h.2
theorem zQ {b:Nat}: ∀{off:Nat} {cs:List CV} (n:Nat),CL G w b off cs→CL G w b off (cs.take n)
 |off,cs,0,h=>by simp[CL]
 |off,[],n+1,h=>by simp[CL]
 |off,x::r,n+1,h=>by
  simp only[CL,List.take_succ_cons]at h ⊢
  exact⟨h.1,zQ n h.2⟩
theorem zR {b:Nat}: ∀{off:Nat} {cs:List CV},CL G w b off cs→ ∃vs,VRL G w cs vs∧ ∀(j:Nat) v,vs[j]? =some v→w.cell? ⟨b,off+j,none⟩=some v
 |off,[],h=>⟨[],by simp[VRL],fun j v hv=>by simp at hv⟩
 |off,x::r,h=>by
  simp only[CL]at h
  obtain⟨⟨v,h1,h2,h3⟩,h4⟩:=h
  obtain⟨vs,h5,h6⟩:=zR h4
  refine⟨v::vs,by simp only[VRL];exact⟨v,vs,rfl,h3,h5⟩,fun j u hu=> ?_⟩
  cases j with
  |zero=>simp only[List.getElem?_cons_zero,Option.some.injEq]at hu;subst hu;exact h1
  |succ j=>rw[show off+(j+1)=off+1+j by omega];exact h6 j u (by simpa using hu)
theorem vW {t:TypeId}(h:bD P t=true):(isAgg t).run P w= .ok true w:=by
 unfold bD at h
 split at h<;>first|(rename_i hu;simp[isAgg,run_underlying hu];done)|simp at h
theorem ug {t:TypeId}{d:TypeDesc}(hd:P.underlying t=some d)(h:bD P t=false):(isAgg t).run P w= .ok false w:=by
 unfold bD at h
 simp only[isAgg,Sem.run_bind,run_underlying hd,Result.andThen_ok]
 rw[hd]at h
 cases d<;>simp at h ⊢
theorem db {t:TypeId}{n:Nat}(h:bU P t=some n):(sizeOf t).run P w= .ok n w:=by
 unfold bU at h
 split at h<;>simp only[Option.some.injEq,reduceCtorEq]at h
 rename_i i hi
 simp[sizeOf,typeInfo,hi,h]
theorem zA {t:TypeId}{n:Nat}(h:bU P t=some n): ∃i,P.info? t=some i∧i.size=n:=by
 unfold bU at h
 split at h<;>simp only[Option.some.injEq,reduceCtorEq]at h
 exact⟨_,by assumption,h⟩
theorem iV {t:TypeId}{b off:Nat}{vs:List Value}(hv: ∀(j:Nat) v,vs[j]? =some v→w.cell? ⟨b,off+j,none⟩=some v)
  (hd: ∃d,P.underlying t=some d):
  (bD P t=true→ ∀n,bU P t=some n→vs.length=n→(Instr.loadAt t (.pointer (some ⟨b,off,none⟩))).run P w= .ok (.agg vs.toArray) w)∧
  (bD P t=false→ ∀v,vs[0]? =some v→(Instr.loadAt t (.pointer (some ⟨b,off,none⟩))).run P w= .ok v w):=by
 refine⟨fun h n hn hl=> ?_,fun h v h0=> ?_⟩
 ·simp only[Instr.loadAt,Instr.sureAddr,loadVar,Sem.run_bind,Sem.run_pure,Result.andThen_ok,vW h,if_true,db hn]
  rw[←hl,run_loadCells_list (P:=P) w ⟨b,off,none⟩ vs (fun j v hjv=>by rw[dP];exact hv j v hjv)]
  simp
 ·obtain⟨d,hd⟩:=hd
  have hc:=hv 0 v h0
  simp only[Nat.add_zero]at hc
  simp[Instr.loadAt,Instr.sureAddr,loadVar,ug hd h,hc]
theorem FG {t:TypeId}{b off k:Nat}{cs:List CV}{c:CV}(h:fE P t cs k=some c)(hd: ∃d,P.underlying t=some d)(hc:CL G w b off cs):
  ∃v,(Instr.loadAt t (.pointer (some ⟨b,off+k,none⟩))).run P w= .ok v w∧VR G w c v:=by
 unfold fE at h
 split at h
 ·rename_i ha
  obtain⟨n,hn,h⟩:=ac.1 h
  split at h<;>simp only[Option.some.injEq,reduceCtorEq]at h
  rename_i hle
  have hle:=Nat.le_of_ble_eq_true hle
  subst h
  obtain⟨vs,h1,h2⟩:=zR (zQ n (pz k hc))
  refine⟨_,(iV h2 hd).1 ha n hn ?_,?_⟩
  ·rw[←(dp h1).1]
   simp only[List.length_take,List.length_drop]
   omega
  ·simp only[VR]
   exact⟨_,rfl,h1⟩
 ·rename_i ha
  obtain⟨v,h1,h2,h3⟩:=Co hc k c h
  refine⟨v,(iV (vs:=[v]) (fun j u hu=> ?_) hd).2 (by simpa using ha) v rfl,h3⟩
  cases j with
  |zero=>simp only[List.getElem?_cons_zero,Option.some.injEq]at hu;subst hu;exact h1
  |succ j=>simp at hu
theorem wK: ∀(n:Nat) {cs:List CV} {vs:List Value},VRL G w cs vs→VRL G w (cs.take n) (vs.take n)
 |0,cs,vs,h=>by simp[VRL]
 |n+1,[],vs,h=>by simp only[VRL]at h;subst h;simp[VRL]
 |n+1,c::cs,vs,h=>by
  simp only[VRL]at h
  obtain⟨v,r,rfl,h1,h2⟩:=h
  simp only[List.take_succ_cons,VRL]
  exact⟨v,_,rfl,h1,wK n h2⟩
theorem wJ: ∀(n:Nat) {cs:List CV} {vs:List Value},VRL G w cs vs→VRL G w (cs.drop n) (vs.drop n)
 |0,cs,vs,h=>by simpa using h
 |n+1,[],vs,h=>by simp only[VRL]at h;subst h;simp[VRL]
 |n+1,c::cs,vs,h=>by
  simp only[VRL]at h
  obtain⟨v,r,rfl,h1,h2⟩:=h
  simpa using wJ n h2
theorem u2 {t:TypeId}{k:Nat}{cs:List CV}{c:CV}{vs:Array Value}(h:fE P t cs k=some c)(hd: ∃d,P.underlying t=some d)(hc:VRL G w cs vs.toList):
  ∃v,(part t vs k).run P w= .ok v w∧VR G w c v:=by
 unfold fE at h
 obtain⟨hl,hg⟩:=dp hc
 split at h
 ·rename_i ha
  obtain⟨n,hn,h⟩:=ac.1 h
  split at h<;>simp only[Option.some.injEq,reduceCtorEq]at h
  subst h
  refine⟨_,by simp only[part,Sem.run_bind,vW ha,Result.andThen_ok,if_true,db hn];rfl,?_⟩
  simp only[VR]
  refine⟨_,rfl,?_⟩
  have:(vs.extract k (k+n)).toList=(vs.toList.drop k).take n:=by simp[List.take_drop,Nat.add_comm]
  rw[this]
  exact wK n (wJ k hc)
 ·rename_i ha
  obtain⟨d,hd⟩:=hd
  obtain⟨v,h1,h2⟩:=hg k c h
  have h1':vs[k]? =some v:=by simpa using h1
  exact⟨v,by simp[part,ug hd (by simpa using ha),h1'],h2⟩
theorem sb {s:TypeId}{f:Nat}{q:Nat×TypeId}(h:lx P s f=some q):
  ∃fs fd n,P.underlying s=some (.struct fs)∧fs[f]? =some fd∧bU P fd.type=some (n+1)∧q=(fd.offset,fd.type):=by
 unfold lx at h
 split at h<;>try(simp at h;done)
 rename_i fs hu
 split at h<;>try(simp at h;done)
 rename_i fd hf
 split at h<;>simp only[Option.some.injEq,reduceCtorEq]at h
 exact⟨fs,fd,_,hu,hf,by assumption,h.symm⟩
theorem F8 {s:TypeId}{f:Nat}{q:Nat×TypeId}(h:lx P s f=some q)(b off:Nat):
  (Instr.fieldAt s (.pointer (some ⟨b,off,none⟩)) f).run P w= .ok (.pointer (some ⟨b,off+q.1,none⟩)) w:=by
 obtain⟨fs,fd,n,hu,hf,hs,rfl⟩:=sb h
 simp[Instr.fieldAt,run_underlying hu,hf,Instr.sureAddr,fieldPlace,db hs,dP]
theorem Oy {s:TypeId}{f:Nat}{q:Nat×TypeId}{cs:List CV}{c:CV}{vs:Array Value}(h:lx P s f=some q)(ht:fE P q.2 cs q.1=some c)(hd: ∃d,P.underlying q.2=some d)(hc:VRL G w cs vs.toList):
  ∃v,(Instr.field s (.agg vs) f).run P w= .ok v w∧VR G w c v:=by
 obtain⟨fs,fd,n,hu,hf,hs,rfl⟩:=sb h
 obtain⟨v,h1,h2⟩:=u2 ht hd hc
 exact⟨v,by simp[Instr.field,run_underlying hu,hf,asAgg,h1],h2⟩
theorem Qm {t:TypeId}{s:ByteArray}{k:IntKind}{i:Int}{b:UInt8}(ht:P.underlying t=some .string)(h:bu s.data.toList i=some b):
  (Instr.index t (.string s) (.int k i)).run P w= .ok (.int .u8 (b.toNat:Int)) w:=by
 unfold bu at h
 split at h<;>try(simp at h;done)
 rename_i h0
 simp only[decide_eq_true_eq]at h0
 obtain⟨hl,hg⟩:=List.getElem?_eq_some_iff.1 h
 have hs:i.toNat<s.size:=hl
 have:s[i.toNat]? =some b:=by rw[ByteArray.getElem?_lt' s _ hs];exact congrArg some hg
 simp[Instr.index,asIntOf,run_underlying ht,h0,this]
theorem AZ {α:Type}{xs r:List α}{lo hi:Int}(h:dB xs lo hi=some r):0≤lo∧lo≤hi∧hi≤(xs.length:Int)∧r=(xs.drop lo.toNat).take (hi-lo).toNat:=by
 unfold dB at h
 split at h<;>simp only[Option.some.injEq,reduceCtorEq]at h
 rename_i hc
 simp only[Bool.and_eq_true,decide_eq_true_eq]at hc
 exact⟨hc.1.1,hc.1.2,hc.2,h.symm⟩
theorem FV {α:Type}{ev:Operand→LV}{x:Option Operand}{d:Int}{k:Int→Option α}{r:α}(h:cT ev x d k=some r):
  (x=none∧k d=some r)∨ ∃o kd n,x=some o∧ev o= .cv (.v (.int kd n))∧k n=some r:=by
 unfold cT at h
 cases x with
 |none=>exact .inl ⟨rfl,h⟩
 |some o=>
  obtain⟨n,h1,h2⟩:=ac.1 h
  obtain⟨kd,e⟩:=mq h1
  exact .inr ⟨o,kd,n,rfl,e,h2⟩
def lk (x:Option Value)(d n:Int):Prop:=(x=none∧n=d)∨ ∃k,x=some (.int k n)
theorem iF {isS:Bool}{len cap:Nat}{lo hi:Option Value}{a b:Int}(hlc:len≤cap)(h0:0≤a)(h1:a≤b)(h2:b≤(len:Int))(hlo:lk lo 0 a)(hhi:lk hi (len:Int) b):
  (Instr.sliceBounds isS len cap lo hi none).run P w= .ok (a.toNat,b.toNat,cap) w:=by
 have hb:b≤(cap:Int):=by omega
 have hb0:0≤b:=by omega
 have hab:a≤(b.toNat:Int):=by omega
 rcases hhi with⟨rfl,rfl⟩|⟨k,rfl⟩<;>rcases hlo with⟨rfl,rfl⟩|⟨k',rfl⟩<;>
  simp[Instr.sliceBounds,Instr.sliceBound,asIntOf,h0,hb0,hb,hab]<;>omega
theorem FD {t:TypeId}{s:ByteArray}{lo hi:Option Value}{a b:Int}{r:List UInt8}(ht:P.underlying t=some .string)(h:dB s.data.toList a b=some r)
  (hlo:lk lo 0 a) (hhi:lk hi (s.data.toList.length:Int) b):(Instr.sliceAt t (.string s) lo hi none).run P w= .ok (.string ⟨⟨r⟩⟩) w:=by
 obtain⟨h0,h1,h2,rfl⟩:=AZ h
 have hb:=iF (P:=P) (w:=w) (isS:=false) (len:=s.size) (cap:=s.size) (Nat.le_refl _) h0 h1 h2 hlo hhi
 have he:s.extract a.toNat b.toNat=⟨⟨(s.data.toList.drop a.toNat).take (b-a).toNat⟩⟩:=by
  apply ByteArray.ext
  apply Array.ext'
  simp only[ByteArray.data_extract,Array.toList_extract,List.extract_eq_take_drop]
  congr 1
  omega
 simp[Instr.sliceAt,run_underlying ht,Instr.slice,hb,he]
theorem zS {b s:Nat}: ∀{off:Nat} {xs:List CV} (n:Nat),EL G w b s off xs→EL G w b s (off+n*s) (xs.drop n)
 |off,xs,0,h=>by simpa using h
 |off,[],n+1,h=>by simp[EL]
 |off,x::r,n+1,h=>by
  have h2:EL G w b s (off+s) r:=by cases x<;>simp only[EL]at h<;>exact h.2
  rw[show off+(n+1)*s=off+s+n*s by rw[Nat.add_mul];omega]
  exact zS n h2
theorem Ih {b s:Nat}: ∀{off:Nat} {xs:List CV} (n:Nat),EL G w b s off xs→EL G w b s off (xs.take n)
 |off,xs,0,h=>by simp[EL]
 |off,[],n+1,h=>by simp[EL]
 |off,x::r,n+1,h=>by
  cases x<;>simp only[EL,List.take_succ_cons]at h ⊢ <;>exact⟨h.1,Ih n h.2⟩
theorem H0 {t e:TypeId}{xs r:List CV}{v:Value}{lo hi:Option Value}{a b:Int}{n:Nat}(ht:P.underlying t=some (.slice e))(hsz:bU P e=some n)(hv:VR G w (.sl xs) v)
  (h:dB xs a b=some r) (hu:qh n a xs=true) (hlo:lk lo 0 a) (hhi:lk hi (xs.length:Int) b):
  ∃u,(Instr.sliceAt t v lo hi none).run P w= .ok u w∧VR G w (.sl r) u:=by
 obtain⟨h0,h1,h2,rfl⟩:=AZ h
 simp only[VR]at hv
 obtain⟨A,len,cap,rfl,rfl,hc,hx⟩:=hv
 have hb:=iF (P:=P) (w:=w) (isS:=true) hc h0 h1 h2 hlo hhi
 refine⟨.slice (if cap=a.toNat then A else A.map (·.add (a.toNat*n))) (b.toNat-a.toNat) (cap-a.toNat),?_,?_⟩
 ·simp[Instr.sliceAt,run_underlying ht,Instr.slice,hb,db hsz]
 ·simp only[VR]
  refine⟨_,_,_,rfl,?_,by omega,?_⟩
  ·simp only[List.length_take,List.length_drop];omega
  ·rcases hx with hx|⟨bl,off,s,rfl,hs,hl⟩
   ·left;omega
   ·by_cases hab:b.toNat-a.toNat=0
    ·left;exact hab
    ·right
     have hne:cap≠a.toNat:=by omega
     have hsn:a.toNat*n=a.toNat*s:=by
      unfold qh at hu
      split at hu
      ·rename_i h0'
       simp only[decide_eq_true_eq]at h0'
       subst h0';simp
      ·cases xs with
       |nil=>simp at h2;omega
       |cons x r=>
        simp only[cS]at hu
        split at hu<;>try(simp at hu;done)
        rename_i he
        simp only[df,Bool.and_eq_true]at he
        rw[←hs x (by simp),Nat.eq_of_beq_eq_true he.1]
     refine⟨bl,off+a.toNat*s,s,by simp[hne,dP,hsn],fun x hx=>hs x (List.mem_of_mem_drop (List.mem_of_mem_take hx)),Ih _ (zS _ hl)⟩
end
end Go.Abs
set_option linter.unusedVariables false
set_option linter.unusedSimpArgs false
namespace Go.Abs
open Go
section
variable {G:Gh}{w:World}{L nl:Nat}{P:Program}
theorem zC {c:CV}{v:Value}(h:dc c=true)(hv:VR G w c v):v.oneCell'=true:=by
 cases c<;>simp only[dc,Bool.false_eq_true,VR]at h hv
 ·subst hv;exact h
 ·obtain⟨_,_,_,rfl,_⟩:=hv;rfl
 ·obtain⟨_,_,rfl,_⟩:=hv;rfl
 ·obtain⟨_,rfl⟩:=hv;rfl
 ·obtain⟨_,_,_,_,_,rfl,_⟩:=hv;rfl
 ·obtain⟨_,rfl,_⟩:=hv;rfl
 ·obtain⟨_,rfl,_⟩:=hv;rfl
 ·obtain⟨_,_,_,rfl,_⟩:=hv;rfl
 ·obtain⟨_,rfl⟩:=hv;rfl
 ·obtain⟨_,rfl,_⟩:=hv;rfl
theorem Bp {v:Value}(h:v.oneCell'=true):v.cells= #[v]:=by
 cases v<;>simp[Value.oneCell',Value.cells]at h ⊢
theorem ng: ∀{cs:List CV} {vs:List Value},de cs=true→VRL G w cs vs→ ∀v∈vs,v.oneCell'=true
 |[],vs,_,h=>by simp only[VRL]at h;subst h;simp
 |c::cs,vs,hs,h=>by
  simp only[VRL]at h
  obtain⟨v,r,rfl,h1,h2⟩:=h
  simp only[de]at hs
  split at hs<;>try(simp at hs;done)
  rename_i h1s
  intro u hu
  rcases List.mem_cons.1 hu with rfl|hu
  ·exact zC h1s h1
  ·exact ng hs h2 u hu
theorem iz {c:CV}{v:Value}(h:eJ c=true)(hv:VR G w c v):VRL G w c.cells v.cells.toList∧ ∀u∈v.cells.toList,u.oneCell'=true:=by
 unfold eJ at h
 split at h
 ·rename_i cs
  simp only[VR]at hv
  obtain⟨vs,rfl,hl⟩:=hv
  exact⟨hl,ng h hl⟩
 ·rename_i hne
  have h1:=zC h hv
  rw[Bp h1]
  have:c.cells=[c]:=by cases c<;>simp[CV.cells,dc]at hne h ⊢
  rw[this]
  exact⟨by simp only[VRL];exact⟨v,[],rfl,hv,rfl⟩,by simpa using h1⟩
theorem VRL_len {cs:List CV}{vs:List Value}(h:VRL G w cs vs):cs.length=vs.length:=(dp h).1
theorem iv {t:TypeId}{cs:List CV}(h:zeroCells P t=some cs): ∃z i,P.info? t=some i∧i.zero=some z∧(zeroValue t).run P w= .ok z w∧VRL G w cs z.cells.toList:=by
 unfold zeroCells at h
 split at h<;>try(simp at h;done)
 rename_i i hi
 split at h<;>try(simp at h;done)
 rename_i z hz
 refine⟨z,i,hi,hz,by simp[zeroValue,typeInfo,hi,hz],?_⟩
 split at h<;>simp only[Option.some.injEq]at h<;>subst h
 ·exact SW _
 ·rename_i hne
  have:z.cells= #[z]:=by cases z<;>simp[Value.cells]at hne ⊢
  rw[this]
  simp only[VRL]
  exact⟨z,[],rfl,by simp[VR],rfl⟩
def bL:Array Value→Nat→List Value→Array Value
 |a,_,[]=>a
 |a,off,v::r=>bL (a.setIfInBounds off v) (off+1) r
theorem ue (off:Nat): ∀(l:List Value) (k:Nat) (a:Array Value),(l.zipIdx k).foldl (fun cs q=>cs.setIfInBounds (off+q.2) q.1) a=bL a (off+k) l
 |[],k,a=>rfl
 |v::r,k,a=>by
  simp only[List.zipIdx_cons,List.foldl_cons,bL]
  rw[ue off r (k+1)]
  rfl
theorem cM: ∀(l:List Value) (off:Nat) (a:Array Value),(bL a off l).size=a.size
 |[],off,a=>rfl
 |v::r,off,a=>by simp[bL,cM r]
theorem la: ∀(l:List Value) (off:Nat) (a:Array Value) (j:Nat),j<off→(bL a off l)[j]? =a[j]?
 |[],off,a,j,h=>rfl
 |v::r,off,a,j,h=>by
  simp only[bL]
  rw[la r (off+1) _ j (by omega),Array.getElem?_setIfInBounds_ne (by omega)]
theorem od: ∀(l:List Value) (off:Nat) (a:Array Value) (j:Nat),off+l.length≤j→(bL a off l)[j]? =a[j]?
 |[],off,a,j,h=>rfl
 |v::r,off,a,j,h=>by
  simp only[bL,List.length_cons]at h ⊢
  rw[od r (off+1) _ j (by omega),Array.getElem?_setIfInBounds_ne (by omega)]
theorem uQ: ∀(l:List Value) (off:Nat) (a:Array Value) (j:Nat),off+l.length≤a.size→j<l.length→(bL a off l)[off+j]? =l[j]?
 |[],off,a,j,h,hj=>by simp at hj
 |v::r,off,a,j,h,hj=>by
  simp only[bL,List.length_cons]at h hj ⊢
  cases j with
  |zero=>
   rw[la r (off+1) _ _ (by omega)]
   simp only[Nat.add_zero,List.getElem?_cons_zero]
   rw[Array.getElem?_setIfInBounds_self,if_pos (by omega)]
  |succ j=>
   have:=uQ r (off+1) (a.setIfInBounds off v) j (by simp;omega) (by omega)
   rw[show off+(j+1)=off+1+j by omega,this]
   simp
theorem lf {α:Type}: ∀(l:List α) (cs:List α) (off:Nat),(bo cs off l).length=cs.length
 |[],cs,off=>rfl
 |v::r,cs,off=>by simp[bo,lf r]
theorem fv {α:Type}: ∀(l:List α) (off:Nat) (a:List α) (j:Nat),j<off→(bo a off l)[j]? =a[j]?
 |[],off,a,j,h=>rfl
 |v::r,off,a,j,h=>by
  simp only[bo]
  rw[fv r (off+1) _ j (by omega),List.getElem?_set_ne (by omega)]
theorem gV {α:Type}: ∀(l:List α) (off:Nat) (a:List α) (j:Nat),off+l.length≤j→(bo a off l)[j]? =a[j]?
 |[],off,a,j,h=>rfl
 |v::r,off,a,j,h=>by
  simp only[bo,List.length_cons]at h ⊢
  rw[gV r (off+1) _ j (by omega),List.getElem?_set_ne (by omega)]
theorem jD {α:Type}: ∀(l:List α) (off:Nat) (a:List α) (j:Nat),off+l.length≤a.length→j<l.length→(bo a off l)[off+j]? =l[j]?
 |[],off,a,j,h,hj=>by simp at hj
 |v::r,off,a,j,h,hj=>by
  simp only[bo,List.length_cons]at h hj ⊢
  cases j with
  |zero=>
   rw[fv r (off+1) _ _ (by omega)]
   simp only[Nat.add_zero,List.getElem?_cons_zero]
   rw[List.getElem?_set_self (by omega)]
  |succ j=>
   have:=jD r (off+1) (a.set off v) j (by simp;omega) (by omega)
   rw[show off+(j+1)=off+1+j by omega,this]
   simp
theorem e8: ∀{cs:List CV} {vs:List Value},cs.length=vs.length→(∀(j:Nat) c v,cs[j]? =some c→vs[j]? =some v→VR G w c v)→VRL G w cs vs
 |[],[],_,_=>by simp[VRL]
 |[],_::_,h,_=>by simp at h
 |_::_,[],h,_=>by simp at h
 |c::cs,v::vs,h,hg=>by
  simp only[VRL]
  exact⟨v,vs,rfl,hg 0 c v rfl rfl,e8 (by simpa using h) fun j c v hc hv=>hg (j+1) c v (by simpa using hc) (by simpa using hv)⟩
theorem CT {cs:List CV}{a:Array Value}{off:Nat}{ds:List CV}{us:List Value}(h:VRL G w cs a.toList)(hd:VRL G w ds us)(hle:off+ds.length≤cs.length):
  VRL G w (bo cs off ds) (bL a off us).toList:=by
 have hl:=VRL_len h
 have hl2:=VRL_len hd
 refine e8 (by rw[lf,hl];simp[cM]) fun j c v hc hv=> ?_
 have hv':(bL a off us)[j]? =some v:=by simpa using hv
 have has:a.toList.length=a.size:=by simp
 by_cases h1:j<off
 ·rw[fv _ _ _ _ h1]at hc
  rw[la _ _ _ _ h1]at hv'
  obtain⟨u,hu,hr⟩:=(dp h).2 j c hc
  have:u=v:=by rw[Array.getElem?_toList,hv']at hu;exact(Option.some.inj hu).symm
  subst this;exact hr
 ·by_cases h2:off+ds.length≤j
  ·rw[gV _ _ _ _ h2]at hc
   rw[od _ _ _ _ (by omega)]at hv'
   obtain⟨u,hu,hr⟩:=(dp h).2 j c hc
   have:u=v:=by rw[Array.getElem?_toList,hv']at hu;exact(Option.some.inj hu).symm
   subst this;exact hr
  ·obtain⟨k,rfl⟩: ∃k,j=off+k:=⟨j-off,by omega⟩
   rw[jD _ _ _ _ hle (by omega)]at hc
   rw[uQ _ _ _ _ (by omega) (by omega)]at hv'
   obtain⟨u,hu,hr⟩:=(dp hd).2 k c hc
   have:u=v:=by rw[hv']at hu;exact(Option.some.inj hu).symm
   subst this;exact hr
inductive PartsR (G:Gh) (w:World):List (Nat×CV)→List (Nat×Value)→Prop
 |nil:PartsR G w [] []
 |cons {i c v r s} (h:VR G w c v) (hs:eJ c=true) (t:PartsR G w r s):PartsR G w ((i,c)::r) ((i,v)::s)
theorem rn {place:Nat→Option (Nat×Nat)}: ∀{ps:List (Nat×CV)} {qs:List (Nat×Value)} {cs out:List CV} {a:Array Value},
  PartsR G w ps qs→VRL G w cs a.toList→kM place cs ps=some out→ ∃b,Instr.fill place a qs=some b∧VRL G w out b.toList∧b.size=a.size
 |_,_,cs,out,a,.nil,h,hf=>by
  simp only[kM,Option.some.injEq]at hf
  subst hf
  exact⟨a,rfl,h,rfl⟩
 |_,_,cs,out,a,.cons (i:=i) (c:=c) (v:=v) (r:=r) (s:=s) hv hs t,h,hf=>by
  simp only[kM]at hf
  split at hf<;>try(simp at hf;done)
  rename_i q hq
  split at hf<;>try(simp at hf;done)
  rename_i hc
  simp only[Bool.and_eq_true]at hc
  have h1:=Nat.eq_of_beq_eq_true hc.1
  have h2:=Nat.le_of_ble_eq_true hc.2
  obtain⟨hcl,_⟩:=iz hs hv
  have hlen:=VRL_len hcl
  have hl:=VRL_len h
  have hsz:v.cells.size=q.2:=by rw[←h1,hlen];simp
  obtain⟨b,hb,hr,hbs⟩:=rn (a:=bL a q.1 v.cells.toList) t (CT h hcl (by omega)) hf
  refine⟨b,?_,hr,by rw[hbs,cM]⟩
  obtain⟨o,z⟩:=q
  simp only at hsz h1 h2 hb
  simp only[Instr.fill,hq]
  have has:a.toList.length=a.size:=by simp
  have hcond:(decide (v.cells.size≠z)||decide (o+v.cells.size>a.size))=false:=by
   rw[Bool.or_eq_false_iff]
   refine⟨by simp[hsz],?_⟩
   have:o+v.cells.size≤a.size:=by omega
   simpa using this
  rw[if_neg (by rw[hcond];simp)]
  rw[←Array.foldl_toList,Array.toList_zipIdx]
  have:=ue o v.cells.toList 0 a
  simp only[Nat.add_zero]at this
  rw[this]
  exact hb
theorem pt {s:S}{μ:Mu}{a:Act}(R:Rel G L s μ a.tmps w)(h:OpHint): ∀{l:List (Nat×Operand)} {ps:List (Nat×CV)},gS (evA h s.fr) l=some ps→
  PartsR G w ps (l.map fun q=>(q.1,a.eval q.2))
 |[],ps,hp=>by simp only[gS,Option.some.injEq]at hp;subst hp;exact .nil
 |q::r,ps,hp=>by
  simp only[gS]at hp
  obtain⟨c,h1,h2⟩:=ac.1 hp
  obtain⟨h3,h4⟩:=aF.1 h2
  obtain⟨l,h5,h6⟩:=ac.1 h4
  simp only[Option.some.injEq]at h6
  subst h6
  exact .cons (ew h1 (aX R h q.2).1) h3 (pt R h h5)
end
end Go.Abs
set_option linter.unusedVariables false
set_option linter.unusedSimpArgs false
namespace Go.Abs
open Go
def Gh.setO (G:Gh)(b n:Nat):Gh:={G with O:=fun x=>if x=b then n else G.O x}
theorem cP {G:Gh}{b n:Nat}:(G.setO b n).O b=n:=by simp[Gh.setO]
theorem bS {G:Gh}{b n x:Nat}(h:x≠b):(G.setO b n).O x=G.O x:=by simp[Gh.setO,h]
section
variable {G:Gh}{w:World}{L:Nat}{P:Program}
theorem Ad {a:Addr}{v:Value}(h:w.cell? a=some v):a.block<w.heap.size:=block_lt_of_cell h
theorem gN {b:Nat}{o:Obj}(h:w.heap[b]? =some o):b<w.heap.size:=(Array.getElem?_eq_some_iff.1 h).1
theorem ko {x:LV}{v:Value}{b nl:Nat}(h:LVR G w L nl x v)(ho:aH x v b):b<w.heap.size:=by
 cases x<;>simp only[aH]at ho
 ·simp only[LVR]at h
  rcases h with⟨rfl,rfl⟩|⟨b',cap,cur,e,s,rfl,hb,_⟩
  ·simp at ho
  ·subst ho;exact gN hb
 ·simp only[LVR]at h
  rcases h with⟨rfl,rfl⟩|⟨b',cap,cur,e,rfl,hb,_⟩
  ·simp at ho
  ·subst ho;exact gN hb
theorem ia {l:Lam}{i:Nat}(h:aK (aG l i)):i<l.length:=by
 by_cases hi:i<l.length
 ·exact hi
 ·simp only[aG]at h
  rw[List.getElem?_eq_none (by omega)]at h
  exact h.elim
theorem cG {s:S}{μ:Mu}(hL:μ.length=L){lev i:Nat}(h:aK (aE (μ++[s.lam]) lev i)):(lev<L∧aE (μ++[s.lam]) lev i=aU μ lev i)∨(lev=L∧i<s.lam.length∧aE (μ++[s.lam]) lev i=aG s.lam i):=by
 rcases Nat.lt_trichotomy lev L with h1|h1|h1
 ·exact .inl ⟨h1,ba (by omega)⟩
 ·subst h1
  rw[←hL]at h ⊢
  have e:aE (μ++[s.lam]) μ.length i=aG s.lam i:=br
  rw[e]at h
  exact .inr ⟨rfl,ia h,e⟩
 ·rw[←hL]at h1
  simp only[aE,jl h1]at h
  exact h.elim
theorem M8 {nl b sz:Nat}{o:Ob}(h:ObR G w L nl b sz o)(hl:aK o):b<w.heap.size:=by
 cases o with
 |dead=>exact hl.elim
 |cells cs=>obtain⟨cur,e,fz,h1,_⟩:=h;exact gN h1
 |arr k cs=>obtain⟨_,cur,e,fz,h1,_⟩:=h;exact gN h1
 |map ks vs=>obtain⟨es,clk,h1,_⟩:=h;exact gN h1
theorem Rel.touch_lt {s:S}{μ:Mu}{tm:Array Value}(R:Rel G L s μ tm w){b:Nat}(h:fI G w s.fr tm (μ++[s.lam]) b):b<w.heap.size:=by
 rcases h with⟨l,h⟩|⟨lev,i,hl,rfl⟩
 ·cases l with
  |fr t=>exact ko (R.fr t) h
  |ob lev i k=>
   simp only[ay]at h
   split at h<;>try(exact h.elim)
   rename_i cs hcs
   split at h<;>try(exact h.elim)
   rename_i x hx
   obtain⟨cur,e,fz,hb,ho⟩:=h
   have hlive:aK (aE (μ++[s.lam]) lev i):=by rw[hcs];trivial
   rcases cG R.lev hlive with⟨h1,h2⟩|⟨rfl,h1,h2⟩
   ·have:=R.mu lev i h1
    rw[←h2,hcs]at this
    simp only[ObR]at this
    obtain⟨cur',e',fz',hb',_,_,_,h5⟩:=this
    rw[hb]at hb'
    obtain⟨rfl,_⟩:=(Obj.cells.injEq ..).mp (Option.some.inj hb')
    exact ko (h5 k x hx) ho
   ·have:=R.lam i
    rw[←h2,hcs]at this
    simp only[ObR]at this
    obtain⟨cur',e',fz',hb',_,_,_,h5⟩:=this
    rw[hb]at hb'
    obtain⟨rfl,_⟩:=(Obj.cells.injEq ..).mp (Option.some.inj hb')
    exact ko (h5 k x hx) ho
 ·rcases cG R.lev hl with⟨h1,h2⟩|⟨rfl,h1,h2⟩
  ·rw[h2]at hl;exact M8 (R.mu lev i h1) hl
  ·rw[h2]at hl;exact M8 (R.lam i) hl
theorem lu {o:Obj}{b off:Nat}(h:b<w.heap.size):(w.alloc o).cell? ⟨b,off,none⟩=w.cell? ⟨b,off,none⟩:=World.cell?_alloc_lt w o _ h
theorem qv (o:Obj)(n:Nat):Le G w (G.setO w.heap.size n) (w.alloc o):=by
 refine⟨fun b es clk h hb=> ?_,fun _ _ h=>⟨h,rfl,rfl⟩,fun b off v h hc=> ?_,fun b cur e fz h=> ?_⟩
 ·have hlt:b<w.heap.size:=gN hb
  rw[bS (by omega),heap_alloc_old w o hlt]
  exact⟨h,hb⟩
 ·have hb:b<w.heap.size:=Ad hc
  rw[bS (by omega),lu hb]
  exact⟨h,hc⟩
 ·exact⟨cur,fz,by rw[heap_alloc_old w o (gN h)];exact h,rfl⟩
theorem Rel.alloc {s:S}{μ:Mu}{tm:Array Value}(R:Rel G L s μ tm w)(o:Obj)(n:Nat):
  Rel (G.setO w.heap.size n) L s μ tm (w.alloc o)∧
  (∀l b,ay (G.setO w.heap.size n) (w.alloc o) s.fr tm (μ++[s.lam]) l b→ay G w s.fr tm (μ++[s.lam]) l b):=
 R.frame (qv o n) (fun b hb=>⟨heap_alloc_old w o (R.touch_lt hb),bS (by have:=R.touch_lt hb;omega)⟩) (fun _ _ _=>⟨rfl,rfl⟩) rfl
theorem Ext.alloc {T T':Nat→Prop}(o:Obj)(n:Nat)(h: ∀b,T' b→T b∨w.heap.size≤b):Ext L T G w (G.setO w.heap.size n) (w.alloc o) T':=
 ⟨qv o n,rfl,rfl,rfl,by simp,fun b hb _=>⟨heap_alloc_old w o hb,bS (by omega)⟩,h,fun _ _=>⟨fun _=>⟨rfl,rfl⟩,rfl⟩⟩
theorem Rel.drew {s:S}{μ:Mu}{tm:Array Value}(R:Rel G L s μ tm w):Rel G L s μ tm w.drew∧(∀l b,ay G w.drew s.fr tm (μ++[s.lam]) l b→ay G w s.fr tm (μ++[s.lam]) l b):=
 R.frame ⟨fun _ _ _ h hb=>⟨h,hb⟩,fun _ _ h=>⟨h,rfl,rfl⟩,fun _ _ _ h hc=>⟨h,hc⟩,fun b cur e fz h=>⟨cur,fz,h,rfl⟩⟩ (fun _ _=>⟨rfl,rfl⟩) (fun _ _ _=>⟨rfl,rfl⟩) rfl
theorem EL_of {b s:Nat}: ∀{xs:List CV} {off:Nat} {vs:List Value},(∀x∈xs,x.cells.length=s)→VRL G w (xs.flatMap CV.cells) vs→
  (∀(j:Nat) v,vs[j]? =some v→w.cell? ⟨b,off+j,none⟩=some v∧off+j<G.O b)→EL G w b s off xs
 |[],off,vs,_,_,_=>by simp[EL]
 |x::r,off,vs,hs,h,hc=>by
  have hx:=hs x (by simp)
  have key: ∀(cs:List CV) (off:Nat) (vs:List Value),VRL G w cs vs→(∀(j:Nat) v,vs[j]? =some v→w.cell? ⟨b,off+j,none⟩=some v∧off+j<G.O b)→CL G w b off cs:=by
   intro cs
   induction cs with
   |nil=>intro off vs _ _;simp[CL]
   |cons c cs ih=>
    intro off vs h hc
    simp only[VRL]at h
    obtain⟨v,q,rfl,h1,h2⟩:=h
    simp only[CL]
    refine⟨⟨v,(hc 0 v rfl).1,(hc 0 v rfl).2,h1⟩,ih (off+1) q h2 fun j u hu=> ?_⟩
    have:=hc (j+1) u (by simpa using hu)
    rwa [show off+(j+1)=off+1+j by omega]at this
  have split: ∃us ws,vs=us++ws∧us.length=s∧VRL G w x.cells us∧VRL G w (r.flatMap CV.cells) ws:=by
   simp only[List.flatMap_cons]at h
   refine⟨vs.take s,vs.drop s,(List.take_append_drop s vs).symm,?_,?_,?_⟩
   ·have:=VRL_len h
    simp only[List.length_append]at this
    simp only[List.length_take];omega
   ·have:=wK s h
    rwa [List.take_left' hx]at this
   ·have:=wJ s h
    rwa [List.drop_left' hx]at this
  obtain⟨us,ws,rfl,hul,h1,h2⟩:=split
  have hcl:=key x.cells off us h1 fun j v hv=>hc j v (by rw[List.getElem?_append_left (List.getElem?_eq_some_iff.1 hv).1];exact hv)
  have hel:EL G w b s (off+s) r:=EL_of (fun y hy=>hs y (by simp[hy])) h2 fun j v hv=>by
   have:=hc (s+j) v (by rw[List.getElem?_append_right (by omega)];rw[←hv];congr 1;omega)
   rwa [show off+(s+j)=off+s+j by omega]at this
  cases x<;>simp only[EL,CV.cells,CL,and_true]at hcl ⊢ <;>exact⟨hcl,hel⟩
theorem flat_len {xs:List CV}{s:Nat}(h: ∀x∈xs,x.cells.length=s):(xs.flatMap CV.cells).length=xs.length*s:=by
 induction xs with
 |nil=>simp
 |cons x r ih=>
  simp only[List.flatMap_cons,List.length_append,List.length_cons,h x (by simp),ih fun y hy=>h y (by simp[hy])]
  rw[Nat.add_mul];omega
theorem iw {sz:Nat}: ∀{xs:List CV},cS sz xs=true→(∀x∈xs,x.cells.length=sz∧eJ x=true)
 |[],_=>by simp
 |x::r,h=>by
  simp only[cS]at h
  split at h<;>try(simp at h;done)
  rename_i he
  simp only[df,Bool.and_eq_true]at he
  intro y hy
  rcases List.mem_cons.1 hy with rfl|hy
  ·exact⟨Nat.eq_of_beq_eq_true he.1,he.2⟩
  ·exact iw h y hy
end
end Go.Abs
