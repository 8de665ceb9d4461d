/-
  The statement TokensConstantsCardSaid, proved; part 1 of 8 of its proof.
  An abstract interpreter for loaded Go code: values (slices and pointees by their content), a local heap for a function's own variables, an outer heap for what came in by pointer. Definitions only; what it says of the machine is proved in the texts behind it.
  What the abstract interpreter's values say of the machine's values and memory, and that it stays said while the machine goes on.
  How a relation between abstract and concrete state is carried over a step: what is set, what is stripped, what is new.
  Operands, and operations that only compute.
  Values read by their kind: what is read is what was there.
  Operations on numbers, bools, strings and structs by value.
  '==' and '!=' of structs, and of anything against nil.
  Reading what never changes: loads, fields, elements, parts of strings and slices.
  Values of several cells: zeros, structs and slices built out of parts.
  New blocks: what was known stays known, and the new block is known.
  New variables of the call's own.
-/
import Derived.Orders
import Derived.LoopN
import Derived.Laws.Sem
import Derived.Laws.World
import Derived.Laws.AppendOwn
import Derived.WalkKit
set_option linter.all false
set_option linter.unusedSectionVars false
set_option linter.unusedVariables false
namespace Go.Abs
open Go
inductive CV where
 | undef
 | v (x : Value)
 | agg (cs : List CV)
 | sl (xs : List CV)
 | view (cs : List CV)
 | ref (lev i off : Nat)
 | msl (lev i off len : Nat)
 | clo (f : FuncId) (caps : List CV)
 | iface (t : TypeId) (x : CV)
 | mview (ks : List Value) (vs : List CV)
 | mref (lev i : Nat)
 | tref (lev i : Nat) (t : TypeId) (n : Nat)
 deriving Inhabited
inductive LV where
 | cv (c : CV)
 | osl (xs : List CV)
 | loc (i off : Nat)
 | lsl (i off len : Nat)
 | lclo (f : FuncId) (caps : List LV)
 | ltup (xs : List LV)
 | mloc (i : Nat)
 | tloc (i : Nat) (t : TypeId) (n : Nat)
 deriving Inhabited
inductive Ob where
 | cells (cs : List LV)
 | arr (sz : Nat) (cs : List CV)
 | dead
 | map (ks : List Value) (vs : List CV)
 deriving Inhabited
abbrev Lam := List Ob
abbrev Mu := List Lam
inductive Out where
 | ret (v : LV) (μ : Mu)
 | panic (v : CV) (μ : Mu)
abbrev Fr := Nat → LV
structure S where
 fr : Fr
 lam : Lam
 pushed : Bool
inductive St where
 | norm (s : S) (μ : Mu)
 | exit (id : Nat) (s : S) (μ : Mu)
 | ret (s : S) (μ : Mu)
 | panic (v : CV) (s : S) (μ : Mu)
structure OpHint where
 take : List Nat := []
 freeze : List Nat := []
 fza : List (Nat × TypeId) := []
 cell : Bool := false
 arr : Bool := false
 outer : Bool := false
 push : Bool := false
 own : Bool := false
structure Hints where
 ops : List ((Nat × Nat) × OpHint) := []
 live : List (Nat × List (Nat × Nat) × List (Nat × Nat)) := []
 cuts : List (Nat × List (Nat × Nat) × List (Nat × Nat)) := []
 objs : List (Nat × List (Nat × List Nat)) := []
 res : List (Nat × Nat) := []
 pan : List (Nat × Nat) := []
 dfr : Option Nat := none
 deriving Inhabited
@[reducible] def CV.int (k : IntKind) (n : Int) : CV := .v (.int k n)
@[reducible] def CV.bool (b : Bool) : CV := .v (.bool b)
@[reducible] def CV.str (l : List UInt8) : CV := .v (.string ⟨⟨l⟩⟩)
@[reducible] def LV.int (k : IntKind) (n : Int) : LV := .cv (.v (.int k n))
@[reducible] def LV.bool (b : Bool) : LV := .cv (.v (.bool b))
@[reducible] def LV.str (l : List UInt8) : LV := .cv (.v (.string ⟨⟨l⟩⟩))
def opt {α β : Type} (x : Option α) (k : α → Option β) : Option β := match x with | some a => k a | none => none
def guardB {β : Type} (b : Bool) (k : Option β) : Option β := cond b k none
def small (n : Nat) : Bool := decide (n ≤ 1099511627776)
def upd (g : Fr) (t : Nat) (v : LV) : Fr := fun u => match Nat.beq u t with | true => v | false => g u
def mkFr : List (Nat × LV) → Fr
 | [], _ => .cv .undef
 | (s, v) :: r, t => match Nat.beq s t with | true => v | false => mkFr r t
def memN : List Nat → Nat → Bool
 | [], _ => false
 | a :: r, t => match Nat.beq a t with | true => true | false => memN r t
def strip1 : LV → LV
 | .cv c => .cv c
 | .osl xs => .cv (.sl xs)
 | .loc i off => .loc i off
 | .lsl i off len => .lsl i off len
 | .lclo f caps => .lclo f caps
 | .mloc i => .mloc i
 | .tloc i t n => .tloc i t n
 | .ltup _ => .cv .undef
def strip : LV → LV
 | .cv c => .cv c
 | .osl xs => .cv (.sl xs)
 | .loc i off => .loc i off
 | .lsl i off len => .lsl i off len
 | .lclo f caps => .lclo f caps
 | .mloc i => .mloc i
 | .tloc i t n => .tloc i t n
 | .ltup xs => .ltup (xs.map strip1)
def S.set (s : S) (t : Nat) (v : LV) : S := { s with fr := upd s.fr t v }
def S.put (s : S) (dst : Option Nat) (v : LV) : S := match dst with | some t => s.set t v | none => s
def stripSlots : List Nat → S → S
 | [], s => s
 | t :: r, s => stripSlots r (s.set t (strip (s.fr t)))
def ofVal : Value → LV
 | .agg cs => .cv (.agg (cs.toList.map .v))
 | .tuple cs => .ltup (cs.toList.map fun c => .cv (.v c))
 | x => .cv (.v x)
def evA (h : OpHint) (fr : Fr) : Operand → LV
 | .tmp t => match memN h.take t with | true => fr t | false => strip (fr t)
 | .const c => ofVal c
 | .global _ => .cv .undef
 | .func f => .cv (.clo f [])
def CV.cells : CV → List CV
 | .agg cs => cs
 | c => [c]
def solid1 : CV → Bool
 | .undef => false
 | .agg _ => false
 | .v x => x.oneCell'
 | _ => true
def solids : List CV → Bool
 | [] => true
 | c :: r => match solid1 c with | true => solids r | false => false
def solid : CV → Bool
 | .agg cs => solids cs
 | c => solid1 c
def LV.cells : LV → Option (List LV)
 | .cv c => match solid c with | true => some (c.cells.map .cv) | false => none
 | .ltup _ => none
 | x => some [x]
def getInt (k : IntKind) : LV → Option Int
 | .cv (.v (.int k' n)) => match decide (k = k') with | true => some n | false => none
 | _ => none
def getBool : LV → Option Bool
 | .cv (.v (.bool b)) => some b
 | _ => none
def getStr : LV → Option (List UInt8)
 | .cv (.v (.string s)) => some s.data.toList
 | _ => none
def getSl : LV → Option (List CV)
 | .cv (.sl xs) => some xs
 | .cv (.v (.slice none 0 0)) => some []
 | .osl xs => some xs
 | _ => none
def getOsl : LV → Option (List CV)
 | .osl xs => some xs
 | .cv (.v (.slice none 0 0)) => some []
 | _ => none
def getCv : LV → Option CV
 | .cv c => some c
 | .osl xs => some (.sl xs)
 | _ => none
def getAgg : LV → Option (List CV)
 | .cv (.agg cs) => some cs
 | _ => none
def getTup : LV → Option (List LV)
 | .ltup xs => some xs
 | _ => none
def uncons {α : Type} : List α → Option (α × List α)
 | a :: r => some (a, r)
 | [] => none
def isNilL {α : Type} : List α → Option Unit
 | [] => some ()
 | _ :: _ => none
def cellK {β : Type} (d : TypeDesc) (c : LV) (k : CV → Option β) : Option β :=
 match d with
 | .int ik => opt (getInt ik c) fun n => k (.v (.int ik n))
 | .bool => opt (getBool c) fun b => k (.v (.bool b))
 | .string => opt (getStr c) fun l => k (.v (.string ⟨⟨l⟩⟩))
 | .slice _ => opt (getSl c) fun xs => k (.sl xs)
 | _ => opt (getCv c) k
def cellsK {β : Type} : List TypeDesc → List CV → (List CV → Option β) → Option β
 | [], cs, k => opt (isNilL cs) fun _ => k []
 | d :: ds, cs, k => opt (uncons cs) fun q => cellK d (.cv q.1) fun c => cellsK ds q.2 fun r => k (c :: r)
def kinds (P : Program) : (depth : Nat) → TypeId → List TypeDesc
 | 0, _ => []
 | d + 1, t => match P.underlying t with
  | some (.struct fs) => fs.toList.flatMap fun f => kinds P d f.type
  | some (.array n e) => (List.replicate n ()).flatMap fun _ => kinds P d e
  | some x => [x]
  | none => []
def isAggT (P : Program) (t : TypeId) : Bool :=
 match P.underlying t with
 | some (.struct _) => true
 | some (.array _ _) => true
 | _ => false
def typedL {β : Type} (P : Program) (t : TypeId) (v : LV) (k : CV → Option β) : Option β :=
 match isAggT P t with
 | true => opt (getAgg v) fun cs => cellsK (kinds P 8 t) cs fun cs => k (.agg cs)
 | false => match P.underlying t with
  | some d => cellK d v k
  | none => none
def typedC {β : Type} (P : Program) (t : TypeId) (c : CV) (k : CV → Option β) : Option β := typedL P t (.cv c) k
def typed1 {β : Type} (P : Program) (own : Bool) (t : TypeId) (v : LV) (k : LV → Option β) : Option β :=
 match own with
 | true => opt (getOsl v) fun xs => k (.osl xs)
 | false => typedL P t v fun c => k (.cv c)
def typedTup {β : Type} (P : Program) : List TypeId → List LV → (List LV → Option β) → Option β
 | [], vs, k => opt (isNilL vs) fun _ => k []
 | t :: ts, vs, k => opt (uncons vs) fun q => typed1 P false t q.1 fun x => typedTup P ts q.2 fun r => k (x :: r)
def typedK {β : Type} (P : Program) (own : Bool) (t : TypeId) (v : LV) (k : LV → Option β) : Option β :=
 match P.underlying t with
 | some (.tuple ts) => opt (getTup v) fun xs => typedTup P ts.toList xs fun xs => k (.ltup xs)
 | _ => typed1 P own t v k
def intA (op : BinOp) (k : IntKind) (a : Int) (k' : IntKind) (b : Int) : Option CV :=
 match op with
 | .shl | .shr => match decide (b < 0) with
  | true => none
  | false => match op with
   | .shl => some (.int k (k.wrap (a * 2 ^ (min b.toNat k.bits))))
   | _ => some (.int k (a.fdiv (2 ^ (min b.toNat k.bits))))
 | _ => match decide (k = k') with
  | false => none
  | true => match op with
   | .add => some (.int k (k.wrap (a + b)))
   | .sub => some (.int k (k.wrap (a - b)))
   | .mul => some (.int k (k.wrap (a * b)))
   | .quo => match decide (b = 0) with | true => none | false => some (.int k (k.wrap (a.tdiv b)))
   | .rem => match decide (b = 0) with | true => none | false => some (.int k (a.tmod b))
   | .and => some (.int k (k.wrap (BitVec.ofInt k.bits a &&& BitVec.ofInt k.bits b).toNat))
   | .or => some (.int k (k.wrap (BitVec.ofInt k.bits a ||| BitVec.ofInt k.bits b).toNat))
   | .xor => some (.int k (k.wrap (BitVec.ofInt k.bits a ^^^ BitVec.ofInt k.bits b).toNat))
   | .andNot => some (.int k (k.wrap (BitVec.ofInt k.bits a &&& ~~~BitVec.ofInt k.bits b).toNat))
   | .eql => some (.bool (decide (a = b)))
   | .neq => some (.bool (!decide (a = b)))
   | .lss => some (.bool (decide (a < b)))
   | .leq => some (.bool (decide (a ≤ b)))
   | .gtr => some (.bool (decide (b < a)))
   | .geq => some (.bool (decide (b ≤ a)))
   | _ => none
def strA (op : BinOp) (a b : List UInt8) : Option CV :=
 match op with
 | .add => match small (a.length + b.length) with | true => some (.str (a ++ b)) | false => none
 | .eql => some (.bool (decide (a = b)))
 | .neq => some (.bool (!decide (a = b)))
 | .lss => some (.bool (Op.bytesLess a b))
 | .leq => some (.bool (Op.bytesLess a b || decide (a = b)))
 | .gtr => some (.bool (!(Op.bytesLess a b || decide (a = b))))
 | .geq => some (.bool (!Op.bytesLess a b))
 | _ => none
def cellEq : CV → CV → Option Bool
 | .v (.int k a), .v (.int k' b) => match decide (k = k') with | true => some (decide (a = b)) | false => none
 | .v (.bool a), .v (.bool b) => some (a == b)
 | .v (.string a), .v (.string b) => some (decide (a.data.toList = b.data.toList))
 | _, _ => none
def cellsEq : List CV → List CV → Option Bool
 | [], [] => some true
 | a :: as, b :: bs => opt (cellEq a b) fun x => opt (cellsEq as bs) fun y => some (x && y)
 | _, _ => none
def plainFields (P : Program) (t : TypeId) : Option (List TypeDesc) :=
 match P.underlying t with
 | some (.struct fs) =>
  match (fs.toList.zipIdx.all fun q => q.1.offset == q.2 && q.1.name != "_" &&
    (match P.underlying q.1.type with | some (.int _) => true | some .bool => true | some .string => true | _ => false)) && !P.stoodInHeld t && !P.eqGuardType P.depth t with
  | true => some (fs.toList.map fun f => (P.underlying f.type).getD .invalid)
  | false => none
 | _ => none
def kindOK : TypeDesc → CV → Bool
 | .int k, .v (.int k' _) => decide (k = k')
 | .bool, .v (.bool _) => true
 | .string, .v (.string _) => true
 | _, _ => false
def kindsOK : List TypeDesc → List CV → Bool
 | [], [] => true
 | d :: ds, c :: cs => kindOK d c && kindsOK ds cs
 | _, _ => false
def isNilA : LV → Option Bool
 | .cv (.v (.pointer none)) => some true
 | .cv (.view _) => some false
 | .cv (.ref _ _ _) => some false
 | .cv (.clo _ _) => some false
 | .cv (.iface _ _) => some false
 | .loc _ _ => some false
 | .lclo _ _ => some false
 | .tloc _ _ _ => some false
 | .cv (.tref _ _ _ _) => some false
 | _ => none
def untypeC : CV → CV
 | .tref lev i _ _ => .ref lev i 0
 | c => c
def untype : LV → LV
 | .tloc i _ _ => .loc i 0
 | .cv c => .cv (untypeC c)
 | x => x
def allocV (typed : Bool) (i : Nat) (t : TypeId) (n : Nat) : LV := match typed with | true => .tloc i t n | false => .loc i 0
def nilPtr : LV → Option Bool
 | .cv (.v (.pointer none)) => some true
 | .cv (.view _) => some false
 | .cv (.ref _ _ _) => some false
 | .loc _ _ => some false
 | _ => none
def nilIf : LV → Option Bool
 | .cv (.v .nilIface) => some true
 | .cv (.iface _ _) => some false
 | _ => none
def nilSl : LV → Option Bool
 | .cv (.v (.slice none 0 0)) => some true
 | .cv (.sl (_ :: _)) => some false
 | .osl (_ :: _) => some false
 | _ => none
def nilA (d : TypeDesc) (c : Value) (a : LV) : Option Bool :=
 match d, c with
 | .pointer _, .pointer none => nilPtr a
 | .interface _, .nilIface => nilIf a
 | .slice _, .slice none 0 0 => nilSl a
 | _, _ => none
def constOf : Operand → Option Value
 | .const c => some c
 | _ => none
def binA (P : Program) (op : BinOp) (t : TypeId) (x y : Operand) (a b : LV) : Option CV :=
 match a, b with
 | .cv (.v (.int k m)), .cv (.v (.int k' n)) => intA op k m k' n
 | .cv (.v (.string m)), .cv (.v (.string n)) => strA op m.data.toList n.data.toList
 | .cv (.v (.bool m)), .cv (.v (.bool n)) => match op, P.underlying t with
  | .eql, some .bool => some (.bool (m == n))
  | .neq, some .bool => some (.bool (!(m == n)))
  | _, _ => none
 | .cv (.agg m), .cv (.agg n) =>
  opt (plainFields P t) fun ds => guardB (kindsOK ds m) (guardB (kindsOK ds n) (opt (cellsEq m n) fun r => match op with
  | .eql => some (.bool r)
  | .neq => some (.bool (!r))
  | _ => none))
 | a, b => opt (P.underlying t) fun d =>
  let go (r : Bool) : Option CV := match op with
   | .eql => some (.bool r)
   | .neq => some (.bool (!r))
   | _ => none
  match constOf y with
  | some c => opt (nilA d c a) go
  | none => opt (constOf x) fun c => opt (nilA d c b) go
def intB (op : BinOp) (k : IntKind) (a : Int) (k' : IntKind) (b : Int) : Option CV :=
 match op with
 | .shl => some (.int k (k.wrap (a * 2 ^ (min b.toNat k.bits))))
 | .shr => some (.int k (a.fdiv (2 ^ (min b.toNat k.bits))))
 | _ => match decide (k = k') with
  | false => none
  | true => match op with
   | .quo => some (.int k (k.wrap (a.tdiv b)))
   | .rem => some (.int k (a.tmod b))
   | _ => intA op k a k' b
def nilC : Operand → Option Value
 | .const .nilIface => some .nilIface
 | .const (.pointer none) => some (.pointer none)
 | .const (.slice none 0 0) => some (.slice none 0 0)
 | _ => none
def eqlA (op : BinOp) (r : Bool) : Option CV :=
 match op with
 | .eql => some (.bool r)
 | .neq => some (.bool (!r))
 | _ => none
def binG1 (op : BinOp) (a b : LV) : Bool :=
 match a, b with
 | .cv (.v (.int _ _)), .cv (.v (.int _ n)) => match op with
  | .quo => !decide (n = 0)
  | .rem => !decide (n = 0)
  | .shl => !decide (n < 0)
  | .shr => !decide (n < 0)
  | _ => true
 | .cv (.v (.string m)), .cv (.v (.string n)) => match op with
  | .add => small (m.data.toList.length + n.data.toList.length)
  | _ => true
 | _, _ => true
def binB1 (P : Program) (op : BinOp) (t : TypeId) (x y : Operand) (a b : LV) : Option CV :=
 match a, b with
 | .cv (.v (.int k m)), .cv (.v (.int k' n)) => intB op k m k' n
 | .cv (.v (.string m)), .cv (.v (.string n)) => match op with
  | .add => some (.str (m.data.toList ++ n.data.toList))
  | _ => strA op m.data.toList n.data.toList
 | a, b => binA P op t x y a b
def nilSide (x y : Operand) (a b : LV) : Option (Value × LV) :=
 match nilC y with
 | some c => some (c, a)
 | none => match constOf y with
  | some _ => none
  | none => match nilC x with
   | some c => some (c, b)
   | none => none
def binK {β : Type} (P : Program) (op : BinOp) (t : TypeId) (x y : Operand) (a b : LV) (f : CV → Option β) : Option β :=
 match nilSide x y a b with
 | some q => opt (P.underlying t) fun d => opt (nilA d q.1 q.2) fun r => opt (eqlA op r) f
 | none => guardB (binG1 op a b) (opt (binB1 P op t x y a b) f)
theorem intB_intA {op : BinOp} {k k' : IntKind} {a b : Int} {c : CV} (hg : binG1 op (.cv (.v (.int k a))) (.cv (.v (.int k' b))) = true) (h : intB op k a k' b = some c) : intA op k a k' b = some c := by
 cases op
 case shl => simp only [binG1, Bool.not_eq_true'] at hg; simp only [intB] at h; simp only [intA, hg]; exact h
 case shr => simp only [binG1, Bool.not_eq_true'] at hg; simp only [intB] at h; simp only [intA, hg]; exact h
 case quo =>
  simp only [binG1, Bool.not_eq_true'] at hg
  simp only [intB] at h
  simp only [intA, hg]
  exact h
 case rem =>
  simp only [binG1, Bool.not_eq_true'] at hg
  simp only [intB] at h
  simp only [intA, hg]
  exact h
 all_goals
  simp only [intB] at h
  split at h
  ·cases h
  ·exact h
theorem binB1_binA {P : Program} {op : BinOp} {t : TypeId} {x y : Operand} {a b : LV} {c : CV} (hg : binG1 op a b = true) (h : binB1 P op t x y a b = some c) : binA P op t x y a b = some c := by
 unfold binB1 at h
 split at h
 ·exact intB_intA hg h
 ·split at h
  ·simp only [binG1] at hg
   simp only [binA, strA, hg]
   exact h
  ·exact h
 ·exact h
theorem nilC_const {x : Operand} {c : Value} (h : nilC x = some c) : x = .const c ∧ (c = .nilIface ∨ c = .pointer none ∨ c = .slice none 0 0) := by
 unfold nilC at h
 split at h <;> first | (cases h; done) | (simp only [Option.some.injEq] at h; subst h; exact ⟨rfl, by simp⟩)
theorem binK_binA {β : Type} {P : Program} {op : BinOp} {t : TypeId} {x y : Operand} {a b : LV} {f : CV → Option β} {r : β} (hx : ∀ v, x = .const v → a = ofVal v) (hy : ∀ v, y = .const v → b = ofVal v) (h : binK P op t x y a b f = some r) :
  ∃ c, binA P op t x y a b = some c ∧ f c = some r := by
 have key : ∀ {n : Value} {l : LV}, (opt (P.underlying t) fun d => opt (nilA d n l) fun r => opt (eqlA op r) f) = some r → ∃ c, (opt (P.underlying t) fun d => opt (nilA d n l) (eqlA op)) = some c ∧ f c = some r := by
  intro n l h
  cases hu : P.underlying t with
  | none => rw [hu] at h; cases h
  | some d =>
   rw [hu] at h
   simp only [opt] at h ⊢
   cases hn : nilA d n l with
   | none => rw [hn] at h; cases h
   | some b =>
    rw [hn] at h
    simp only at h ⊢
    cases he : eqlA op b with
    | none => rw [he] at h; cases h
    | some c => rw [he] at h; exact ⟨c, rfl, h⟩
 unfold binK nilSide at h
 cases hny : nilC y with
 | some n =>
  rw [hny] at h
  obtain ⟨rfl, hc⟩ := nilC_const hny
  have hb := hy n rfl
  subst hb
  obtain ⟨c, h1, h2⟩ := key h
  refine ⟨c, ?_, h2⟩
  unfold binA
  split
  ·rename_i e; rcases hc with rfl | rfl | rfl <;> simp [ofVal] at e
  ·rename_i e; rcases hc with rfl | rfl | rfl <;> simp [ofVal] at e
  ·rename_i e; rcases hc with rfl | rfl | rfl <;> simp [ofVal] at e
  ·rename_i e; rcases hc with rfl | rfl | rfl <;> simp [ofVal] at e
  ·simp only [constOf]
   exact h1
 | none =>
  rw [hny] at h
  have plain : guardB (binG1 op a b) (opt (binB1 P op t x y a b) f) = some r → ∃ c, binA P op t x y a b = some c ∧ f c = some r := by
   intro h
   unfold guardB at h
   cases hg : binG1 op a b with
   | false => rw [hg] at h; cases h
   | true =>
    rw [hg] at h
    simp only [cond_true] at h
    cases hb : binB1 P op t x y a b with
    | none => rw [hb] at h; cases h
    | some c => rw [hb] at h; exact ⟨c, binB1_binA hg hb, h⟩
  cases hcy : constOf y with
  | some cy => rw [hcy] at h; exact plain h
  | none =>
   rw [hcy] at h
   cases hnx : nilC x with
   | none => rw [hnx] at h; exact plain h
   | some n =>
    rw [hnx] at h
    obtain ⟨rfl, hc⟩ := nilC_const hnx
    have ha := hx n rfl
    subst ha
    obtain ⟨c, h1, h2⟩ := key h
    refine ⟨c, ?_, h2⟩
    unfold binA
    split
    ·rename_i e; rcases hc with rfl | rfl | rfl <;> simp [ofVal] at e
    ·rename_i e; rcases hc with rfl | rfl | rfl <;> simp [ofVal] at e
    ·rename_i e; rcases hc with rfl | rfl | rfl <;> simp [ofVal] at e
    ·rename_i e; rcases hc with rfl | rfl | rfl <;> simp [ofVal] at e
    ·rw [hcy]
     simp only [constOf, opt]
     exact h1
def unA (op : UnOp) : LV → Option CV
 | .cv (.v (.bool b)) => match op with | .not => some (.bool (!b)) | _ => none
 | .cv (.v (.int k n)) => match op with
  | .neg => some (.int k (k.wrap (0 - n)))
  | .xor => some (.int k (k.wrap (BitVec.ofInt k.bits (if k.signed then -1 else k.max) ^^^ BitVec.ofInt k.bits n).toNat))
  | _ => none
 | _ => none
def pickA (t : Bool) (a b : LV) : LV :=
 match a, b with
 | .cv (.v (.bool x)), .cv (.v (.bool y)) => .cv (.v (.bool (cond t x y)))
 | a, b => match t with | true => a | false => b
def strAt (l : List UInt8) (i : Int) : Option UInt8 := match decide (0 ≤ i) with | true => l[i.toNat]? | false => none
def slAt (xs : List CV) (i : Int) : Option CV := match decide (0 ≤ i) with | true => xs[i.toNat]? | false => none
def cutA {α : Type} (xs : List α) (lo hi : Int) : Option (List α) :=
 match decide (0 ≤ lo) && decide (lo ≤ hi) && decide (hi ≤ (xs.length : Int)) with
 | true => some ((xs.drop lo.toNat).take (hi - lo).toNat)
 | false => none
def byteCells : List CV → Option (List UInt8)
 | [] => some []
 | .v (.int .u8 n) :: r => match decide (0 ≤ n) && decide (n < 256) with
  | true => opt (byteCells r) fun l => some (UInt8.ofNat n.toNat :: l)
  | false => none
 | _ :: _ => none
def noB : CV → Bool
 | .v (.int .u8 _) => false
 | _ => true
def headOK : List CV → Bool
 | [] => true
 | y :: _ => noB y
def lenSl : LV → Option Int
 | .cv (.sl xs) => some (xs.length : Int)
 | .cv (.v (.slice none 0 0)) => some 0
 | .osl xs => some (xs.length : Int)
 | .lsl _ _ len => some (len : Int)
 | .cv (.msl _ _ _ len) => some (len : Int)
 | _ => none
def lenA (P : Program) (t : TypeId) (x : LV) : Option Int :=
 match P.underlying t with
 | some .string => opt (getStr x) fun l => some (l.length : Int)
 | some (.slice _) => lenSl x
 | _ => none
def zeroCells (P : Program) (t : TypeId) : Option (List CV) :=
 match P.info? t with
 | some i => match i.zero with
  | some z => match z with
   | .agg cs => some (cs.toList.map .v)
   | x => some [.v x]
  | none => none
 | none => none
def sizeT (P : Program) (t : TypeId) : Option Nat := match P.info? t with | some i => some i.size | none => none
def bytesOK (P : Program) (t : TypeId) : Bool := match P.info? t with | some i => Nat.ble i.bytes 128 && Nat.ble 1 i.size | none => false
def setRange {α : Type} : List α → Nat → List α → List α
 | cs, _, [] => cs
 | cs, off, v :: r => setRange (cs.set off v) (off + 1) r
def fillA (place : Nat → Option (Nat × Nat)) : List CV → List (Nat × CV) → Option (List CV)
 | cs, [] => some cs
 | cs, (i, c) :: r =>
  match place i with
  | none => none
  | some q => match Nat.beq c.cells.length q.2 && Nat.ble (q.1 + q.2) cs.length with
   | true => fillA place (setRange cs q.1 c.cells) r
   | false => none
def fieldPlaces (P : Program) : List Field → Option (List (Nat × Nat))
 | [] => some []
 | f :: r => opt (sizeT P f.type) fun n => opt (fieldPlaces P r) fun l => some ((f.offset, n) :: l)
def partsCV (ev : Operand → LV) : List (Nat × Operand) → Option (List (Nat × CV))
 | [] => some []
 | q :: r => opt (getCv (ev q.2)) fun c => guardB (solid c) (opt (partsCV ev r) fun l => some ((q.1, c) :: l))
def buildA (P : Program) (t : TypeId) (parts : List (Nat × CV)) : Option CV :=
 opt (zeroCells P t) fun z =>
 match P.underlying t with
 | some (.struct fs) => opt (fieldPlaces P fs.toList) fun pl => opt (fillA (fun i => pl[i]?) z parts) fun cs => some (.agg cs)
 | some (.array _ e) => opt (sizeT P e) fun n => opt (fillA (fun i => some (i * n, n)) z parts) fun cs => some (.agg cs)
 | _ => none
def litA (sz : Nat) : Nat → List (Nat × CV) → Option (List CV)
 | _, [] => some []
 | n, (i, c) :: r => match Nat.beq i n && Nat.beq c.cells.length sz with
  | true => opt (litA sz (n + 1) r) fun l => some (c :: l)
  | false => none
def fieldOff (P : Program) (s : TypeId) (f : Nat) : Option (Nat × TypeId) :=
 match P.underlying s with
 | some (.struct fs) => match fs[f]? with
  | some f => match sizeT P f.type with
   | some (_ + 1) => some (f.offset, f.type)
   | _ => none
  | none => none
 | _ => none
def takeAgg1 (P : Program) (t : TypeId) (cs : List CV) (off : Nat) : Option CV :=
 match isAggT P t with
 | true => opt (sizeT P t) fun n => match Nat.ble (off + n) cs.length with
  | true => some (.agg ((cs.drop off).take n))
  | false => none
 | false => cs[off]?
def takeAgg (P : Program) (t : TypeId) (cs : List CV) (off : Nat) : Option CV := opt (P.underlying t) fun _ => takeAgg1 P t cs off
def elemOK (sz : Nat) (c : CV) : Bool := Nat.beq c.cells.length sz && solid c
def allSz (sz : Nat) : List CV → Bool
 | [] => true
 | c :: r => match elemOK sz c with | true => allSz sz r | false => false
def toCVs : List LV → Option (List CV)
 | [] => some []
 | x :: r => opt (getCv x) fun c => opt (toCVs r) fun l => some (c :: l)
def muOb (μ : Mu) (lev i : Nat) : Ob :=
 match μ[lev]? with
 | some l => match l[i]? with | some o => o | none => .dead
 | none => .dead
def lamOb (l : Lam) (i : Nat) : Ob := match l[i]? with | some o => o | none => .dead
def muSet (μ : Mu) (lev i : Nat) (o : Ob) : Mu :=
 match μ[lev]? with
 | some l => μ.set lev (l.set i o)
 | none => μ
def obRead1 (P : Program) (t : TypeId) (o : Ob) (off : Nat) : Option LV :=
 match o with
 | .cells cs => match isAggT P t with
  | true => opt (sizeT P t) fun n => match Nat.ble (off + n) cs.length with
   | true => opt (toCVs ((cs.drop off).take n)) fun l => some (.cv (.agg l))
   | false => none
  | false => match cs[off]? with
   | some x => some (strip x)
   | none => none
 | .arr _ cs => opt (takeAgg1 P t cs off) fun c => some (.cv c)
 | .dead => none
 | .map _ _ => none
def obRead (P : Program) (t : TypeId) (o : Ob) (off : Nat) : Option LV := opt (P.underlying t) fun _ => obRead1 P t o off
def obTake (P : Program) (t : TypeId) (o : Ob) (off : Nat) : Option (LV × Ob) := opt (P.underlying t) fun _ =>
 match isAggT P t with
 | true => none
 | false => match o with
  | .cells cs => match cs[off]? with
   | some x => some (x, .cells (cs.set off (strip x)))
   | none => none
  | _ => none
def obWrite (P : Program) (t : TypeId) (o : Ob) (off : Nat) (v : LV) : Option Ob :=
 match o with
 | .cells cs => opt v.cells fun vs => opt (sizeT P t) fun n => match Nat.beq vs.length n && Nat.ble (off + n) cs.length with
  | true => some (.cells (setRange cs off vs))
  | false => none
 | .arr sz cs => opt (getCv v) fun c => opt (sizeT P t) fun n => match elemOK n c && Nat.ble (off + n) cs.length with
  | true => some (.arr sz (setRange cs off c.cells))
  | false => none
 | .dead => none
 | .map _ _ => none
mutual
def below (n : Nat) : CV → Bool
 | .undef => true
 | .v _ => true
 | .agg cs => belowL n cs
 | .sl cs => belowL n cs
 | .view cs => belowL n cs
 | .ref lev _ _ => decide (lev < n)
 | .msl lev _ _ _ => decide (lev < n)
 | .clo _ cs => belowL n cs
 | .iface _ c => below n c
 | .mview _ vs => belowL n vs
 | .mref lev _ => decide (lev < n)
 | .tref lev _ _ _ => decide (lev < n)
def belowL (n : Nat) : List CV → Bool
 | [] => true
 | c :: r => match below n c with | true => belowL n r | false => false
end
def outerOK (lev : Nat) : LV → Bool
 | .cv c => below (lev + 1) c
 | .osl xs => belowL (lev + 1) xs
 | _ => false
def toOuterCV (L : Nat) : LV → Option CV
 | .cv c => some c
 | .osl xs => some (.sl xs)
 | .loc i off => some (.ref L i off)
 | .lsl i off len => some (.msl L i off len)
 | .mloc i => some (.mref L i)
 | .tloc i t n => some (.tref L i t n)
 | _ => none
def toOuterCVs (L : Nat) : List LV → Option (List CV)
 | [] => some []
 | x :: r => opt (toOuterCV L x) fun c => opt (toOuterCVs L r) fun l => some (c :: l)
def toOuter (L : Nat) : LV → Option LV
 | .osl xs => some (.osl xs)
 | .lclo f caps => opt (toOuterCVs L caps) fun cs => some (.cv (.clo f cs))
 | x => opt (toOuterCV L x) fun c => some (.cv c)
def toOuters (L : Nat) : List LV → Option (List LV)
 | [] => some []
 | x :: r => opt (toOuter L x) fun c => opt (toOuters L r) fun l => some (c :: l)
def outerLam (L : Nat) : Lam → Option Lam
 | [] => some []
 | .dead :: r => opt (outerLam L r) fun l => some (.dead :: l)
 | .arr sz cs :: r => opt (outerLam L r) fun l => some (.arr sz cs :: l)
 | .map ks vs :: r => opt (outerLam L r) fun l => some (.map ks vs :: l)
 | .cells cs :: r => opt (toOuters L cs) fun cs => opt (outerLam L r) fun l => some (.cells cs :: l)
def plainArg : LV → Bool
 | .cv _ => true
 | .osl _ => true
 | _ => false
def plainArgs : List LV → Bool
 | [] => true
 | x :: r => match plainArg x with | true => plainArgs r | false => false
def flatRes : LV → Bool
 | .cv _ => true
 | .osl _ => true
 | .ltup xs => plainArgs xs
 | _ => false
def belowRes1 (n : Nat) : LV → Bool
 | .cv c => below n c
 | .osl xs => belowL n xs
 | _ => false
def belowRes (n : Nat) : LV → Bool
 | .ltup xs => xs.all (belowRes1 n)
 | x => belowRes1 n x
structure Rho where
 call : FuncId → List LV → Mu → Option Out
 loop : Hints → List (Nat × Nat) → Code → S → Mu → Option St
 seg : Hints → List (Nat × Nat) → Code → S → Mu → Option St
 dcall : FuncId → Option CV → List LV → Mu → Option Mu
section
variable (P : Program) (ρ : Rho)
variable {α : Type}
def callK (r : Option Out) (k : LV → Mu → Option α) (p : CV → Mu → Option α) : Option α :=
 opt r fun
  | .ret v μ => k v μ
  | .panic v μ => p v μ
def popMu (μ : Mu) : Option (Mu × Lam) := match μ.reverse with | l :: r => some (r.reverse, l) | [] => none
def getView : LV → Option (List CV)
 | .cv (.view cs) => some cs
 | _ => none
def getRef : LV → Option (Nat × Nat × Nat)
 | .cv (.ref lev i off) => some (lev, i, off)
 | _ => none
def getMsl : LV → Option (Nat × Nat × Nat × Nat)
 | .cv (.msl lev i off len) => some (lev, i, off, len)
 | _ => none
def typedIf {β : Type} (P : Program) (b : Bool) (t : TypeId) (v : LV) (k : LV → Option β) : Option β := match b with | true => typedK P false t v k | false => k v
def loadK (h : OpHint) (t : TypeId) (a : LV) (s : S) (μ : Mu) (k : LV → S → Mu → Option α) : Option α :=
 match a with
 | .loc i off => match h.outer with
  | true => none
  | false => match h.cell with
   | false => opt (obRead P t (lamOb s.lam i) off) fun v => typedIf P h.arr t v fun v => k v s μ
   | true => opt (obTake P t (lamOb s.lam i) off) fun q => k q.1 { s with lam := s.lam.set i q.2 } μ
 | .cv _ => match h.outer with
  | false => opt (getView a) fun cs => opt (takeAgg P t cs 0) fun c => k (.cv c) s μ
  | true => opt (getRef a) fun q => match h.cell with
   | false => opt (obRead P t (muOb μ q.1 q.2.1) q.2.2) fun v => typedK P false t v fun v => k v s μ
   | true => opt (obTake P t (muOb μ q.1 q.2.1) q.2.2) fun r => typedK P true t r.1 fun v => k v s (muSet μ q.1 q.2.1 r.2)
 | _ => none
def obWriteK (t : TypeId) (o : Ob) (off : Nat) (v : LV) (k : Ob → Option α) : Option α :=
 match o with
 | .arr sz cs => opt (getCv v) fun c => opt (sizeT P t) fun n => guardB (elemOK n c && Nat.ble (off + n) cs.length) (k (.arr sz (setRange cs off c.cells)))
 | o => opt (obWrite P t o off v) k
def storeK (h : OpHint) (t : TypeId) (a v : LV) (s : S) (μ : Mu) (k : LV → S → Mu → Option α) : Option α :=
 match a with
 | .loc i off => match h.outer with
  | true => none
  | false => obWriteK P t (lamOb s.lam i) off v fun o => k (.cv .undef) { s with lam := s.lam.set i o } μ
 | .cv _ => match h.outer with
  | false => none
  | true => opt (getRef a) fun q => guardB (outerOK q.1 v) (opt (obWrite P t (muOb μ q.1 q.2.1) q.2.2 v) fun o => k (.cv .undef) s (muSet μ q.1 q.2.1 o))
 | _ => none
def fieldAddrK (h : OpHint) (s : TypeId) (a : LV) (f : Nat) (k : LV → Option α) : Option α :=
 opt (fieldOff P s f) fun q => match a with
 | .loc i off => k (.loc i (off + q.1))
 | .cv _ => match h.outer with
  | false => opt (getView a) fun cs => cellsK (kinds P 8 s) cs fun cs => guardB (Nat.ble q.1 cs.length) (k (.cv (.view (cs.drop q.1))))
  | true => opt (getRef a) fun r => k (.cv (.ref r.1 r.2.1 (r.2.2 + q.1)))
 | _ => none
def fieldA (s : TypeId) (x : LV) (f : Nat) : Option LV :=
 opt (fieldOff P s f) fun q => opt (getAgg x) fun cs => opt (takeAgg P q.2 cs q.1) fun c => some (.cv c)
def inRange (i : Int) (len : Nat) : Bool := decide (0 ≤ i) && decide (i < (len : Int))
def indexAddrK (h : OpHint) (t : TypeId) (x : LV) (i : Int) (k : LV → Option α) : Option α :=
 match P.underlying t with
 | some (.slice e) => opt (sizeT P e) fun n => match x with
  | .lsl id off len => guardB (inRange i len) (k (.loc id (off + i.toNat * n)))
  | .osl xs => opt (slAt xs i) fun c => typedC P e c fun c => guardB (Nat.beq c.cells.length n) (k (.cv (.view c.cells)))
  | .cv _ => match h.outer with
   | false => opt (getSl x) fun xs => opt (slAt xs i) fun c => typedC P e c fun c => guardB (Nat.beq c.cells.length n) (k (.cv (.view c.cells)))
   | true => opt (getMsl x) fun q => guardB (inRange i q.2.2.2) (k (.cv (.ref q.1 q.2.1 (q.2.2.1 + i.toNat * n))))
  | _ => none
 | some (.array len e) => opt (sizeT P e) fun n => match x with
  | .loc id off => guardB (inRange i len) (k (.loc id (off + i.toNat * n)))
  | .cv _ => match h.outer with
   | false => opt (getView x) fun cs => guardB (inRange i len) (guardB (Nat.ble (i.toNat * n) cs.length) (k (.cv (.view (cs.drop (i.toNat * n))))))
   | true => opt (getRef x) fun q => guardB (inRange i len) (k (.cv (.ref q.1 q.2.1 (q.2.2 + i.toNat * n))))
  | _ => none
 | _ => none
def indexK (t : TypeId) (x : LV) (i : Int) (k : LV → Option α) : Option α :=
 match P.underlying t with
 | some .string => opt (getStr x) fun l => opt (strAt l i) fun b => k (.cv (.v (.int .u8 (b.toNat : Int))))
 | some (.array len e) => match x with
  | .cv _ => opt (getAgg x) fun cs => opt (sizeT P e) fun n => guardB (inRange i len) (opt (takeAgg P e cs (i.toNat * n)) fun c => typedC P e c fun c => k (.cv c))
  | _ => none
 | _ => none
def anyInt : LV → Option Int
 | .cv (.v (.int _ n)) => some n
 | _ => none
def boundK (ev : Operand → LV) (x : Option Operand) (d : Int) (k : Int → Option α) : Option α :=
 match x with
 | none => k d
 | some x => opt (anyInt (ev x)) k
def sliceOK (n : Nat) (a : Int) (xs : List CV) : Bool := match decide (a = 0) with | true => true | false => allSz n xs
def sliceK (t : TypeId) (x : LV) (lo hi : Option Operand) (ev : Operand → LV) (k : LV → Option α) : Option α :=
 match P.underlying t with
 | some .string => opt (getStr x) fun l => boundK ev lo 0 fun a => boundK ev hi (l.length : Int) fun b => opt (cutA l a b) fun r => k (.cv (.v (.string ⟨⟨r⟩⟩)))
 | some (.slice e) => opt (sizeT P e) fun n => match x with
  | .cv _ => opt (getSl x) fun xs => boundK ev lo 0 fun a => boundK ev hi (xs.length : Int) fun b => guardB (sliceOK n a xs) (opt (cutA xs a b) fun r => k (.cv (.sl r)))
  | .osl xs => boundK ev lo 0 fun a => boundK ev hi (xs.length : Int) fun b => guardB (sliceOK n a xs) (opt (cutA xs a b) fun r => k (.cv (.sl r)))
  | .lsl id off len => boundK ev lo 0 fun a => boundK ev hi (len : Int) fun b =>
   guardB (decide (a = 0) && decide (0 ≤ b) && decide (b ≤ (len : Int))) (k (.lsl id off b.toNat))
  | _ => none
 | _ => none
def chunks (isAgg : Bool) (sz : Nat) : Nat → List CV → List CV
 | 0, _ => []
 | n + 1, cs => (match isAgg with | false => cs.headD .undef | true => .agg (cs.take sz)) :: chunks isAgg sz n (cs.drop sz)
def appOK (sz : Nat) (xs ys : List CV) : Bool := small (xs.length + ys.length) && allSz sz xs && allSz sz ys
def appendK (h : OpHint) (t : TypeId) (xt : Option TypeId) (x y : LV) (s : S) (μ : Mu) (k : LV → S → Mu → Option α) : Option α :=
 match P.underlying t with
 | some (.slice e) => opt (sizeT P e) fun sz => guardB (bytesOK P e) (opt (zeroCells P e) fun z => guardB (Nat.beq z.length sz) (match xt with
  | none => none
  | some xt => opt (getOsl x) fun xs => match P.underlying xt with
   | some .string => opt (getStr y) fun l => guardB (Nat.beq e 5 && (Nat.beq sz 1 && small (xs.length + l.length) && allSz 1 xs)) (k (.osl (xs ++ l.map fun b => .v (.int .u8 (b.toNat : Int)))) s μ)
   | some (.slice _) => opt (getSl y) fun ys => guardB ((Nat.beq e 5 || headOK ys) && appOK sz xs ys) (k (.osl (xs ++ ys)) s μ)
   | _ => none))
 | _ => none
def convertK (h : OpHint) (src dst : TypeId) (x : LV) (s : S) (μ : Mu) (k : LV → S → Mu → Option α) : Option α :=
 match P.underlying dst with
 | some (.int ik) => match P.underlying src with
  | some (.int _) => opt (anyInt x) fun n => k (.cv (.v (.int ik (ik.wrap n)))) s μ
  | _ => none
 | some .string => match P.underlying src with
  | some .string => opt (getStr x) fun l => k (.cv (.v (.string ⟨⟨l⟩⟩))) s μ
  | some (.slice e) => match P.underlying e with
   | some (.int .u8) => match x with
    | .lsl id off len => match lamOb s.lam id with
     | .arr _ cs => guardB (Nat.ble (off + len) cs.length) (opt (byteCells ((cs.drop off).take len)) fun l => k (.cv (.v (.string ⟨⟨l⟩⟩))) s μ)
     | _ => none
    | _ => opt (getSl x) fun xs => opt (byteCells xs) fun l => k (.cv (.v (.string ⟨⟨l⟩⟩))) s μ
   | _ => none
  | _ => none
 | some (.slice e) => match P.underlying src with
  | some .string => match P.underlying e with
   | some (.int .u8) => opt (getStr x) fun l => guardB (small l.length) (match h.arr with
    | true => k (.lsl s.lam.length 0 l.length) { s with lam := s.lam ++ [.arr 1 (l.map fun b => .v (.int .u8 (b.toNat : Int)))] } μ
    | false => k (.cv (.sl (l.map fun b => .v (.int .u8 (b.toNat : Int))))) s μ)
   | _ => none
  | _ => none
 | _ => none
def freezeA (t : Nat) (s : S) : Option S :=
 match s.fr t with
 | .loc i off => match decide (off = 0) with
  | true => match lamOb s.lam i with
   | .cells cs => opt (toCVs cs) fun l => some { s with fr := upd s.fr t (.cv (.view l)), lam := s.lam.set i .dead }
   | _ => none
  | false => none
 | .mloc i => match lamOb s.lam i with
  | .map ks vs => some { s with fr := upd s.fr t (.cv (.mview ks vs)), lam := s.lam.set i .dead }
  | _ => none
 | _ => none
def freezes : List Nat → S → Option S
 | [], s => some s
 | t :: r, s => opt (freezeA t s) fun s => freezes r s
def freezeArr (t : Nat) (e : TypeId) (s : S) : Option S :=
 match s.fr t with
 | .lsl i off len => match decide (off = 0) with
  | true => match lamOb s.lam i with
   | .arr sz cs => opt (sizeT P e) fun n => guardB (Nat.beq sz n) (guardB ((isAggT P e || (Nat.beq n 1 && solids cs)) && Nat.ble (len * n) cs.length) (some { s with fr := upd s.fr t (.cv (.sl (chunks (isAggT P e) n len cs))), lam := s.lam.set i .dead }))
   | _ => none
  | false => none
 | _ => none
def freezeArrs : List (Nat × TypeId) → S → Option S
 | [], s => some s
 | q :: r, s => opt (freezeArr P q.1 q.2 s) fun s => freezeArrs r s
def optE {α β : Type} (x : Option α) (f : α → Option β) (g : Option β) : Option β := match x with | some a => f a | none => g
def keyV (d : TypeDesc) (v : LV) : Option Value :=
 match d with
 | .int k => opt (getInt k v) fun n => some (.int k n)
 | .string => opt (getStr v) fun l => some (.string ⟨⟨l⟩⟩)
 | .bool => opt (getBool v) fun b => some (.bool b)
 | _ => none
def isKeyB : TypeDesc → Value → Bool
 | .bool, .bool _ => true
 | .int k, .int k' _ => decide (k' = k)
 | .string, .string _ => true
 | _, _ => false
def keysOK (d : TypeDesc) : List Value → Bool
 | [] => true
 | x :: r => match isKeyB d x with | true => keysOK d r | false => false
def keyEq : Value → Value → Bool
 | .int _ a, .int _ b => decide (a = b)
 | .string a, .string b => decide (a.data.toList = b.data.toList)
 | .bool a, .bool b => a == b
 | _, _ => false
def keyIdx : List Value → Value → Option Nat
 | [], _ => none
 | x :: r, k => match keyEq k x with | true => some 0 | false => opt (keyIdx r k) fun n => some (n + 1)
def mapFind : List Value → List CV → Value → Option CV
 | x :: ks, c :: vs, k => match keyEq k x with | true => some c | false => mapFind ks vs k
 | _, _, _ => none
def mapKeys (ks : List Value) (k : Value) : List Value := match keyIdx ks k with | some _ => ks | none => ks ++ [k]
def mapVals (ks : List Value) (vs : List CV) (k : Value) (c : CV) : List CV := match keyIdx ks k with | some i => vs.set i c | none => vs ++ [c]
def zeroCV (P : Program) (t : TypeId) : Option CV :=
 match P.info? t with
 | some i => match i.zero with
  | some z => match z with
   | .agg cs => some (.agg (cs.toList.map .v))
   | x => some (.v x)
  | none => none
 | none => none
def keyOf (P : Program) (t : TypeId) : Option (TypeDesc × TypeId) :=
 match P.underlying t with
 | some (.map k e) => opt (P.underlying k) fun d => some (d, e)
 | _ => none
def mapPutK (t : TypeId) (m x y : LV) (s : S) (μ : Mu) (k : LV → S → Mu → Option α) : Option α :=
 opt (keyOf P t) fun q => opt (keyV q.1 x) fun kv => opt (getCv y) fun c => match m with
  | .mloc i => match lamOb s.lam i with
   | .map ks vs => guardB (keysOK q.1 ks) (k (.cv .undef) { s with lam := s.lam.set i (.map (mapKeys ks kv) (mapVals ks vs kv c)) } μ)
   | _ => none
  | .cv (.mref lev i) => match muOb μ lev i with
   | .map ks vs => guardB (keysOK q.1 ks && below (lev + 1) c) (k (.cv .undef) s (muSet μ lev i (.map (mapKeys ks kv) (mapVals ks vs kv c))))
   | _ => none
  | _ => none
def mapOf (m : LV) (s : S) (μ : Mu) : Option (List Value × List CV) :=
 match m with
 | .cv (.mview ks vs) => some (ks, vs)
 | .cv (.v (.map none)) => some ([], [])
 | .mloc i => match lamOb s.lam i with | .map ks vs => some (ks, vs) | _ => none
 | .cv (.mref lev i) => match muOb μ lev i with | .map ks vs => some (ks, vs) | _ => none
 | _ => none
def mapGetK (t : TypeId) (m x : LV) (ok : Bool) (s : S) (μ : Mu) (k : LV → Option α) : Option α :=
 opt (keyOf P t) fun q => opt (keyV q.1 x) fun kv => opt (mapOf m s μ) fun p => guardB (keysOK q.1 p.1) (
  optE (mapFind p.1 p.2 kv)
   (fun c => typedC P q.2 c fun c => match ok with | true => k (.ltup [.cv c, .cv (.v (.bool true))]) | false => k (.cv c))
   (opt (zeroCV P q.2) fun z => match ok with | true => k (.ltup [.cv z, .cv (.v (.bool false))]) | false => k (.cv z)))
def assertK (x : LV) (t : TypeId) (ok : Bool) (k : LV → Option α) : Option α :=
 match P.underlying t with
 | some (.interface _) => none
 | some _ => match ok with
  | false => none
  | true => opt (zeroCV P t) fun z => match x with
   | .cv (.iface u c) => match Nat.beq u t with
    | true => k (.ltup [.cv c, .cv (.v (.bool true))])
    | false => k (.ltup [.cv z, .cv (.v (.bool false))])
   | .cv (.v .nilIface) => k (.ltup [.cv z, .cv (.v (.bool false))])
   | _ => none
 | none => none
def enterK (h : OpHint) (t : TypeId) (f : FuncId) (args : List LV) (s : S) (μ : Mu) (k : LV → S → Mu → Option α) (p : CV → S → Mu → Option α) : Option α :=
 match h.push with
 | false => guardB (!s.pushed && plainArgs args) (
   callK (ρ.call f args μ) (fun v μ => typedK P h.own t v fun v => k v s μ) (fun v μ => p v s μ))
 | true => opt (toOuters μ.length args) fun args => opt (outerLam μ.length s.lam) fun l =>
   callK (ρ.call f args (μ ++ [l])) (fun v μ => opt (popMu μ) fun q => typedK P h.own t v fun v => k v { s with lam := q.2, pushed := true } q.1)
    (fun v μ => opt (popMu μ) fun q => p v { s with lam := q.2, pushed := true } q.1)
def memO (t : Nat) : List Operand → Bool
 | [] => false
 | .tmp u :: r => match Nat.beq u t with | true => true | false => memO t r
 | _ :: r => memO t r
def distinctT : List Operand → Bool
 | [] => true
 | .tmp t :: r => match memO t r with | true => false | false => distinctT r
 | _ :: r => distinctT r
def opK1 (h : OpHint) (o : Oper) (s0 : S) (μ : Mu) (k : LV → S → Mu → Option α) (p : CV → S → Mu → Option α) : Option α :=
 let ev := evA h s0.fr
 let s := stripSlots h.take s0
 match o.op with
 | .move x => k (ev x) s μ
 | .assign x => k (ev x) s μ
 | .pick c a b => opt (getBool (ev c)) fun t => k (pickA t (ev a) (ev b)) s μ
 | .alloc e => opt (zeroCells P e) fun cs => k (allocV h.cell s.lam.length e cs.length) { s with lam := s.lam ++ [.cells (cs.map .cv)] } μ
 | .box e x => opt (ev x).cells fun cs => k (.loc s.lam.length 0) { s with lam := s.lam ++ [.cells cs] } μ
 | .build t parts => opt (partsCV ev parts.toList) fun ps => opt (buildA P t ps) fun c => k (.cv c) s μ
 | .buildSlice t len parts => match P.underlying t with
  | some (.slice e) => opt (sizeT P e) fun sz => guardB (bytesOK P e) (opt (zeroCells P e) fun _ => opt (partsCV ev parts.toList) fun ps => opt (litA sz 0 ps) fun xs =>
   guardB (Nat.beq xs.length len) (guardB ((Nat.beq e 5 || headOK xs) && Nat.ble (len * sz) 10000) (match h.arr with
   | false => k (.osl xs) s μ
   | true => k (.lsl s.lam.length 0 len) { s with lam := s.lam ++ [.arr sz (xs.flatMap CV.cells)] } μ)))
  | _ => none
 | .load t a => loadK P h t (ev a) s μ k
 | .store t a v => storeK P h t (ev a) (ev v) s μ k
 | .nilCheck x => opt (isNilA (ev x)) fun b => guardB (!b) (k (untype (ev x)) s μ)
 | .binOp op t x y _ => binK P op t x y (ev x) (ev y) fun c => k (.cv c) s μ
 | .unOp op _ x => opt (unA op (ev x)) fun c => k (.cv c) s μ
 | .convert src dst x => convertK P h src dst (ev x) s μ k
 | .makeInterface t x => match P.underlying t with
  | some (.interface _) => none
  | some _ => opt (getCv (ev x)) fun c => k (.cv (.iface t c)) s μ
  | none => none
 | .makeFunc fn first captured => match fn with
  | .func f => match first.toList with
   | [] => k (.lclo f (captured.toList.map fun x => strip1 (ev x))) s μ
   | _ :: _ => none
  | _ => none
 | .slice t x lo hi mx => match mx with
  | none => sliceK P t (ev x) lo hi ev fun v => k v s μ
  | some _ => none
 | .fieldAddr t x f => fieldAddrK P h t (ev x) f fun v => k v s μ
 | .field t x f => opt (fieldA P t (ev x) f) fun v => k v s μ
 | .indexAddr t x i => opt (anyInt (ev i)) fun i => indexAddrK P h t (ev x) i fun v => k v s μ
 | .index t x i => opt (anyInt (ev i)) fun i => indexK P t (ev x) i fun v => k v s μ
 | .extract t i => opt (getTup (ev t)) fun xs => opt (xs[i]?) fun v => k v s μ
 | .panic x => match ev x with
  | .cv (.iface t c) => p (.iface t c) s μ
  | _ => none
 | .typeAssert x _ t ok => assertK P (ev x) t ok fun v => k v s μ
 | .makeMap _ r => match r with
  | some _ => none
  | none => k (.mloc s.lam.length) { s with lam := s.lam ++ [.map [] []] } μ
 | .insert t m x y => mapPutK P t (ev m) (ev x) (ev y) s μ k
 | .mapUpdate t m x y => mapPutK P t (ev m) (ev x) (ev y) s μ k
 | .lookup t m x ok => mapGetK P t (ev m) (ev x) ok s μ fun v => k v s μ
 | .call c => match c.callee with
  | .builtin b => match b with
   | .len => match c.args.toList, c.argTypes.toList with
    | [x], [t] => opt (lenA P t (ev x)) fun n => k (.cv (.v (.int .i64 n))) s μ
    | _, _ => none
   | .append => match c.args.toList, c.argTypes.toList with
    | [x, y], [t, xt] => appendK P h t (some xt) (ev x) (ev y) s μ k
    | _, _ => none
   | .max => match c.args.toList with
    | [x, y] => opt (getInt .i64 (ev x)) fun a => opt (getInt .i64 (ev y)) fun b => k (.cv (.v (.int .i64 (max a b)))) s μ
    | _ => none
   | .min => match c.args.toList with
    | [x, y] => opt (getInt .i64 (ev x)) fun a => opt (getInt .i64 (ev y)) fun b => k (.cv (.v (.int .i64 (min a b)))) s μ
    | _ => none
   | _ => none
  | .value f => guardB (distinctT c.args.toList) (match ev f with
   | .cv (.clo f caps) => enterK P ρ h o.type f (c.args.toList.map ev ++ caps.map .cv) s μ k p
   | .lclo f caps => enterK P ρ h o.type f (c.args.toList.map ev ++ caps) s μ k p
   | _ => none)
  | .invoke _ _ => none
 | _ => none
def opK (h : OpHint) (o : Oper) (s : S) (μ : Mu) (k : LV → S → Mu → Option α) (p : CV → S → Mu → Option α) : Option α :=
 opt (freezes h.freeze s) fun s => opt (freezeArrs P h.fza s) fun s => opK1 P ρ h o s μ k p
def hintGo (r i : Nat) : List ((Nat × Nat) × OpHint) → OpHint
 | [] => {}
 | q :: l => match Nat.beq q.1.1 r && Nat.beq q.1.2 i with | true => q.2 | false => hintGo r i l
def Hints.op (H : Hints) (r i : Nat) : OpHint := hintGo r i H.ops
def dstOf (ops : Array Oper) (j : Nat) : Option Nat := match ops[j]? with | some o => o.dst | none => none
def getGuard : LV → Option (Option Bool)
 | .cv (.v (.bool b)) => some (some b)
 | .cv (.v (.tuple _)) => some none
 | _ => none
def opsK (H : Hints) (r : Nat) (ops : Array Oper) : List Nat → S → Mu → (S → Mu → Option α) → (CV → S → Mu → Option α) → Option α
 | [], s, μ, k, _ => k s μ
 | i :: rest, s, μ, k, p => match ops[i]? with
  | none => none
  | some o => match o.guard with
   | none => opK P ρ (H.op r i) o s μ (fun v s μ => opsK H r ops rest (s.put o.dst v) μ k p) p
   | some g => opt (dstOf ops g.1) fun d => opt (getGuard (s.fr d)) fun q => match q with
    | none => opsK H r ops rest (s.put o.dst (.cv (.v Go.undef))) μ k p
    | some b => cond b
     (match g.2 with
     | true => opK P ρ (H.op r i) o (s.set d (.cv (.v (.bool true)))) μ (fun v s μ => opsK H r ops rest (s.put o.dst v) μ k p) p
     | false => opsK H r ops rest ((s.set d (.cv (.v (.bool true)))).put o.dst (.cv (.v Go.undef))) μ k p)
     (match g.2 with
     | false => opK P ρ (H.op r i) o (s.set d (.cv (.v (.bool false)))) μ (fun v s μ => opsK H r ops rest (s.put o.dst v) μ k p) p
     | true => opsK H r ops rest ((s.set d (.cv (.v (.bool false)))).put o.dst (.cv (.v Go.undef))) μ k p)
inductive Kind where
 | plain
 | rd
 | wr
 | ap
 | look
 | ou
 | all
def kindOf (h : OpHint) (o : Oper) : Kind :=
 match o.op with
 | .load _ _ => match h.outer with
  | true => match h.cell with | true => .ou | false => .look
  | false => match h.cell with | true => .wr | false => .rd
 | .store _ _ _ => match h.outer with | true => .ou | false => .wr
 | .alloc _ => .ap
 | .box _ _ => .ap
 | .buildSlice _ _ _ => match h.arr with | true => .ap | false => .plain
 | .convert _ _ _ => match h.arr with | true => .all | false => .rd
 | .call c => match c.callee with
  | .builtin _ => .plain
  | _ => match h.push with | true => .all | false => .ou
 | .panic _ => .all
 | .typeAssert _ _ _ _ => .all
 | .makeMap _ _ => .all
 | .insert _ _ _ _ => .all
 | .mapUpdate _ _ _ _ => .all
 | .lookup _ _ _ _ => .all
 | _ => .plain
def mayAhead : Kind → Kind → Bool
 | .all, _ => false
 | _, .all => false
 | .plain, _ => true
 | _, .plain => true
 | .rd, .rd => true
 | .rd, .ap => true
 | .rd, .ou => true
 | .ou, .rd => true
 | .wr, .ou => true
 | .ou, .wr => true
 | .ap, .ou => true
 | .ou, .ap => true
 | .look, .look => true
 | .look, .rd => true
 | .rd, .look => true
 | .look, .wr => true
 | .wr, .look => true
 | .look, .ap => true
 | .ap, .look => true
 | _, _ => false
def noFreeze (h : OpHint) : Bool := match h.freeze, h.fza with | [], [] => true | _, _ => false
def writesR (h : OpHint) (o : Oper) : List Nat := match o.dst with | some d => d :: h.take | none => h.take
def disj : List Nat → List Nat → Bool
 | [], _ => true
 | a :: r, l => match memN l a with | true => false | false => disj r l
def indep (H : Hints) (r : Nat) (ops : Array Oper) (j i : Nat) : Bool :=
 match ops[j]?, ops[i]? with
 | some x, some y => disj (writesR (H.op r j) x) (y.looksAt ops) && disj (writesR (H.op r j) x) (writesR (H.op r i) y) && disj (writesR (H.op r i) y) (x.looksAt ops) &&
  mayAhead (kindOf (H.op r j) x) (kindOf (H.op r i) y)
 | _, _ => false
def predsOf (ops : Array Oper) (i : Nat) : List Nat :=
 match ops[i]? with
 | some o => (o.after.toList.filter (Region.binds .any)).map fun e => e.on
 | none => []
def rowOf (rows : List (List Nat)) : List Nat → List Nat
 | [] => []
 | p :: r => p :: (rows.getD p [] ++ rowOf rows r)
def ancRows (ops : Array Oper) : Nat → List (List Nat)
 | 0 => []
 | n + 1 => ancRows ops n ++ [rowOf (ancRows ops n) (predsOf ops n)]
def allB (f : Nat → Bool) : Nat → Bool
 | 0 => true
 | n + 1 => match f n with | true => allB f n | false => false
def ltB (i : Nat) : List Nat → Bool
 | [] => true
 | p :: r => match Nat.blt p i with | true => ltB i r | false => false
def drawOK (H : Hints) (r : Nat) (ops : Array Oper) : Bool :=
 allB (fun i => ltB i (predsOf ops i) && noFreeze (H.op r i) && allB (fun j => memN ((ancRows ops ops.size).getD i []) j || indep H r ops j i) i) ops.size
end
mutual
def locsOf : LV → List Nat
 | .loc i _ => [i]
 | .lsl i _ _ => [i]
 | .mloc i => [i]
 | .tloc i _ _ => [i]
 | .lclo _ caps => locsOfL caps
 | .ltup xs => locsOfL xs
 | .cv _ => []
 | .osl _ => []
def locsOfL : List LV → List Nat
 | [] => []
 | x :: r => locsOf x ++ locsOfL r
end
def reach (l : Lam) : Nat → List Nat → List Nat → List Nat
 | 0, _, acc => acc
 | _ + 1, [], acc => acc
 | n + 1, i :: todo, acc => match memN acc i with
  | true => reach l n todo acc
  | false => match lamOb l i with
   | .cells cs => reach l n (locsOfL cs ++ todo) (acc ++ [i])
   | _ => reach l n todo (acc ++ [i])
def idxOf : List Nat → Nat → Nat → Option Nat
 | [], _, _ => none
 | a :: r, n, i => match Nat.beq a i with | true => some n | false => idxOf r (n + 1) i
mutual
def rename (m : List Nat) : LV → Option LV
 | .cv c => some (.cv c)
 | .osl xs => some (.osl xs)
 | .loc i off => opt (idxOf m 0 i) fun j => some (.loc j off)
 | .lsl i off len => opt (idxOf m 0 i) fun j => some (.lsl j off len)
 | .mloc i => opt (idxOf m 0 i) fun j => some (.mloc j)
 | .tloc i t n => opt (idxOf m 0 i) fun j => some (.tloc j t n)
 | .lclo f caps => opt (renames m caps) fun l => some (.lclo f l)
 | .ltup xs => opt (renames m xs) fun l => some (.ltup l)
def renames (m : List Nat) : List LV → Option (List LV)
 | [] => some []
 | x :: r => opt (rename m x) fun y => opt (renames m r) fun l => some (y :: l)
end
def renameObs (m : List Nat) : List Ob → Option (List Ob)
 | [] => some []
 | .dead :: r => opt (renameObs m r) fun l => some (.dead :: l)
 | .arr sz cs :: r => opt (renameObs m r) fun l => some (.arr sz cs :: l)
 | .map ks vs :: r => opt (renameObs m r) fun l => some (.map ks vs :: l)
 | .cells cs :: r => opt (renames m cs) fun cs => opt (renameObs m r) fun l => some (.cells cs :: l)
def zipFr : List Nat → List LV → List (Nat × LV)
 | t :: ts, v :: vs => (t, v) :: zipFr ts vs
 | _, _ => []
def liveA (m : Nat) (v : LV) : Option LV :=
 match m with
 | 0 => some (strip v)
 | 1 => opt (getOsl v) fun xs => some (.osl xs)
 | _ => opt (getSl v) fun xs => some (.cv (.sl xs))
def livesA (fr : Fr) : List (Nat × Nat) → Option (List LV)
 | [] => some []
 | q :: r => opt (liveA q.2 (fr q.1)) fun v => opt (livesA fr r) fun l => some (v :: l)
def maskK {α : Type} (live : List (Nat × Nat)) (s : S) (k : S → Option α) : Option α :=
 opt (livesA s.fr live) fun vs =>
 match s.pushed with
 | true => k { s with fr := mkFr (zipFr (live.map Prod.fst) vs) }
 | false =>
  let m := reach s.lam 1000 (locsOfL vs) []
  opt (renames m vs) fun vs => opt (renameObs m (m.map (lamOb s.lam))) fun l => k { fr := mkFr (zipFr (live.map Prod.fst) vs), lam := l, pushed := false }
def underC (L m : Nat) : CV → Bool
 | .ref lev i _ => match Nat.blt lev L with | true => true | false => Nat.blt i m
 | .tref lev i _ _ => match Nat.blt lev L with | true => true | false => Nat.blt i m
 | c => below L c
mutual
def underV (L m : Nat) : LV → Bool
 | .cv c => underC L m c
 | .osl xs => belowL L xs
 | .loc i _ => Nat.blt i m
 | .lsl i _ _ => Nat.blt i m
 | .mloc i => Nat.blt i m
 | .tloc i _ _ => Nat.blt i m
 | .lclo _ caps => underL L m caps
 | .ltup _ => false
def underL (L m : Nat) : List LV → Bool
 | [] => true
 | x :: r => match underV L m x with | true => underL L m r | false => false
end
def underOb (L m : Nat) : Ob → Bool
 | .cells cs => underL L m cs
 | .arr _ cs => belowL L cs
 | .map _ vs => belowL L vs
 | .dead => true
def underObs (L m : Nat) : List Ob → Bool
 | [] => true
 | x :: r => match underOb L m x with | true => underObs L m r | false => false
def keepGo : List (Nat × Nat) → Option Nat
 | [] => none
 | q :: r => match Nat.ble 1000000 q.1 with | true => some (q.1 - 1000000) | false => keepGo r
def slotsOf (fr : Fr) : List (Nat × Nat) → List (Nat × LV)
 | [] => []
 | q :: r => (q.1, fr q.1) :: slotsOf fr r
def valsOf : List (Nat × LV) → List LV
 | [] => []
 | q :: r => q.2 :: valsOf r
def truncK {α : Type} (L : Nat) (live : List (Nat × Nat)) (s : S) (k : S → Option α) : Option α :=
 match keepGo live with
 | none => k s
 | some m => guardB (s.pushed && Nat.ble m s.lam.length && underL L m (valsOf (slotsOf s.fr live)) && underObs L m (s.lam.take m)) (k { fr := mkFr (slotsOf s.fr live), lam := s.lam.take m, pushed := true })
def cellN {α : Type} (m : Nat) (v : LV) (k : LV → Option α) : Option α :=
 match m with
 | 0 => k v
 | 1 => opt (getOsl v) fun xs => k (.osl xs)
 | 3 => opt (getCv v) fun c => k (.cv c)
 | _ => opt (getSl v) fun xs => k (.cv (.sl xs))
def cellsN {α : Type} : List Nat → List LV → (List LV → Option α) → Option α
 | [], cs, k => k cs
 | m :: ms, c :: cs, k => cellN m c fun c => cellsN ms cs fun r => k (c :: r)
 | _ :: _, [], _ => none
def obsK {α : Type} : List (Nat × List Nat) → S → (S → Option α) → Option α
 | [], s, k => k s
 | q :: r, s, k => match Nat.beq q.1 1000000 with
  | true => obsK r { s with pushed := true } k
  | false => match lamOb s.lam q.1 with
   | .cells cs => cellsN q.2 cs fun cs => obsK r { s with lam := s.lam.set q.1 (.cells cs) } k
   | _ => none
def objGo (r : Nat) : List (Nat × List (Nat × List Nat)) → List (Nat × List Nat)
 | [] => []
 | q :: l => match Nat.beq q.1 r with | true => q.2 | false => objGo r l
def firstRegion : Code → Nat
 | .region id _ _ => id
 | .seq a b => match firstRegion a with | 0 => firstRegion b | n + 1 => n + 1
 | .cond _ a b => match firstRegion a with | 0 => firstRegion b | n + 1 => n + 1
 | .block _ c => firstRegion c
 | .loop c => firstRegion c
 | _ => 0
def liveGo (r : Nat) : List (Nat × List (Nat × Nat) × List (Nat × Nat)) → List (Nat × Nat) × List (Nat × Nat)
 | [] => ([], [])
 | q :: l => match Nat.beq q.1 r with | true => q.2 | false => liveGo r l
def cutGo (r : Nat) : List (Nat × List (Nat × Nat) × List (Nat × Nat)) → Option (List (Nat × Nat) × List (Nat × Nat))
 | [] => none
 | q :: l => match Nat.beq q.1 r with | true => some q.2 | false => cutGo r l
def Hints.lives (H : Hints) (r : Nat) : List (Nat × Nat) × List (Nat × Nat) := liveGo r H.live
def dstOK (n : Nat) (kp : Option Nat) (d : Nat) : Bool :=
 match Nat.blt d n with
 | true => match kp with | some t => !Nat.beq d t | none => true
 | false => false
def opsDst (n : Nat) (kp : Option Nat) : List Oper → Bool
 | [] => true
 | o :: r => match o.dst with
  | none => opsDst n kp r
  | some d => match dstOK n kp d with | true => opsDst n kp r | false => false
def codeOK (n : Nat) (kp : Option Nat) : Code → Bool
 | .region _ ops _ => opsDst n kp ops.toList
 | .seq a b => match codeOK n kp a with | true => codeOK n kp b | false => false
 | .cond _ x y => match codeOK n kp x with | true => codeOK n kp y | false => false
 | .block _ c => codeOK n kp c
 | .loop c => codeOK n kp c
 | _ => true
def execK (P : Program) (ρ : Rho) (H : Hints) {α : Type} : Code → S → Mu → (St → Option α) → Option α
 | .skip, s, μ, k => k (.norm s μ)
 | .region id ops draw, s, μ, k => match draw with
  | false => opsK P ρ H id ops (List.range ops.size) s μ (fun s μ => k (.norm s μ)) fun v s μ => k (.panic v s μ)
  | true => guardB (drawOK H id ops) (opsK P ρ H id ops (List.range ops.size) s μ (fun s μ => k (.norm s μ)) fun _ _ _ => none)
 | .seq a b, s, μ, k => execK P ρ H a s μ fun st => match st with
  | .norm s μ => match cutGo (firstRegion b) H.cuts with
   | none => execK P ρ H b s μ k
   | some lv => obsK (objGo (firstRegion b) H.objs) s fun s => maskK lv.1 s fun s => truncK μ.length lv.1 s fun s => opt (ρ.seg H lv.2 b s μ) k
  | .exit i s μ => k (.exit i s μ)
  | .ret s μ => k (.ret s μ)
  | .panic v s μ => k (.panic v s μ)
 | .cond c x y, s, μ, k => opt (getBool (evA {} s.fr c)) fun b => cond b (execK P ρ H x s μ k) (execK P ρ H y s μ k)
 | .block id c, s, μ, k => execK P ρ H c s μ fun st => match st with
  | .exit i s μ => match Nat.beq i id with | true => k (.norm s μ) | false => k (.exit i s μ)
  | .norm s μ => k (.norm s μ)
  | .ret s μ => k (.ret s μ)
  | .panic v s μ => k (.panic v s μ)
 | .loop c, s, μ, k => obsK (objGo (firstRegion c) H.objs) s fun s => maskK (H.lives (firstRegion c)).1 s fun s => truncK μ.length (H.lives (firstRegion c)).1 s fun s => opt (ρ.loop H (H.lives (firstRegion c)).2 c s μ) k
 | .exit id, s, μ, k => k (.exit id s μ)
 | .ret, s, μ, k => k (.ret s μ)
 | _, _, _, _ => none
def roundK (P : Program) (ρ : Rho) (H : Hints) (lv : List (Nat × Nat)) (c : Code) (s : S) (μ : Mu) : Option St :=
 execK P ρ H c s μ fun st => match st with
  | .norm s μ => obsK (objGo (firstRegion c) H.objs) s fun s => maskK (H.lives (firstRegion c)).1 s fun s => truncK μ.length (H.lives (firstRegion c)).1 s fun s => ρ.loop H lv c s μ
  | .exit i s μ => maskK lv s fun s => some (.exit i s μ)
  | .ret s μ => maskK H.res s fun s => some (.ret s μ)
  | .panic v s μ => maskK H.pan s fun s => some (.panic v s μ)
def segK (P : Program) (ρ : Rho) (H : Hints) (lv : List (Nat × Nat)) (c : Code) (s : S) (μ : Mu) : Option St :=
 execK P ρ H c s μ fun st => match st with
  | .norm s μ => maskK lv s fun s => some (.norm s μ)
  | .exit i s μ => maskK lv s fun s => some (.exit i s μ)
  | .ret s μ => maskK H.res s fun s => some (.ret s μ)
  | .panic v s μ => maskK H.pan s fun s => some (.panic v s μ)
def frameOf : Nat → List LV → List (Nat × LV)
 | _, [] => []
 | n, v :: r => (n, v) :: frameOf (n + 1) r
def resV (P : Program) (s : S) : ResultVar → Option LV
 | .tmp t => some (s.fr t)
 | .cell a t => match s.fr a with
  | .loc i off => obRead P t (lamOb s.lam i) off
  | _ => none
def resVs (P : Program) (s : S) : List ResultVar → Option (List LV)
 | [] => some []
 | x :: r => opt (resV P s x) fun v => opt (resVs P s r) fun l => some (v :: l)
def resultA (vs : List LV) : LV :=
 match vs with
 | [v] => v
 | vs => .ltup (vs.map strip1)
def finishK (P : Program) (rs : List ResultVar) (s : S) (μ : Mu) : Option Out :=
 opt (resVs P s rs) fun vs =>
 let v := resultA vs
 guardB (flatRes v) (match s.pushed with
  | false => some (.ret v μ)
  | true => guardB (belowRes μ.length v) (some (.ret v μ)))
def bodyK (P : Program) (ρ : Rho) (H : Hints) (fn : Func) (c : Code) (args : List LV) (μ : Mu) : Option Out :=
 guardB (Nat.ble args.length fn.ntmps && codeOK fn.ntmps none c && !(fn.name == "runtime.NumGoroutine")) (
 execK P ρ H c { fr := mkFr (frameOf 0 args), lam := [], pushed := false } μ fun st => match st with
  | .norm s μ => finishK P fn.results.toList s μ
  | .ret s μ => finishK P fn.results.toList s μ
  | .panic v _ μ => guardB (below μ.length v) (some (.panic v μ))
  | .exit _ _ _ => none)
def deferK {α : Type} (ρ : Rho) (t : Nat) (pv : Option CV) (s : S) (μ : Mu) (k : S → Mu → Option α) : Option α :=
 match s.fr t with
 | .lclo f caps => opt (toOuters μ.length caps) fun args => opt (outerLam μ.length s.lam) fun l =>
   opt (ρ.dcall f pv args (μ ++ [l])) fun μ2 => opt (popMu μ2) fun q => k { s with lam := q.2, pushed := true } q.1
 | _ => none
def endD (P : Program) (ρ : Rho) (t : Nat) (rs : List ResultVar) (st : St) : Option Out :=
 match st with
 | .norm s μ => deferK ρ t none s μ fun s μ => finishK P rs s μ
 | .ret s μ => deferK ρ t none s μ fun s μ => finishK P rs s μ
 | .panic v s μ => deferK ρ t (some v) s μ fun s μ => finishK P rs s μ
 | .exit _ _ _ => none
def isClo : LV → Bool
 | .lclo _ _ => true
 | _ => false
def isDefer (t : Nat) (o : Oper) : Bool :=
 match o.guard, o.dst, o.op with
 | none, none, .defer c => match c.callee with
  | .value (.tmp u) => match c.args.toList with | [] => Nat.beq u t | _ => false
  | _ => false
 | _, _, _ => false
def bodyDK (P : Program) (ρ : Rho) (H : Hints) (fn : Func) (c : Code) (t : Nat) (args : List LV) (μ : Mu) : Option Out :=
 match c with
 | .seq a (.seq (.region id ops draw) b) => match draw with
  | true => none
  | false => match ops[ops.size - 1]? with
   | none => none
   | some o => guardB (Nat.ble args.length fn.ntmps && codeOK fn.ntmps none a && opsDst fn.ntmps none ops.toList && codeOK fn.ntmps (some t) b && !(fn.name == "runtime.NumGoroutine") && isDefer t o) (
    execK P ρ H a { fr := mkFr (frameOf 0 args), lam := [], pushed := false } μ fun st => match st with
     | .norm s μ => opsK P ρ H id ops (List.range (ops.size - 1)) s μ (fun s μ => guardB (isClo (s.fr t)) (execK P ρ H b s μ (endD P ρ t fn.results.toList))) (fun _ _ _ => none)
     | _ => none)
 | _ => none
def isRecover (o : Oper) : Bool :=
 match o.guard, o.op with
 | none, .call c => match c.callee with | .builtin .recover => true | _ => false
 | _, _ => false
def recV (pv : Option CV) : LV := match pv with | some v => .cv v | none => .cv (.v .nilIface)
def dbodyK (P : Program) (ρ : Rho) (H : Hints) (fn : Func) (c : Code) (pv : Option CV) (args : List LV) (μ : Mu) : Option Mu :=
 match c with
 | .seq (.region id ops draw) b => match draw with
  | true => none
  | false => match ops[0]? with
   | none => none
   | some o => guardB (Nat.ble args.length fn.ntmps && opsDst fn.ntmps none ops.toList && codeOK fn.ntmps none b && !(fn.name == "runtime.NumGoroutine") && isRecover o && fn.results.isEmpty) (
    opsK P ρ H id ops (List.range' 1 (ops.size - 1)) (S.put { fr := mkFr (frameOf 0 args), lam := [], pushed := false } o.dst (recV pv)) μ
     (fun s μ => execK P ρ H b s μ fun st => match st with
      | .norm s μ => some μ
      | .ret s μ => some μ
      | _ => none) (fun _ _ _ => none))
 | _ => none
structure Env where
 P : Program
 hints : FuncId → Hints
 prim : FuncId → Option (List LV → Mu → Option Out)
def callStep (E : Env) (ρ : Rho) (f : FuncId) (args : List LV) (μ : Mu) : Option Out :=
 match E.prim f with
 | some g => g args μ
 | none => match E.P.funcs[f]? with
  | some fn => match fn.body with
   | some c => match (E.hints f).dfr with
    | none => bodyK E.P ρ (E.hints f) fn c args μ
    | some t => bodyDK E.P ρ (E.hints f) fn c t args μ
   | none => none
  | none => none
def dcallStep (E : Env) (ρ : Rho) (f : FuncId) (pv : Option CV) (args : List LV) (μ : Mu) : Option Mu :=
 match E.P.funcs[f]? with
 | some fn => match fn.body with
  | some c => dbodyK E.P ρ (E.hints f) fn c pv args μ
  | none => none
 | none => none
def evn (E : Env) : Nat → Rho
 | 0 => { call := fun _ _ _ => none, loop := fun _ _ _ _ _ => none, seg := fun _ _ _ _ _ => none, dcall := fun _ _ _ _ => none }
 | n + 1 => { call := callStep E (evn E n), loop := fun H lv c s μ => roundK E.P (evn E n) H lv c s μ, seg := fun H lv c s μ => segK E.P (evn E n) H lv c s μ, dcall := dcallStep E (evn E n) }
end Go.Abs

set_option linter.unusedVariables false
namespace Go.Abs
open Go
structure Gh where
 O : Nat → Nat
 β : Nat → Nat → Nat
 n : Nat → Nat
 sz : Nat → Nat → Nat
section
variable (G : Gh) (w : World)
mutual
def VR : CV → Value → Prop
 | .undef, _ => True
 | .v x, c => c = x
 | .agg cs, c => ∃ vs : Array Value, c = .agg vs ∧ VRL cs vs.toList
 | .sl xs, c => ∃ A len cap, c = .slice A len cap ∧ len = xs.length ∧ len ≤ cap ∧ (len = 0 ∨ ∃ b off s, A = some ⟨b, off, none⟩ ∧ (∀ x ∈ xs, x.cells.length = s) ∧ EL b s off xs)
 | .view cs, c => ∃ b off, c = .pointer (some ⟨b, off, none⟩) ∧ CL b off cs
 | .ref lev i off, c => i < G.n lev ∧ c = .pointer (some ⟨G.β lev i, off, none⟩)
 | .msl lev i off len, c => i < G.n lev ∧ ∃ cap cur e fz, c = .slice (some ⟨G.β lev i, off, none⟩) len cap ∧ len ≤ cap ∧ w.heap[G.β lev i]? = some (.cells cur e fz) ∧ off + cap * G.sz lev i ≤ cur.size
 | .clo f caps, c => ∃ vs : Array Value, c = .func (.func f) #[] vs ∧ VRL caps vs.toList
 | .iface t x, c => ∃ v, c = .iface t v ∧ VR x v
 | .mview ks vs, c => ∃ r es clk, c = .map (some r) ∧ w.heap[r]? = some (.map es clk) ∧ 0 < G.O r ∧ es.toList.map MapEntry.key = ks ∧ VRL vs (es.toList.map MapEntry.val)
 | .mref lev i, c => i < G.n lev ∧ c = .map (some (G.β lev i))
 | .tref lev i t n, c => i < G.n lev ∧ c = .pointer (some ⟨G.β lev i, 0, none⟩) ∧ ∃ cur fz, w.heap[G.β lev i]? = some (.cells cur t fz) ∧ cur.size = n
def VRL : List CV → List Value → Prop
 | [], vs => vs = []
 | c :: cs, vs => ∃ v r, vs = v :: r ∧ VR c v ∧ VRL cs r
def CL (b : Nat) : Nat → List CV → Prop
 | _, [] => True
 | off, c :: r => (∃ v, w.cell? ⟨b, off, none⟩ = some v ∧ off < G.O b ∧ VR c v) ∧ CL b (off + 1) r
def EL (b s : Nat) : Nat → List CV → Prop
 | _, [] => True
 | off, x :: r => (match x with
  | .agg cs => CL b off cs
  | c => ∃ v, w.cell? ⟨b, off, none⟩ = some v ∧ off < G.O b ∧ VR c v) ∧ EL b s (off + s) r
end
end
def Owned (G : Gh) (w : World) (xs : List CV) (v : Value) : Prop :=
 (xs = [] ∧ v = .slice none 0 0) ∨
 ∃ b cap cur e s, v = .slice (some ⟨b, 0, none⟩) xs.length cap ∧ w.heap[b]? = some (.cells cur e (0, 0)) ∧ xs.length ≤ cap ∧ cap ≤ maxLen ∧
  cap * s ≤ cur.size ∧ (∀ x ∈ xs, x.cells.length = s) ∧ (xs = [] → cap = 0) ∧ EL G w b s 0 xs ∧ G.O b = xs.length * s ∧ ((byteCells xs).isSome = true → xs ≠ [] → e = 5)
theorem clause_of {e : TypeId} {xs : List CV} (h : (Nat.beq e 5 || headOK xs) = true) : (byteCells xs).isSome = true → xs ≠ [] → e = 5 := by
 intro hb hne
 rw [Bool.or_eq_true] at h
 rcases h with h | h
 ·exact Nat.eq_of_beq_eq_true h
 ·exfalso
  cases xs with
  | nil => exact hne rfl
  | cons y r =>
   simp only [headOK] at h
   unfold noB at h
   split at h
   ·cases h
   ·rename_i hy
    unfold byteCells at hb
    split at hb
    ·rename_i heq; cases heq
    ·rename_i n r' heq
     injection heq with h1 h2
     exact hy n h1
    ·simp at hb
theorem byteCells_pre : ∀ (xs ys : List CV), (byteCells (xs ++ ys)).isSome = true → (byteCells xs).isSome = true
 | [], ys, _ => rfl
 | y :: r, ys, h => by
  rw [List.cons_append] at h
  unfold byteCells at h ⊢
  split at h
  ·rename_i heq; cases heq
  ·rename_i n r' heq
   injection heq with h1 h2
   subst h1 h2
   simp only
   split at h
   ·have : (byteCells (r ++ ys)).isSome = true := by
     cases hx : byteCells (r ++ ys) with
     | none => rw [hx] at h; simp [opt] at h
     | some l => rfl
    have := byteCells_pre r ys this
    cases hx : byteCells r with
    | none => rw [hx] at this; cases this
    | some l => rfl
   ·cases h
  ·simp at h
theorem byteCells_suf : ∀ (xs ys : List CV), (byteCells (xs ++ ys)).isSome = true → (byteCells ys).isSome = true
 | [], ys, h => h
 | y :: r, ys, h => by
  rw [List.cons_append] at h
  unfold byteCells at h
  split at h
  ·rename_i heq; cases heq
  ·rename_i n r' heq
   injection heq with h1 h2
   subst h2
   split at h
   ·refine byteCells_suf r ys ?_
    cases hx : byteCells (r ++ ys) with
    | none => rw [hx] at h; simp [opt] at h
    | some l => rfl
   ·cases h
  ·simp at h
theorem clause_grow {e : TypeId} {xs ys : List CV} (h : (Nat.beq e 5 || headOK ys) = true) (hne : ys ≠ []) : (byteCells (xs ++ ys)).isSome = true → xs ++ ys ≠ [] → e = 5 :=
 fun h1 _ => clause_of h (byteCells_suf xs ys h1) hne
mutual
def LVR (G : Gh) (w : World) (L nl : Nat) : LV → Value → Prop
 | .cv c, v => VR G w c v
 | .osl xs, v => Owned G w xs v
 | .loc i off, v => i < nl ∧ v = .pointer (some ⟨G.β L i, off, none⟩)
 | .lsl i off len, v => i < nl ∧ ∃ cap cur e fz, v = .slice (some ⟨G.β L i, off, none⟩) len cap ∧ len ≤ cap ∧ cap ≤ maxLen ∧ w.heap[G.β L i]? = some (.cells cur e fz) ∧ off + cap * G.sz L i ≤ cur.size
 | .lclo f caps, v => ∃ vs : Array Value, v = .func (.func f) #[] vs ∧ LVRL G w L nl caps vs.toList
 | .ltup xs, v => ∃ vs : Array Value, v = .tuple vs ∧ LVRL G w L nl xs vs.toList
 | .mloc i, v => i < nl ∧ v = .map (some (G.β L i))
 | .tloc i t n, v => i < nl ∧ v = .pointer (some ⟨G.β L i, 0, none⟩) ∧ ∃ cur fz, w.heap[G.β L i]? = some (.cells cur t fz) ∧ cur.size = n
def LVRL (G : Gh) (w : World) (L nl : Nat) : List LV → List Value → Prop
 | [], vs => vs = []
 | c :: cs, vs => ∃ v r, vs = v :: r ∧ (∀ xs, c ≠ .osl xs) ∧ LVR G w L nl c v ∧ LVRL G w L nl cs r
end
def Unfrozen (cur : Array Value) (fz : Nat × Nat) : Prop := ∀ j, j < cur.size → ¬ (fz.1 ≤ j ∧ j < fz.2)
def MapR (G : Gh) (w : World) (ks : List Value) (vs : List CV) (es : Array MapEntry) : Prop := es.toList.map MapEntry.key = ks ∧ VRL G w vs (es.toList.map MapEntry.val)
def ObR (G : Gh) (w : World) (L nl : Nat) (b sz : Nat) : Ob → Prop
 | .dead => True
 | .cells cs => ∃ cur e fz, w.heap[b]? = some (.cells cur e fz) ∧ Unfrozen cur fz ∧ G.O b = 0 ∧ cs.length ≤ cur.size ∧ ∀ j x, cs[j]? = some x → LVR G w L nl x (cur.getD j undef)
 | .arr k cs => k = sz ∧ ∃ cur e fz, w.heap[b]? = some (.cells cur e fz) ∧ Unfrozen cur fz ∧ G.O b = 0 ∧ cs.length ≤ cur.size ∧ ∀ j x, cs[j]? = some x → VR G w x (cur.getD j undef)
 | .map ks vs => ∃ es clk, w.heap[b]? = some (.map es clk) ∧ G.O b = 0 ∧ MapR G w ks vs es
def Owns : LV → Value → Nat → Prop
 | .osl _, .slice (some a) _ _, b => a.block = b
 | _, _, _ => False
inductive Loc where
 | fr (t : Nat)
 | ob (lev i k : Nat)
def Gh.below (G : Gh) (lev : Nat) : Gh := { G with n := fun l => if l ≤ lev then G.n l else 0 }
def obAt (H : Mu) (lev i : Nat) : Ob := muOb H lev i
def OwnsAt (G : Gh) (w : World) (fr : Fr) (tm : Array Value) (H : Mu) : Loc → Nat → Prop
 | .fr t, b => Owns (fr t) (tm.getD t undef) b
 | .ob lev i k, b => match obAt H lev i with
  | .cells cs => match cs[k]? with
   | some x => ∃ cur e fz, w.heap[G.β lev i]? = some (.cells cur e fz) ∧ Owns x (cur.getD k undef) b
   | none => False
  | _ => False
def isLive : Ob → Prop
 | .dead => False
 | _ => True
def Touch (G : Gh) (w : World) (fr : Fr) (tm : Array Value) (H : Mu) (b : Nat) : Prop :=
 (∃ l, OwnsAt G w fr tm H l b) ∨ ∃ lev i, isLive (obAt H lev i) ∧ G.β lev i = b
structure Rel (G : Gh) (L : Nat) (s : S) (μ : Mu) (tm : Array Value) (w : World) : Prop where
 lev : μ.length = L
 fr : ∀ t, LVR G w L s.lam.length (s.fr t) (tm.getD t undef)
 lam : ∀ i, ObR G w L s.lam.length (G.β L i) (G.sz L i) (lamOb s.lam i)
 mu : ∀ lev i, lev < L → ObR (G.below lev) w lev 0 (G.β lev i) (G.sz lev i) (muOb μ lev i)
 inj : ∀ lev i lev' i', isLive (obAt (μ ++ [s.lam]) lev i) → isLive (obAt (μ ++ [s.lam]) lev' i') → G.β lev i = G.β lev' i' → lev = lev' ∧ i = i'
 own : ∀ l l' b, OwnsAt G w s.fr tm (μ ++ [s.lam]) l b → OwnsAt G w s.fr tm (μ ++ [s.lam]) l' b → l = l'
 apart : ∀ l b lev i, OwnsAt G w s.fr tm (μ ++ [s.lam]) l b → isLive (obAt (μ ++ [s.lam]) lev i) → G.β lev i ≠ b
 nlt : ∀ lev, lev < L → G.n lev = (μ.getD lev []).length
 nL : G.n L = if s.pushed then s.lam.length else 0
 ngt : ∀ lev, L < lev → G.n lev = 0
structure Le (G : Gh) (w : World) (G' : Gh) (w' : World) : Prop where
 map : ∀ (b : Nat) (es : Array MapEntry) (clk : Nat), 0 < G.O b → w.heap[b]? = some (.map es clk) → 0 < G'.O b ∧ w'.heap[b]? = some (.map es clk)
 ref : ∀ lev i, i < G.n lev → i < G'.n lev ∧ G'.β lev i = G.β lev i ∧ G'.sz lev i = G.sz lev i
 imm : ∀ (b off : Nat) (v : Value), off < G.O b → w.cell? ⟨b, off, none⟩ = some v → off < G'.O b ∧ w'.cell? ⟨b, off, none⟩ = some v
 blk : ∀ (b : Nat) (cur : Array Value) (e : TypeId) (fz : Nat × Nat), w.heap[b]? = some (.cells cur e fz) → ∃ (cur' : Array Value) (fz' : Nat × Nat), w'.heap[b]? = some (.cells cur' e fz') ∧ cur'.size = cur.size
theorem Le.refl (G : Gh) (w : World) : Le G w G w := ⟨fun _ _ _ h hb => ⟨h, hb⟩, fun _ _ h => ⟨h, rfl, rfl⟩, fun _ _ _ h hc => ⟨h, hc⟩, fun b cur e fz h => ⟨cur, fz, h, rfl⟩⟩
theorem Le.trans {G G1 G2 : Gh} {w w1 w2 : World} (a : Le G w G1 w1) (b : Le G1 w1 G2 w2) : Le G w G2 w2 := by
 refine ⟨fun bl es clk h hb => ?_, fun lev i h => ?_, fun bl off v h hc => ?_, fun bl cur e fz h => ?_⟩
 ·obtain ⟨h1, h2⟩ := a.map bl es clk h hb
  exact b.map bl es clk h1 h2
 ·obtain ⟨h1, h2, h3⟩ := a.ref lev i h
  obtain ⟨k1, k2, k3⟩ := b.ref lev i h1
  exact ⟨k1, k2.trans h2, k3.trans h3⟩
 ·obtain ⟨h1, h2⟩ := a.imm bl off v h hc
  exact b.imm bl off v h1 h2
 ·obtain ⟨c1, f1, h1, e1⟩ := a.blk bl cur e fz h
  obtain ⟨c2, f2, h2, e2⟩ := b.blk bl c1 e f1 h1
  exact ⟨c2, f2, h2, e2.trans e1⟩
section
variable {G G' : Gh} {w w' : World} (h : Le G w G' w')
include h
mutual
theorem VR_mono : ∀ (c : CV) (v : Value), VR G w c v → VR G' w' c v
 | .undef, v, _ => by simp [VR]
 | .v x, v, hv => by simpa [VR] using hv
 | .agg cs, v, hv => by
  simp only [VR] at hv ⊢
  obtain ⟨vs, e, hl⟩ := hv
  exact ⟨vs, e, VRL_mono cs _ hl⟩
 | .sl xs, v, hv => by
  simp only [VR] at hv ⊢
  obtain ⟨A, len, cap, e, h1, h2, h3⟩ := hv
  refine ⟨A, len, cap, e, h1, h2, h3.imp id ?_⟩
  rintro ⟨b, off, s, e1, hs, hl⟩
  exact ⟨b, off, s, e1, hs, EL_mono b s off xs hl⟩
 | .view cs, v, hv => by
  simp only [VR] at hv ⊢
  obtain ⟨b, off, e, hl⟩ := hv
  exact ⟨b, off, e, CL_mono b off cs hl⟩
 | .ref lev i off, v, hv => by
  simp only [VR] at hv ⊢
  obtain ⟨h1, e⟩ := hv
  obtain ⟨a, b, _⟩ := h.ref lev i h1
  exact ⟨a, by rw [b]; exact e⟩
 | .msl lev i off len, v, hv => by
  simp only [VR] at hv ⊢
  obtain ⟨h1, cap, cur, e, fz, hv, hc, hb, hs⟩ := hv
  obtain ⟨a, b, c⟩ := h.ref lev i h1
  obtain ⟨cur', fz', hb', hs'⟩ := h.blk _ _ _ _ hb
  exact ⟨a, cap, cur', e, fz', by rw [b]; exact hv, hc, by rw [b]; exact hb', by rw [hs', c]; exact hs⟩
 | .clo f caps, v, hv => by
  simp only [VR] at hv ⊢
  obtain ⟨vs, e, hl⟩ := hv
  exact ⟨vs, e, VRL_mono caps _ hl⟩
 | .iface t x, v, hv => by
  simp only [VR] at hv ⊢
  obtain ⟨u, e, hl⟩ := hv
  exact ⟨u, e, VR_mono x u hl⟩
 | .mview ks vs, v, hv => by
  simp only [VR] at hv ⊢
  obtain ⟨r, es, clk, e, h1, h2, h3, h4⟩ := hv
  obtain ⟨k1, k2⟩ := h.map r es clk h2 h1
  exact ⟨r, es, clk, e, k2, k1, h3, VRL_mono vs _ h4⟩
 | .mref lev i, v, hv => by
  simp only [VR] at hv ⊢
  obtain ⟨h1, e⟩ := hv
  obtain ⟨a, b, _⟩ := h.ref lev i h1
  exact ⟨a, by rw [b]; exact e⟩
 | .tref lev i t n, v, hv => by
  simp only [VR] at hv ⊢
  obtain ⟨h1, e, cur, fz, h2, h3⟩ := hv
  obtain ⟨a, b, _⟩ := h.ref lev i h1
  obtain ⟨cur', fz', hb', hs'⟩ := h.blk _ _ _ _ h2
  exact ⟨a, by rw [b]; exact e, cur', fz', by rw [b]; exact hb', by rw [hs', h3]⟩
theorem VRL_mono : ∀ (cs : List CV) (vs : List Value), VRL G w cs vs → VRL G' w' cs vs
 | [], vs, hv => by simpa [VRL] using hv
 | c :: cs, vs, hv => by
  simp only [VRL] at hv ⊢
  obtain ⟨v, r, e, h1, h2⟩ := hv
  exact ⟨v, r, e, VR_mono c v h1, VRL_mono cs r h2⟩
theorem CL_mono (b : Nat) : ∀ (off : Nat) (cs : List CV), CL G w b off cs → CL G' w' b off cs
 | _, [], _ => by simp [CL]
 | off, c :: cs, hv => by
  simp only [CL] at hv ⊢
  obtain ⟨⟨v, hc, ho, h1⟩, h2⟩ := hv
  obtain ⟨a, b⟩ := h.imm _ _ _ ho hc
  exact ⟨⟨v, b, a, VR_mono c v h1⟩, CL_mono _ (off + 1) cs h2⟩
theorem EL_mono (b s : Nat) : ∀ (off : Nat) (cs : List CV), EL G w b s off cs → EL G' w' b s off cs
 | _, [], _ => by simp [EL]
 | off, .agg cs :: r, hv => by
  simp only [EL] at hv ⊢
  exact ⟨CL_mono b off cs hv.1, EL_mono b s (off + s) r hv.2⟩
 | off, .undef :: r, hv => by
  simp only [EL] at hv ⊢
  obtain ⟨⟨v, hc, ho, h1⟩, h2⟩ := hv
  obtain ⟨a, b⟩ := h.imm _ _ _ ho hc
  exact ⟨⟨v, b, a, by simp [VR]⟩, EL_mono _ s (off + s) r h2⟩
 | off, .v x :: r, hv => by
  simp only [EL] at hv ⊢
  obtain ⟨⟨v, hc, ho, h1⟩, h2⟩ := hv
  obtain ⟨a, b⟩ := h.imm _ _ _ ho hc
  exact ⟨⟨v, b, a, VR_mono (.v x) v h1⟩, EL_mono _ s (off + s) r h2⟩
 | off, .sl x :: r, hv => by
  simp only [EL] at hv ⊢
  obtain ⟨⟨v, hc, ho, h1⟩, h2⟩ := hv
  obtain ⟨a, b⟩ := h.imm _ _ _ ho hc
  exact ⟨⟨v, b, a, VR_mono (.sl x) v h1⟩, EL_mono _ s (off + s) r h2⟩
 | off, .view x :: r, hv => by
  simp only [EL] at hv ⊢
  obtain ⟨⟨v, hc, ho, h1⟩, h2⟩ := hv
  obtain ⟨a, b⟩ := h.imm _ _ _ ho hc
  exact ⟨⟨v, b, a, VR_mono (.view x) v h1⟩, EL_mono _ s (off + s) r h2⟩
 | off, .ref x y z :: r, hv => by
  simp only [EL] at hv ⊢
  obtain ⟨⟨v, hc, ho, h1⟩, h2⟩ := hv
  obtain ⟨a, b⟩ := h.imm _ _ _ ho hc
  exact ⟨⟨v, b, a, VR_mono (.ref x y z) v h1⟩, EL_mono _ s (off + s) r h2⟩
 | off, .msl x y z l :: r, hv => by
  simp only [EL] at hv ⊢
  obtain ⟨⟨v, hc, ho, h1⟩, h2⟩ := hv
  obtain ⟨a, b⟩ := h.imm _ _ _ ho hc
  exact ⟨⟨v, b, a, VR_mono (.msl x y z l) v h1⟩, EL_mono _ s (off + s) r h2⟩
 | off, .clo f x :: r, hv => by
  simp only [EL] at hv ⊢
  obtain ⟨⟨v, hc, ho, h1⟩, h2⟩ := hv
  obtain ⟨a, b⟩ := h.imm _ _ _ ho hc
  exact ⟨⟨v, b, a, VR_mono (.clo f x) v h1⟩, EL_mono _ s (off + s) r h2⟩
 | off, .iface t x :: r, hv => by
  simp only [EL] at hv ⊢
  obtain ⟨⟨v, hc, ho, h1⟩, h2⟩ := hv
  obtain ⟨a, b⟩ := h.imm _ _ _ ho hc
  exact ⟨⟨v, b, a, VR_mono (.iface t x) v h1⟩, EL_mono _ s (off + s) r h2⟩
 | off, .mview x y :: r, hv => by
  simp only [EL] at hv ⊢
  obtain ⟨⟨v, hc, ho, h1⟩, h2⟩ := hv
  obtain ⟨a, b⟩ := h.imm _ _ _ ho hc
  exact ⟨⟨v, b, a, VR_mono (.mview x y) v h1⟩, EL_mono _ s (off + s) r h2⟩
 | off, .mref x y :: r, hv => by
  simp only [EL] at hv ⊢
  obtain ⟨⟨v, hc, ho, h1⟩, h2⟩ := hv
  obtain ⟨a, b⟩ := h.imm _ _ _ ho hc
  exact ⟨⟨v, b, a, VR_mono (.mref x y) v h1⟩, EL_mono _ s (off + s) r h2⟩
 | off, .tref x y t n :: r, hv => by
  simp only [EL] at hv ⊢
  obtain ⟨⟨v, hc, ho, h1⟩, h2⟩ := hv
  obtain ⟨a, b⟩ := h.imm _ _ _ ho hc
  exact ⟨⟨v, b, a, VR_mono (.tref x y t n) v h1⟩, EL_mono _ s (off + s) r h2⟩
end
theorem MapR_mono {ks : List Value} {vs : List CV} {es : Array MapEntry} (hm : MapR G w ks vs es) : MapR G' w' ks vs es := ⟨hm.1, VRL_mono h vs _ hm.2⟩
end
end Go.Abs

set_option linter.unusedVariables false
namespace Go.Abs
open Go
structure Ext (L : Nat) (T : Nat → Prop) (G : Gh) (w : World) (G' : Gh) (w' : World) (T' : Nat → Prop) : Prop where
 le : Le G w G' w'
 os : w'.os = w.os
 tape : w'.tape = w.tape
 output : w'.output = w.output
 size : w.heap.size ≤ w'.heap.size
 keep : ∀ b, b < w.heap.size → ¬ T b → w'.heap[b]? = w.heap[b]? ∧ G'.O b = G.O b
 grow : ∀ b, T' b → T b ∨ w.heap.size ≤ b
 lev : ∀ l, l < L → (∀ i, G'.β l i = G.β l i ∧ G'.sz l i = G.sz l i) ∧ G'.n l = G.n l
theorem Ext.refl {L : Nat} {T T' : Nat → Prop} (G : Gh) (w : World) (h : ∀ b, T' b → T b) : Ext L T G w G w T' :=
 ⟨Le.refl G w, rfl, rfl, rfl, Nat.le_refl _, fun _ _ _ => ⟨rfl, rfl⟩, fun b hb => .inl (h b hb), fun _ _ => ⟨fun _ => ⟨rfl, rfl⟩, rfl⟩⟩
theorem Ext.trans {L : Nat} {T T1 T2 : Nat → Prop} {G G1 G2 : Gh} {w w1 w2 : World} (a : Ext L T G w G1 w1 T1) (b : Ext L T1 G1 w1 G2 w2 T2) : Ext L T G w G2 w2 T2 := by
 refine ⟨a.le.trans b.le, b.os.trans a.os, b.tape.trans a.tape, b.output.trans a.output, Nat.le_trans a.size b.size, fun x hx hT => ?_, fun x hx => ?_, fun l hl => ?_⟩
 ·obtain ⟨h1, h2⟩ := a.keep x hx hT
  have h3 : ¬ T1 x := fun h => by
   rcases a.grow x h with h | h
   ·exact hT h
   ·omega
  obtain ⟨h4, h5⟩ := b.keep x (Nat.lt_of_lt_of_le hx a.size) h3
  exact ⟨h4.trans h1, h5.trans h2⟩
 ·rcases b.grow x hx with h | h
  ·exact a.grow x h
  ·exact .inr (Nat.le_trans a.size h)
 ·obtain ⟨h1, h2⟩ := a.lev l hl
  obtain ⟨h3, h4⟩ := b.lev l hl
  exact ⟨fun i => ⟨(h3 i).1.trans (h1 i).1, (h3 i).2.trans (h1 i).2⟩, h4.trans h2⟩
theorem Ext.drew {L : Nat} {T T' : Nat → Prop} {G G' : Gh} {w w' : World} (h : Ext L T G w G' w' T') : Ext L T G w G' w'.drew T' :=
 ⟨⟨h.le.map, h.le.ref, h.le.imm, h.le.blk⟩, h.os, h.tape, h.output, h.size, h.keep, h.grow, h.lev⟩
theorem Ext.weaken {L : Nat} {T T1 T' T1' : Nat → Prop} {G G' : Gh} {w w' : World} (h : Ext L T G w G' w' T') (h1 : ∀ b, T b → T1 b) (h2 : ∀ b, T1' b → T' b) : Ext L T1 G w G' w' T1' :=
 ⟨h.le, h.os, h.tape, h.output, h.size, fun b hb hn => h.keep b hb fun ht => hn (h1 b ht), fun b hb => (h.grow b (h2 b hb)).imp (h1 b) id, h.lev⟩
section
variable {G G' : Gh} {w w' : World} {L nl nl' : Nat}
theorem Owned_mono (h : Le G w G' w') {xs : List CV} {v : Value} (ho : ∀ a n c, v = .slice (some a) n c → w'.heap[a.block]? = w.heap[a.block]? ∧ G'.O a.block = G.O a.block) (hv : Owned G w xs v) : Owned G' w' xs v := by
 rcases hv with hv | ⟨b, cap, cur, e, s, rfl, hb, h1, h2, h3, h4, h5, h6, h7, h8⟩
 ·exact .inl hv
 ·obtain ⟨k1, k2⟩ := ho _ _ _ rfl
  exact .inr ⟨b, cap, cur, e, s, rfl, k1.trans hb, h1, h2, h3, h4, h5, EL_mono h b s 0 xs h6, k2.trans h7, h8⟩
theorem Owns_not {x : LV} {v : Value} {b : Nat} (h : ∀ xs, x ≠ .osl xs) : ¬ Owns x v b := by
 cases x <;> simp [Owns] at h ⊢
mutual
theorem LVR_mono (h : Le G w G' w') (hn : nl ≤ nl') (hβ : ∀ i, i < nl → G'.β L i = G.β L i ∧ G'.sz L i = G.sz L i) : ∀ (x : LV) (v : Value),
  (∀ b, Owns x v b → w'.heap[b]? = w.heap[b]? ∧ G'.O b = G.O b) → LVR G w L nl x v → LVR G' w' L nl' x v
 | .cv c, v, ho, hv => by simp only [LVR] at hv ⊢; exact VR_mono h c v hv
 | .osl xs, v, ho, hv => by
  simp only [LVR] at hv ⊢
  exact Owned_mono h (fun a n c e => ho a.block (by subst e; simp [Owns])) hv
 | .loc i off, v, ho, hv => by
  simp only [LVR] at hv ⊢
  exact ⟨by omega, by rw [(hβ i hv.1).1]; exact hv.2⟩
 | .lsl i off len, v, ho, hv => by
  simp only [LVR] at hv ⊢
  obtain ⟨h0, cap, cur, e, fz, h1, h2, h2', h3, h4⟩ := hv
  obtain ⟨cur', fz', hb', hs'⟩ := h.blk _ _ _ _ h3
  refine ⟨by omega, cap, cur', e, fz', by rw [(hβ i h0).1]; exact h1, h2, h2', by rw [(hβ i h0).1]; exact hb', by rw [hs', (hβ i h0).2]; exact h4⟩
 | .lclo f caps, v, ho, hv => by
  simp only [LVR] at hv ⊢
  obtain ⟨vs, e, hl⟩ := hv
  exact ⟨vs, e, LVRL_mono h hn hβ caps _ hl⟩
 | .ltup xs, v, ho, hv => by
  simp only [LVR] at hv ⊢
  obtain ⟨vs, e, hl⟩ := hv
  exact ⟨vs, e, LVRL_mono h hn hβ xs _ hl⟩
 | .mloc i, v, ho, hv => by
  simp only [LVR] at hv ⊢
  exact ⟨by omega, by rw [(hβ i hv.1).1]; exact hv.2⟩
 | .tloc i t n, v, ho, hv => by
  simp only [LVR] at hv ⊢
  obtain ⟨h0, e, cur, fz, h2, h3⟩ := hv
  obtain ⟨cur', fz', hb', hs'⟩ := h.blk _ _ _ _ h2
  exact ⟨by omega, by rw [(hβ i h0).1]; exact e, cur', fz', by rw [(hβ i h0).1]; exact hb', by rw [hs', h3]⟩
theorem LVRL_mono (h : Le G w G' w') (hn : nl ≤ nl') (hβ : ∀ i, i < nl → G'.β L i = G.β L i ∧ G'.sz L i = G.sz L i) : ∀ (xs : List LV) (vs : List Value),
  LVRL G w L nl xs vs → LVRL G' w' L nl' xs vs
 | [], vs, hv => by simpa [LVRL] using hv
 | x :: xs, vs, hv => by
  simp only [LVRL] at hv ⊢
  obtain ⟨v, r, e, h0, h1, h2⟩ := hv
  exact ⟨v, r, e, h0, LVR_mono h hn hβ x v (fun b hb => absurd hb (Owns_not h0)) h1, LVRL_mono h hn hβ xs r h2⟩
end
theorem ObR_mono (h : Le G w G' w') (hn : nl ≤ nl') (hβ : ∀ i, i < nl → G'.β L i = G.β L i ∧ G'.sz L i = G.sz L i) {b sz : Nat} {o : Ob}
  (hb : isLive o → w'.heap[b]? = w.heap[b]? ∧ G'.O b = G.O b)
  (ho : ∀ cs j x cur e fz, o = .cells cs → cs[j]? = some x → w.heap[b]? = some (.cells cur e fz) → ∀ b', Owns x (cur.getD j undef) b' → w'.heap[b']? = w.heap[b']? ∧ G'.O b' = G.O b')
  (hv : ObR G w L nl b sz o) : ObR G' w' L nl' b sz o := by
 cases o with
 | dead => simp [ObR]
 | cells cs =>
  simp only [ObR] at hv ⊢
  obtain ⟨cur, e, fz, h1, h2, h3, h4, h5⟩ := hv
  obtain ⟨k1, k2⟩ := hb trivial
  exact ⟨cur, e, fz, k1.trans h1, h2, k2.trans h3, h4, fun j x hx => LVR_mono h hn hβ x _ (fun b' hb' => ho cs j x cur e fz rfl hx h1 b' hb') (h5 j x hx)⟩
 | arr k cs =>
  simp only [ObR] at hv ⊢
  obtain ⟨hk, cur, e, fz, h1, h2, h3, h4, h5⟩ := hv
  obtain ⟨k1, k2⟩ := hb trivial
  exact ⟨hk, cur, e, fz, k1.trans h1, h2, k2.trans h3, h4, fun j x hx => VR_mono h x _ (h5 j x hx)⟩
 | map ks vs =>
  simp only [ObR] at hv ⊢
  obtain ⟨es, clk, h1, h2, h3⟩ := hv
  obtain ⟨k1, k2⟩ := hb trivial
  exact ⟨es, clk, k1.trans h1, k2.trans h2, MapR_mono h h3⟩
end
theorem Le.below {G G' : Gh} {w w' : World} (h : Le G w G' w') (lev : Nat) : Le (G.below lev) w (G'.below lev) w' := by
 refine ⟨h.map, fun l i hi => ?_, h.imm, h.blk⟩
 simp only [Gh.below] at hi ⊢
 split at hi
 ·rename_i hl
  rw [if_pos hl]
  exact h.ref l i hi
 ·omega
theorem muOb_lt {μ : Mu} {l : Lam} {lev i : Nat} (h : lev < μ.length) : muOb (μ ++ [l]) lev i = muOb μ lev i := by
 simp [muOb, List.getElem?_append_left h]
theorem muOb_eq {μ : Mu} {l : Lam} {i : Nat} : muOb (μ ++ [l]) μ.length i = lamOb l i := by
 simp [muOb, lamOb]
theorem muOb_gt {μ : Mu} {l : Lam} {lev i : Nat} (h : μ.length < lev) : muOb (μ ++ [l]) lev i = .dead := by
 simp only [muOb]
 rw [List.getElem?_eq_none (by simp; omega)]
theorem Rel.frame {G G' : Gh} {w w' : World} {L : Nat} {s : S} {μ : Mu} {tm : Array Value} (R : Rel G L s μ tm w) (hle : Le G w G' w')
  (hT : ∀ b, Touch G w s.fr tm (μ ++ [s.lam]) b → w'.heap[b]? = w.heap[b]? ∧ G'.O b = G.O b)
  (hβ : ∀ lev i, lev < L ∨ (lev = L ∧ i < s.lam.length) → G'.β lev i = G.β lev i ∧ G'.sz lev i = G.sz lev i) (hn : G'.n = G.n) :
  Rel G' L s μ tm w' ∧ (∀ l b, OwnsAt G' w' s.fr tm (μ ++ [s.lam]) l b → OwnsAt G w s.fr tm (μ ++ [s.lam]) l b) := by
 have hlive : ∀ lev i, isLive (obAt (μ ++ [s.lam]) lev i) → lev < L ∨ (lev = L ∧ i < s.lam.length) := by
  intro lev i h
  rcases Nat.lt_trichotomy lev L with h1 | h1 | h1
  ·exact .inl h1
  ·subst h1
   refine .inr ⟨rfl, ?_⟩
   rw [← R.lev] at h
   simp only [obAt, muOb_eq, lamOb] at h
   by_cases hi : i < s.lam.length
   ·exact hi
   ·rw [List.getElem?_eq_none (by omega)] at h
    exact h.elim
  ·rw [← R.lev] at h1
   simp only [obAt, muOb_gt h1] at h
   exact h.elim
 have hown : ∀ l b, OwnsAt G' w' s.fr tm (μ ++ [s.lam]) l b → OwnsAt G w s.fr tm (μ ++ [s.lam]) l b := by
  intro l b h
  cases l with
  | fr t => exact h
  | ob lev i k =>
   simp only [OwnsAt] at h ⊢
   split at h
   ·rename_i cs hcs
    have hl : isLive (obAt (μ ++ [s.lam]) lev i) := by rw [hcs]; trivial
    split at h
    ·rename_i x hx
     obtain ⟨cur, e, fz, hb, ho⟩ := h
     rw [(hβ lev i (hlive lev i hl)).1, (hT _ (.inr ⟨lev, i, hl, rfl⟩)).1] at hb
     exact ⟨cur, e, fz, hb, ho⟩
    ·exact h
   ·exact h
 refine ⟨⟨R.lev, fun t => ?_, fun i => ?_, fun lev i hl => ?_, fun lev i lev' i' h h' e => ?_, fun l l' b h h' => R.own l l' b (hown l b h) (hown l' b h'), fun l b lev i h h' e => ?_, ?_, ?_, ?_⟩, hown⟩
 ·exact LVR_mono hle (Nat.le_refl _) (fun i hi => hβ L i (.inr ⟨rfl, hi⟩)) _ _ (fun b hb => hT b (.inl ⟨.fr t, hb⟩)) (R.fr t)
 ·have hob := R.lam i
  have e1 : obAt (μ ++ [s.lam]) L i = lamOb s.lam i := by rw [← R.lev]; exact muOb_eq
  by_cases hi : i < s.lam.length
  ·rw [(hβ L i (.inr ⟨rfl, hi⟩)).1, (hβ L i (.inr ⟨rfl, hi⟩)).2]
   refine ObR_mono hle (Nat.le_refl _) (fun i hi => hβ L i (.inr ⟨rfl, hi⟩)) (fun hl => hT _ (.inr ⟨L, i, by rw [e1]; exact hl, rfl⟩)) (fun cs j x cur e fz ho hx hb b' hb' => hT b' (.inl ⟨.ob L i j, ?_⟩)) hob
   simp only [OwnsAt, e1, ho, hx]
   exact ⟨cur, e, fz, hb, hb'⟩
  ·have : lamOb s.lam i = .dead := by simp only [lamOb]; rw [List.getElem?_eq_none (by omega)]
   rw [this]
   trivial
 ·have e1 : obAt (μ ++ [s.lam]) lev i = muOb μ lev i := muOb_lt (by rw [R.lev]; exact hl)
  have hob := R.mu lev i hl
  rw [(hβ lev i (.inl hl)).1, (hβ lev i (.inl hl)).2]
  refine ObR_mono (hle.below lev) (Nat.le_refl _) (fun i hi => by omega) (fun h => hT _ (.inr ⟨lev, i, by rw [e1]; exact h, rfl⟩)) (fun cs j x cur e fz ho hx hb b' hb' => hT b' (.inl ⟨.ob lev i j, ?_⟩)) hob
  simp only [OwnsAt, e1, ho, hx]
  exact ⟨cur, e, fz, hb, hb'⟩
 ·rw [(hβ lev i (hlive lev i h)).1, (hβ lev' i' (hlive lev' i' h')).1] at e
  exact R.inj lev i lev' i' h h' e
 ·rw [(hβ lev i (hlive lev i h')).1] at e
  exact R.apart l b lev i (hown l b h) h' e
 ·rw [hn]; exact R.nlt
 ·rw [hn]; exact R.nL
 ·rw [hn]; exact R.ngt
theorem upd_same (g : Fr) (t : Nat) (v : LV) : upd g t v t = v := by simp [upd, Nat.beq_refl]
theorem upd_other (g : Fr) {t u : Nat} (v : LV) (h : u ≠ t) : upd g t v u = g u := by
 have : Nat.beq u t = false := by cases e : Nat.beq u t with
  | false => rfl
  | true => exact absurd (Nat.eq_of_beq_eq_true e) h
 simp [upd, this]
theorem getD_set_same (tm : Array Value) {d : Nat} (v : Value) (h : d < tm.size) : (tm.setIfInBounds d v).getD d undef = v := by
 simp [Array.getD, h]
theorem getD_set_other (tm : Array Value) {d t : Nat} (v : Value) (h : t ≠ d) : (tm.setIfInBounds d v).getD t undef = tm.getD t undef := by
 simp only [Array.getD_eq_getD_getElem?]
 rw [Array.getElem?_setIfInBounds_ne (by omega)]
theorem EL_CL {G : Gh} {w : World} {b s : Nat} : ∀ {off : Nat} {xs : List CV}, EL G w b s off xs → ∀ j x, xs[j]? = some x → CL G w b (off + j * s) x.cells
 | off, [], _, j, x, hx => by simp at hx
 | off, y :: r, h, 0, x, hx => by
  simp only [List.getElem?_cons_zero, Option.some.injEq] at hx
  subst hx
  cases y <;> simp only [EL] at h <;> simp only [CV.cells, Nat.zero_mul, Nat.add_zero, CL, and_true] <;> first | exact h.1 | exact h.1
 | off, y :: r, h, j + 1, x, hx => by
  have h2 : EL G w b s (off + s) r := by cases y <;> simp only [EL] at h <;> exact h.2
  have := EL_CL h2 j x (by simpa using hx)
  rw [show off + (j + 1) * s = off + s + j * s by rw [Nat.add_mul]; omega]
  exact this
theorem Owned_sl {G : Gh} {w : World} {xs : List CV} {v : Value} (h : Owned G w xs v) : VR G w (.sl xs) v := by
 simp only [VR]
 rcases h with ⟨rfl, rfl⟩ | ⟨b, cap, cur, e, s, rfl, hb, h1, h2, h3, h4, h5, h6, h7⟩
 ·exact ⟨none, 0, 0, rfl, rfl, Nat.le_refl _, .inl rfl⟩
 ·exact ⟨_, _, _, rfl, rfl, h1, .inr ⟨b, 0, s, rfl, h4, h6⟩⟩
theorem LVR_strip1 {G : Gh} {w : World} {L nl : Nat} {x : LV} {v : Value} (h : LVR G w L nl x v) : LVR G w L nl (strip1 x) v ∧ ∀ xs, strip1 x ≠ .osl xs := by
 cases x <;> simp only [strip1, LVR] at h ⊢ <;> first
  | exact ⟨h, by simp⟩
  | exact ⟨Owned_sl h, by simp⟩
  | exact ⟨by simp [VR], by simp⟩
theorem LVRL_strip1 {G : Gh} {w : World} {L nl : Nat} : ∀ {xs : List LV} {vs : List Value}, LVRL G w L nl xs vs → LVRL G w L nl (xs.map strip1) vs
 | [], vs, h => by simpa [LVRL] using h
 | x :: xs, vs, h => by
  simp only [LVRL, List.map_cons] at h ⊢
  obtain ⟨v, r, e, h0, h1, h2⟩ := h
  exact ⟨v, r, e, (LVR_strip1 h1).2, (LVR_strip1 h1).1, LVRL_strip1 h2⟩
theorem LVR_strip {G : Gh} {w : World} {L nl : Nat} {x : LV} {v : Value} (h : LVR G w L nl x v) : LVR G w L nl (strip x) v := by
 cases x <;> simp only [strip, LVR] at h ⊢ <;> first
  | exact h
  | exact Owned_sl h
  | (obtain ⟨vs, e, hl⟩ := h; exact ⟨vs, e, LVRL_strip1 hl⟩)
theorem Owns_strip {x : LV} {v : Value} {b : Nat} : ¬ Owns (strip x) v b := by
 cases x <;> simp [strip, Owns]
theorem Rel.put {G : Gh} {w : World} {L : Nat} {s : S} {μ : Mu} {tm : Array Value} (R : Rel G L s μ tm w) {d : Nat} {v : LV} {cv : Value} (hd : d < tm.size)
  (hv : LVR G w L s.lam.length v cv)
  (ho : ∀ b, Owns v cv b → (∀ l, OwnsAt G w s.fr tm (μ ++ [s.lam]) l b → l = .fr d) ∧ ∀ lev i, isLive (obAt (μ ++ [s.lam]) lev i) → G.β lev i ≠ b) :
  Rel G L (s.set d v) μ (tm.setIfInBounds d cv) w ∧
  (∀ b, Touch G w (s.set d v).fr (tm.setIfInBounds d cv) (μ ++ [(s.set d v).lam]) b → Touch G w s.fr tm (μ ++ [s.lam]) b ∨ Owns v cv b) := by
 have hcase : ∀ l b, OwnsAt G w (s.set d v).fr (tm.setIfInBounds d cv) (μ ++ [(s.set d v).lam]) l b → (l = .fr d ∧ Owns v cv b) ∨ (l ≠ .fr d ∧ OwnsAt G w s.fr tm (μ ++ [s.lam]) l b) := by
  intro l b h
  cases l with
  | fr t =>
   by_cases ht : t = d
   ·subst ht
    simp only [OwnsAt, S.set, upd_same, getD_set_same tm cv hd] at h
    exact .inl ⟨rfl, h⟩
   ·simp only [OwnsAt, S.set, upd_other _ _ ht, getD_set_other tm cv ht] at h
    exact .inr ⟨by simpa using ht, h⟩
  | ob lev i k => exact .inr ⟨by simp, h⟩
 refine ⟨⟨R.lev, fun t => ?_, R.lam, R.mu, R.inj, fun l l' b h h' => ?_, fun l b lev i h h' => ?_, R.nlt, R.nL, R.ngt⟩, fun b hb => ?_⟩
 ·by_cases ht : t = d
  ·subst ht
   simp only [S.set, upd_same, getD_set_same tm cv hd]
   exact hv
  ·simp only [S.set, upd_other _ _ ht, getD_set_other tm cv ht]
   exact R.fr t
 ·rcases hcase l b h with ⟨e, h1⟩ | ⟨e, h1⟩ <;> rcases hcase l' b h' with ⟨e', h1'⟩ | ⟨e', h1'⟩
  ·rw [e, e']
  ·exact absurd ((ho b h1).1 l' h1') e'
  ·exact absurd ((ho b h1').1 l h1) e
  ·exact R.own l l' b h1 h1'
 ·rcases hcase l b h with ⟨e, h1⟩ | ⟨e, h1⟩
  ·exact (ho b h1).2 lev i h'
  ·exact R.apart l b lev i h1 h'
 ·rcases hb with ⟨l, hl⟩ | h
  ·rcases hcase l b hl with ⟨e, h1⟩ | ⟨e, h1⟩
   ·exact .inr h1
   ·exact .inl (.inl ⟨l, h1⟩)
  ·exact .inl (.inr h)
theorem Rel.strip1 {G : Gh} {w : World} {L : Nat} {s : S} {μ : Mu} {tm : Array Value} (R : Rel G L s μ tm w) (t : Nat) :
  Rel G L (s.set t (strip (s.fr t))) μ tm w ∧
  (∀ l b, OwnsAt G w (s.set t (strip (s.fr t))).fr tm (μ ++ [s.lam]) l b → l ≠ .fr t ∧ OwnsAt G w s.fr tm (μ ++ [s.lam]) l b) := by
 have hcase : ∀ l b, OwnsAt G w (s.set t (strip (s.fr t))).fr tm (μ ++ [s.lam]) l b → l ≠ .fr t ∧ OwnsAt G w s.fr tm (μ ++ [s.lam]) l b := by
  intro l b h
  cases l with
  | fr u =>
   by_cases ht : u = t
   ·subst ht
    simp only [OwnsAt, S.set, upd_same] at h
    exact absurd h Owns_strip
   ·simp only [OwnsAt, S.set, upd_other _ _ ht] at h
    exact ⟨by simpa using ht, h⟩
  | ob lev i k => exact ⟨by simp, h⟩
 refine ⟨⟨R.lev, fun u => ?_, R.lam, R.mu, R.inj, fun l l' b h h' => R.own l l' b (hcase l b h).2 (hcase l' b h').2, fun l b lev i h h' => R.apart l b lev i (hcase l b h).2 h', R.nlt, R.nL, R.ngt⟩, hcase⟩
 by_cases ht : u = t
 ·subst ht
  simp only [S.set, upd_same]
  exact LVR_strip (R.fr u)
 ·simp only [S.set, upd_other _ _ ht]
  exact R.fr u
theorem stripSlots_lam : ∀ (ts : List Nat) (s : S), (stripSlots ts s).lam = s.lam ∧ (stripSlots ts s).pushed = s.pushed
 | [], s => ⟨rfl, rfl⟩
 | t :: r, s => by simpa [stripSlots, S.set] using stripSlots_lam r (s.set t (strip (s.fr t)))
theorem Rel.strips {G : Gh} {w : World} {L : Nat} {μ : Mu} {tm : Array Value} : ∀ (ts : List Nat) {s : S}, Rel G L s μ tm w →
  Rel G L (stripSlots ts s) μ tm w ∧
  (∀ l b, OwnsAt G w (stripSlots ts s).fr tm (μ ++ [s.lam]) l b → (∀ t, t ∈ ts → l ≠ .fr t) ∧ OwnsAt G w s.fr tm (μ ++ [s.lam]) l b)
 | [], s, R => ⟨R, fun l b h => ⟨by simp, h⟩⟩
 | t :: r, s, R => by
  obtain ⟨R1, h1⟩ := R.strip1 t
  obtain ⟨R2, h2⟩ := Rel.strips r R1
  refine ⟨R2, fun l b h => ?_⟩
  obtain ⟨a1, a2⟩ := h2 l b h
  obtain ⟨b1, b2⟩ := h1 l b a2
  refine ⟨fun u hu => ?_, b2⟩
  rcases List.mem_cons.1 hu with rfl | hu
  ·exact b1
  ·exact a1 u hu
end Go.Abs

set_option linter.unusedVariables false
namespace Go.Abs
open Go
theorem opt_some {α β : Type} {x : Option α} {k : α → Option β} {r : β} : opt x k = some r ↔ ∃ a, x = some a ∧ k a = some r := by
 cases x <;> simp [opt]
theorem guardB_some {β : Type} {b : Bool} {k : Option β} {r : β} : guardB b k = some r ↔ b = true ∧ k = some r := by
 cases b <;> simp [guardB]
theorem memN_iff {l : List Nat} {t : Nat} : memN l t = true ↔ t ∈ l := by
 induction l with
 | nil => simp [memN]
 | cons a r ih =>
  simp only [memN, List.mem_cons]
  cases h : Nat.beq a t with
  | true => simp [Nat.eq_of_beq_eq_true h]
  | false =>
   have : t ≠ a := fun e => by subst e; simp [Nat.beq_refl] at h
   simp [ih, this]
section
variable {G : Gh} {w : World} {L : Nat}
abbrev TouchS (G : Gh) (w : World) (s : S) (μ : Mu) (tm : Array Value) : Nat → Prop := Touch G w s.fr tm (μ ++ [s.lam])
theorem VRL_v (vs : List Value) : VRL G w (vs.map .v) vs := by
 induction vs with
 | nil => simp [VRL]
 | cons v r ih => simp only [List.map_cons, VRL]; exact ⟨v, r, rfl, by simp [VR], ih⟩
theorem LVRL_v (nl : Nat) (vs : List Value) : LVRL G w L nl (vs.map fun c => .cv (.v c)) vs := by
 induction vs with
 | nil => simp [LVRL]
 | cons v r ih => simp only [List.map_cons, LVRL]; exact ⟨v, r, rfl, by simp, by simp [LVR, VR], ih⟩
theorem LVR_ofVal (nl : Nat) (v : Value) : LVR G w L nl (ofVal v) v := by
 cases v <;> simp only [ofVal, LVR, VR]
 ·exact ⟨_, rfl, VRL_v _⟩
 ·exact ⟨_, rfl, LVRL_v _ _⟩
theorem Owns_ofVal {v u : Value} {b : Nat} : ¬ Owns (ofVal v) u b := by
 cases v <;> simp [ofVal, Owns]
theorem eval_rel {s : S} {μ : Mu} {a : Act} (R : Rel G L s μ a.tmps w) (h : OpHint) (x : Operand) :
  LVR G w L s.lam.length (evA h s.fr x) (a.eval x) ∧ ∀ b, Owns (evA h s.fr x) (a.eval x) b → ∃ t, t ∈ h.take ∧ Owns (s.fr t) (a.tmps.getD t undef) b := by
 cases x with
 | tmp t =>
  simp only [evA, Act.eval]
  cases ht : memN h.take t with
  | true => exact ⟨R.fr t, fun b hb => ⟨t, memN_iff.1 ht, hb⟩⟩
  | false => exact ⟨LVR_strip (R.fr t), fun b hb => absurd hb Owns_strip⟩
 | const c => exact ⟨LVR_ofVal _ c, fun b hb => absurd hb Owns_ofVal⟩
 | global g => exact ⟨by simp [evA, LVR, VR], fun b hb => by simp [evA, Owns] at hb⟩
 | func f => exact ⟨by simp only [evA, LVR, VR, Act.eval]; exact ⟨#[], rfl, by simp [VRL]⟩, fun b hb => by simp [evA, Owns] at hb⟩
theorem step_done {G0 : Gh} {w0 : World} {T0 : Nat → Prop} {s : S} {μ : Mu} {a : Act} {v : LV} {cv : Value} {dst : Option Tmp} (R : Rel G L s μ a.tmps w)
  (E : Ext L T0 G0 w0 G w (TouchS G w s μ a.tmps)) (hv : LVR G w L s.lam.length v cv)
  (ho : ∀ b, Owns v cv b → (∀ l, ¬ OwnsAt G w s.fr a.tmps (μ ++ [s.lam]) l b) ∧ (∀ lev i, isLive (obAt (μ ++ [s.lam]) lev i) → G.β lev i ≠ b) ∧ (T0 b ∨ w0.heap.size ≤ b))
  (hd : ∀ d, dst = some d → d < a.tmps.size) :
  Rel G L (s.put dst v) μ (a.put dst cv).tmps w ∧ Ext L T0 G0 w0 G w (TouchS G w (s.put dst v) μ (a.put dst cv).tmps) := by
 cases dst with
 | none => exact ⟨R, E⟩
 | some d =>
  obtain ⟨R', h⟩ := R.put (hd d rfl) hv fun b hb => ⟨fun l hl => absurd hl ((ho b hb).1 l), (ho b hb).2.1⟩
  refine ⟨R', ⟨E.le, E.os, E.tape, E.output, E.size, E.keep, fun b hb => ?_, E.lev⟩⟩
  rcases h b hb with h | h
  ·exact E.grow b h
  ·exact (ho b h).2.2
theorem step_pure {s : S} {μ : Mu} {a : Act} {v : LV} {cv : Value} {dst : Option Tmp} {ts : List Nat} (R : Rel G L s μ a.tmps w)
  (hv : LVR G w L s.lam.length v cv) (ho : ∀ b, Owns v cv b → ∃ t, t ∈ ts ∧ Owns (s.fr t) (a.tmps.getD t undef) b)
  (hd : ∀ d, dst = some d → d < a.tmps.size) :
  Rel G L ((stripSlots ts s).put dst v) μ (a.put dst cv).tmps w ∧
  Ext L (TouchS G w s μ a.tmps) G w G w (TouchS G w ((stripSlots ts s).put dst v) μ (a.put dst cv).tmps) := by
 obtain ⟨R', h⟩ := Rel.strips ts R
 have hl := stripSlots_lam ts s
 refine step_done R' (Ext.refl G w fun b hb => ?_) (by rw [hl.1]; exact hv) (fun b hb => ?_) hd
 ·rcases hb with ⟨l, hb⟩ | hb
  ·exact .inl ⟨l, (h l b (by rw [← hl.1]; exact hb)).2⟩
  ·exact .inr (by rw [← hl.1]; exact hb)
 ·obtain ⟨t, ht, ho⟩ := ho b hb
  refine ⟨fun l hl' => ?_, fun lev i hlv => ?_, .inl (.inl ⟨.fr t, ho⟩)⟩
  ·obtain ⟨h1, h2⟩ := h l b (by rw [← hl.1]; exact hl')
   exact h1 t ht (R.own l (.fr t) b h2 ho)
  ·exact R.apart (.fr t) b lev i ho (by rw [← hl.1]; exact hlv)
end
end Go.Abs

set_option linter.unusedVariables false
namespace Go.Abs
open Go
section
variable {G : Gh} {w : World} {L nl : Nat}
theorem getInt_eq {k : IntKind} {x : LV} {n : Int} (h : getInt k x = some n) : x = .cv (.v (.int k n)) := by
 unfold getInt at h
 split at h
 ·rename_i k' m
  cases hk : decide (k = k') with
  | true => simp only [hk, Option.some.injEq] at h; simp only [decide_eq_true_eq] at hk; rw [h, hk]
  | false => simp [hk] at h
 ·simp at h
theorem getBool_eq {x : LV} {b : Bool} (h : getBool x = some b) : x = .cv (.v (.bool b)) := by
 unfold getBool at h; split at h <;> simp_all
theorem getStr_eq {x : LV} {l : List UInt8} (h : getStr x = some l) : x = LV.str l := by
 unfold getStr at h; split at h <;> simp_all
 subst h; rfl
theorem anyInt_eq {x : LV} {n : Int} (h : anyInt x = some n) : ∃ k, x = .cv (.v (.int k n)) := by
 unfold anyInt at h; split at h <;> simp_all
theorem getAgg_eq {x : LV} {cs : List CV} (h : getAgg x = some cs) : x = .cv (.agg cs) := by
 unfold getAgg at h; split at h <;> simp_all
theorem getTup_eq {x : LV} {xs : List LV} (h : getTup x = some xs) : x = .ltup xs := by
 unfold getTup at h; split at h <;> simp_all
theorem getView_eq {x : LV} {cs : List CV} (h : getView x = some cs) : x = .cv (.view cs) := by
 unfold getView at h; split at h <;> simp_all
theorem getRef_eq {x : LV} {q : Nat × Nat × Nat} (h : getRef x = some q) : x = .cv (.ref q.1 q.2.1 q.2.2) := by
 unfold getRef at h; split at h <;> simp_all
 subst h; exact ⟨rfl, rfl, rfl⟩
theorem getMsl_eq {x : LV} {q : Nat × Nat × Nat × Nat} (h : getMsl x = some q) : x = .cv (.msl q.1 q.2.1 q.2.2.1 q.2.2.2) := by
 unfold getMsl at h; split at h <;> simp_all
 subst h; exact ⟨rfl, rfl, rfl, rfl⟩
theorem VR_nil : VR G w (.sl []) (.slice none 0 0) := by
 simp only [VR]; exact ⟨none, 0, 0, rfl, rfl, Nat.le_refl _, .inl rfl⟩
theorem getSl_rel {x : LV} {xs : List CV} (h : getSl x = some xs) {v : Value} (hv : LVR G w L nl x v) : VR G w (.sl xs) v := by
 unfold getSl at h
 split at h <;> simp only [Option.some.injEq, reduceCtorEq] at h <;> subst h
 ·simpa [LVR] using hv
 ·simp only [LVR, VR] at hv; subst hv; exact VR_nil
 ·exact Owned_sl hv
theorem getOsl_rel {x : LV} {xs : List CV} (h : getOsl x = some xs) {v : Value} (hv : LVR G w L nl x v) : Owned G w xs v ∧ ∀ b, Owns (.osl xs) v b → Owns x v b := by
 unfold getOsl at h
 split at h <;> simp only [Option.some.injEq, reduceCtorEq] at h <;> subst h
 ·exact ⟨hv, fun b hb => hb⟩
 ·simp only [LVR, VR] at hv; subst hv; exact ⟨.inl ⟨rfl, rfl⟩, fun b hb => by simp [Owns] at hb⟩
theorem getCv_rel {x : LV} {c : CV} (h : getCv x = some c) {v : Value} (hv : LVR G w L nl x v) : VR G w c v := by
 unfold getCv at h
 split at h <;> simp only [Option.some.injEq, reduceCtorEq] at h <;> subst h
 ·simpa [LVR] using hv
 ·exact Owned_sl hv
theorem uncons_eq {α : Type} {l : List α} {q : α × List α} (h : uncons l = some q) : l = q.1 :: q.2 := by
 cases l <;> simp [uncons] at h; subst h; rfl
theorem isNilL_eq {α : Type} {l : List α} {u : Unit} (h : isNilL l = some u) : l = [] := by
 cases l <;> simp [isNilL] at h ⊢
theorem cellK_sound {β : Type} {d : TypeDesc} {x : LV} {k : CV → Option β} {r : β} (h : cellK d x k = some r) :
  ∃ c, k c = some r ∧ ∀ (G : Gh) (w : World) (L nl : Nat) v, LVR G w L nl x v → VR G w c v := by
 unfold cellK at h
 split at h <;> obtain ⟨a, h1, h2⟩ := opt_some.1 h <;> refine ⟨_, h2, fun G w L nl v hv => ?_⟩
 ·rw [getInt_eq h1] at hv; simpa [LVR] using hv
 ·rw [getBool_eq h1] at hv; simpa [LVR] using hv
 ·rw [getStr_eq h1] at hv; simpa [LVR] using hv
 ·exact getSl_rel h1 hv
 ·exact getCv_rel h1 hv
def Fine (cs cs' : List CV) : Prop := cs'.length = cs.length ∧ ∀ (j : Nat) (c c' : CV), cs[j]? = some c → cs'[j]? = some c' → ∀ (G : Gh) (w : World) (v : Value), VR G w c v → VR G w c' v
theorem Fine.cons {c c' : CV} {r r' : List CV} (h : Fine r r') (hc : ∀ (G : Gh) (w : World) v, VR G w c v → VR G w c' v) : Fine (c :: r) (c' :: r') := by
 refine ⟨by simp [h.1], fun j x x' hx hx' => ?_⟩
 cases j with
 | zero => simp only [List.getElem?_cons_zero, Option.some.injEq] at hx hx'; subst hx; subst hx'; exact hc
 | succ j => exact h.2 j x x' (by simpa using hx) (by simpa using hx')
theorem Fine.tail {c c' : CV} {r r' : List CV} (h : Fine (c :: r) (c' :: r')) : Fine r r' ∧ ∀ (G : Gh) (w : World) v, VR G w c v → VR G w c' v :=
 ⟨⟨by simpa using h.1, fun j x x' hx hx' => h.2 (j + 1) x x' (by simpa using hx) (by simpa using hx')⟩, h.2 0 c c' rfl rfl⟩
theorem Fine.VRL : ∀ {cs cs' : List CV}, Fine cs cs' → ∀ {vs}, VRL G w cs vs → VRL G w cs' vs
 | [], [], _, vs, h => h
 | [], _ :: _, hf, _, _ => by simp [Fine] at hf
 | _ :: _, [], hf, _, _ => by simp [Fine] at hf
 | c :: r, c' :: r', hf, vs, h => by
  simp only [Go.Abs.VRL] at h ⊢
  obtain ⟨v, s, e, h1, h2⟩ := h
  exact ⟨v, s, e, hf.tail.2 G w v h1, hf.tail.1.VRL h2⟩
theorem Fine.CL {b : Nat} : ∀ {off : Nat} {cs cs' : List CV}, Fine cs cs' → CL G w b off cs → CL G w b off cs'
 | _, [], [], _, h => h
 | _, [], _ :: _, hf, _ => by simp [Fine] at hf
 | _, _ :: _, [], hf, _ => by simp [Fine] at hf
 | off, c :: r, c' :: r', hf, h => by
  simp only [Go.Abs.CL] at h ⊢
  obtain ⟨⟨v, h1, h2, h3⟩, h4⟩ := h
  exact ⟨⟨v, h1, h2, hf.tail.2 G w v h3⟩, hf.tail.1.CL h4⟩
theorem cellsK_sound {β : Type} : ∀ {ds : List TypeDesc} {cs : List CV} {k : List CV → Option β} {r : β}, cellsK ds cs k = some r → ∃ cs', k cs' = some r ∧ Fine cs cs'
 | [], cs, k, r, h => by
  simp only [cellsK] at h
  obtain ⟨u, h1, h2⟩ := opt_some.1 h
  rw [isNilL_eq h1]
  exact ⟨[], h2, rfl, fun j c c' hc => by simp at hc⟩
 | d :: ds, cs, k, r, h => by
  simp only [cellsK] at h
  obtain ⟨q, h1, h2⟩ := opt_some.1 h
  rw [uncons_eq h1]
  obtain ⟨c, h3, h4⟩ := cellK_sound h2
  obtain ⟨cs', h5, h6⟩ := cellsK_sound h3
  exact ⟨c :: cs', h5, h6.cons fun G w v hv => h4 G w 0 0 v (by simpa [LVR] using hv)⟩
theorem typedL_sound {β : Type} {P : Program} {t : TypeId} {x : LV} {k : CV → Option β} {r : β} (h : typedL P t x k = some r) :
  ∃ c, k c = some r ∧ ∀ (G : Gh) (w : World) (L nl : Nat) v, LVR G w L nl x v → VR G w c v := by
 unfold typedL at h
 split at h
 ·obtain ⟨cs, h1, h2⟩ := opt_some.1 h
  obtain ⟨cs', h3, h4⟩ := cellsK_sound h2
  refine ⟨_, h3, fun G w L nl v hv => ?_⟩
  rw [getAgg_eq h1] at hv
  simp only [LVR, VR] at hv ⊢
  obtain ⟨vs, e, hl⟩ := hv
  exact ⟨vs, e, h4.VRL hl⟩
 ·split at h
  ·exact cellK_sound h
  ·simp at h
theorem typed1_sound {β : Type} {P : Program} {own : Bool} {t : TypeId} {x : LV} {k : LV → Option β} {r : β} (h : typed1 P own t x k = some r) :
  ∃ y, k y = some r ∧ ∀ (G : Gh) (w : World) (L nl : Nat) v, LVR G w L nl x v → LVR G w L nl y v ∧ (∀ b, Owns y v b → Owns x v b) ∧ (own = false → ∀ xs, y ≠ .osl xs) := by
 unfold typed1 at h
 split at h
 ·obtain ⟨xs, h1, h2⟩ := opt_some.1 h
  exact ⟨_, h2, fun G w L nl v hv => ⟨(getOsl_rel h1 hv).1, (getOsl_rel h1 hv).2, by simp⟩⟩
 ·obtain ⟨c, h1, h2⟩ := typedL_sound h
  exact ⟨_, h1, fun G w L nl v hv => ⟨by simp only [LVR]; exact h2 G w L nl v hv, fun b hb => by simp [Owns] at hb, by simp⟩⟩
theorem typedTup_sound {β : Type} {P : Program} : ∀ {ts : List TypeId} {xs : List LV} {k : List LV → Option β} {r : β}, typedTup P ts xs k = some r →
  ∃ ys, k ys = some r ∧ ∀ (G : Gh) (w : World) (L nl : Nat) vs, LVRL G w L nl xs vs → LVRL G w L nl ys vs
 | [], xs, k, r, h => by
  simp only [typedTup] at h
  obtain ⟨u, h1, h2⟩ := opt_some.1 h
  rw [isNilL_eq h1]
  exact ⟨[], h2, fun G w L nl vs hv => hv⟩
 | t :: ts, xs, k, r, h => by
  simp only [typedTup] at h
  obtain ⟨q, h1, h2⟩ := opt_some.1 h
  rw [uncons_eq h1]
  obtain ⟨y, h3, h4⟩ := typed1_sound h2
  obtain ⟨ys, h5, h6⟩ := typedTup_sound h3
  refine ⟨y :: ys, h5, fun G w L nl vs hv => ?_⟩
  simp only [LVRL] at hv ⊢
  obtain ⟨v, s, e, h0, h7, h8⟩ := hv
  exact ⟨v, s, e, (h4 G w L nl v h7).2.2 rfl, (h4 G w L nl v h7).1, h6 G w L nl s h8⟩
theorem typedK_sound {β : Type} {P : Program} {own : Bool} {t : TypeId} {x : LV} {k : LV → Option β} {r : β} (h : typedK P own t x k = some r) :
  ∃ y, k y = some r ∧ ∀ (G : Gh) (w : World) (L nl : Nat) v, LVR G w L nl x v → LVR G w L nl y v ∧ (∀ b, Owns y v b → Owns x v b) := by
 unfold typedK at h
 split at h
 ·obtain ⟨xs, h1, h2⟩ := opt_some.1 h
  obtain ⟨ys, h3, h4⟩ := typedTup_sound h2
  refine ⟨_, h3, fun G w L nl v hv => ⟨?_, fun b hb => by simp [Owns] at hb⟩⟩
  rw [getTup_eq h1] at hv
  simp only [LVR] at hv ⊢
  obtain ⟨vs, e, hl⟩ := hv
  exact ⟨vs, e, h4 G w L nl _ hl⟩
 ·obtain ⟨y, h1, h2⟩ := typed1_sound h
  exact ⟨y, h1, fun G w L nl v hv => ⟨(h2 G w L nl v hv).1, (h2 G w L nl v hv).2.1⟩⟩
theorem typedIf_sound {β : Type} {P : Program} {b : Bool} {t : TypeId} {x : LV} {k : LV → Option β} {r : β} (h : typedIf P b t x k = some r) :
  ∃ y, k y = some r ∧ ∀ (G : Gh) (w : World) (L nl : Nat) v, LVR G w L nl x v → LVR G w L nl y v ∧ (∀ b, Owns y v b → Owns x v b) := by
 cases b with
 | true => exact typedK_sound h
 | false => exact ⟨x, h, fun G w L nl v hv => ⟨hv, fun _ hb => hb⟩⟩
theorem obWriteK_eq {α : Type} {P : Program} {t : TypeId} {o : Ob} {off : Nat} {v : LV} {k : Ob → Option α} : obWriteK P t o off v k = opt (obWrite P t o off v) k := by
 cases o with
 | arr sz cs =>
  simp only [obWriteK, obWrite]
  cases getCv v with
  | none => rfl
  | some c =>
   simp only [opt]
   cases sizeT P t with
   | none => rfl
   | some n =>
    simp only []
    cases (elemOK n c && Nat.ble (off + n) cs.length) <;> rfl
 | cells cs => rfl
 | dead => rfl
 | map ks vs => rfl
end
end Go.Abs

set_option linter.unusedVariables false
set_option linter.unusedSimpArgs false
namespace Go.Abs
open Go
section
variable {G : Gh} {w : World} {L nl : Nat} {P : Program}
theorem intA_run {op : BinOp} {t : TypeId} {k k' : IntKind} {a b : Int} {c : CV} (h : intA op k a k' b = some c) :
    ∃ v, (binOp op t (.int k a) (.int k' b)).run P w = .ok v w ∧ c = .v v := by
  by_cases hs : op = .shl ∨ op = .shr
  · rcases hs with rfl | rfl <;> unfold intA at h <;> simp only [] at h <;>
      (cases hb : decide (b < 0) <;> simp only [hb, Option.some.injEq, reduceCtorEq] at h
       have hb' : ¬ b < 0 := by simpa using hb
       exact ⟨_, by simp only [binOp, Op.shift, if_neg hb']; rfl, h.symm⟩)
  · have hk : decide (k = k') = true := by
      cases hk : decide (k = k') with
      | true => rfl
      | false => exfalso; unfold intA at h; cases op <;> simp_all
    simp only [decide_eq_true_eq] at hk
    subst hk
    unfold intA at h
    cases op <;> simp only [eq_self_iff_true, decide_true] at h
    case quo =>
      cases hb : decide (b = 0) <;> simp only [hb, Option.some.injEq, reduceCtorEq] at h
      have hb' : ¬ b = 0 := by simpa using hb
      exact ⟨_, by simp only [binOp, ne_eq, not_true_eq_false, if_false, Op.intDiv, if_neg hb']; rfl, h.symm⟩
    case rem =>
      cases hb : decide (b = 0) <;> simp only [hb, Option.some.injEq, reduceCtorEq] at h
      have hb' : ¬ b = 0 := by simpa using hb
      exact ⟨_, by simp only [binOp, ne_eq, not_true_eq_false, if_false, Op.intDiv, if_neg hb']; rfl, h.symm⟩
    case shl => exact absurd (.inl rfl) hs
    case shr => exact absurd (.inr rfl) hs
    all_goals
      simp only [Option.some.injEq, reduceCtorEq] at h
      exact ⟨_, by simp only [binOp, ne_eq, not_true_eq_false, if_false]; rfl, h.symm⟩
theorem toList_eq_beq (a b : ByteArray) : (a.toList == b.toList) = decide (a.data.toList = b.data.toList) := by
  rw [ByteArray.toList_eq, ByteArray.toList_eq]
  cases h : decide (a.data.toList = b.data.toList) with
  | true => simp only [decide_eq_true_eq] at h; rw [h]; simp
  | false => simp only [decide_eq_false_iff_not] at h; simpa using h
theorem size_data (a : ByteArray) : a.size = a.data.toList.length := rfl
theorem mk_append (a b : ByteArray) : a ++ b = ⟨⟨a.data.toList ++ b.data.toList⟩⟩ := by
  apply ByteArray.ext
  simp [ByteArray.data_append]
theorem strA_run {op : BinOp} {t : TypeId} {a b : ByteArray} {c : CV} (h : strA op a.data.toList b.data.toList = some c) :
    ∃ v, (binOp op t (.string a) (.string b)).run P w = .ok v w ∧ c = .v v := by
  unfold strA at h
  have hb : binOp op t (.string a) (.string b) = Op.stringOp op a b := by cases op <;> rfl
  rw [hb]
  cases op <;> simp only [Option.some.injEq, reduceCtorEq] at h
  · cases hs : small (a.data.toList.length + b.data.toList.length) <;> simp only [hs, Option.some.injEq, reduceCtorEq] at h
    simp only [small, decide_eq_true_eq] at hs
    refine ⟨_, ?_, h.symm⟩
    have : ¬ ((a.size + b.size : Nat) : Int) > IntKind.i64.max := by
      rw [size_data, size_data]
      simp only [IntKind.max, IntKind.bits, IntKind.signed]
      omega
    simp only [Op.stringOp, if_neg this, Sem.run_pure, mk_append]
  all_goals
    refine ⟨_, rfl, ?_⟩
    rw [← h]
    simp only [CV.bool]
    (try rw [toList_eq_beq])
    (try simp only [ByteArray.toList_eq])
theorem cellEq_run {d : TypeDesc} {c c' : CV} {b : Bool} (h : cellEq c c' = some b) : ∃ v v', c = .v v ∧ c' = .v v' ∧
    ((∃ k m n, v = .int k m ∧ v' = .int k n ∧ b = decide (m = n)) ∨ (∃ m n, v = .bool m ∧ v' = .bool n ∧ b = (m == n)) ∨ (∃ m n, v = .string m ∧ v' = .string n ∧ b = decide (m.data.toList = n.data.toList))) := by
  unfold cellEq at h
  split at h
  · rename_i k m k' n
    cases hk : decide (k = k') <;> simp only [hk, Option.some.injEq, reduceCtorEq] at h
    simp only [decide_eq_true_eq] at hk
    subst hk
    exact ⟨_, _, rfl, rfl, .inl ⟨_, _, _, rfl, rfl, h.symm⟩⟩
  · simp only [Option.some.injEq] at h
    exact ⟨_, _, rfl, rfl, .inr (.inl ⟨_, _, rfl, rfl, h.symm⟩)⟩
  · simp only [Option.some.injEq] at h
    exact ⟨_, _, rfl, rfl, .inr (.inr ⟨_, _, rfl, rfl, h.symm⟩)⟩
  · simp at h
theorem VRL_get : ∀ {cs : List CV} {vs : List Value}, VRL G w cs vs → cs.length = vs.length ∧ ∀ (j : Nat) c, cs[j]? = some c → ∃ v, vs[j]? = some v ∧ VR G w c v
  | [], vs, h => by simp only [VRL] at h; subst h; exact ⟨rfl, fun j c hc => by simp at hc⟩
  | c :: cs, vs, h => by
    simp only [VRL] at h
    obtain ⟨v, r, rfl, h1, h2⟩ := h
    obtain ⟨e, hg⟩ := VRL_get h2
    refine ⟨by simp [e], fun j x hx => ?_⟩
    cases j with
    | zero => simp only [List.getElem?_cons_zero, Option.some.injEq] at hx; subst hx; exact ⟨v, rfl, h1⟩
    | succ j => simpa using hg j x (by simpa using hx)
theorem LVRL_get : ∀ {cs : List LV} {vs : List Value}, LVRL G w L nl cs vs → cs.length = vs.length ∧ ∀ (j : Nat) c, cs[j]? = some c → ∃ v, vs[j]? = some v ∧ LVR G w L nl c v ∧ ∀ xs, c ≠ .osl xs
  | [], vs, h => by simp only [LVRL] at h; subst h; exact ⟨rfl, fun j c hc => by simp at hc⟩
  | c :: cs, vs, h => by
    simp only [LVRL] at h
    obtain ⟨v, r, rfl, h0, h1, h2⟩ := h
    obtain ⟨e, hg⟩ := LVRL_get h2
    refine ⟨by simp [e], fun j x hx => ?_⟩
    cases j with
    | zero => simp only [List.getElem?_cons_zero, Option.some.injEq] at hx; subst hx; exact ⟨v, rfl, h1, h0⟩
    | succ j => simpa using hg j x (by simpa using hx)
theorem unA_run {op : UnOp} {x : LV} {v : Value} {c : CV} (h : unA op x = some c) (hv : LVR G w L nl x v) :
    ∃ u, (Op.unary op v).run P w = .ok u w ∧ c = .v u := by
  unfold unA at h
  split at h
  · simp only [LVR, VR] at hv
    subst hv
    cases op <;> simp only [Option.some.injEq, reduceCtorEq] at h
    exact ⟨_, rfl, h.symm⟩
  · simp only [LVR, VR] at hv
    subst hv
    cases op <;> simp only [Option.some.injEq, reduceCtorEq] at h
    · exact ⟨_, by simp [Op.unary, Op.intArith], h.symm⟩
    · exact ⟨_, by simp [Op.unary, Op.intBits], h.symm⟩
  · simp at h
theorem pickA_rel {t : Bool} {x y : LV} {u v : Value} (hx : LVR G w L nl x u) (hy : LVR G w L nl y v) :
    LVR G w L nl (pickA t x y) (if t = true then u else v) ∧ ∀ b, Owns (pickA t x y) (if t = true then u else v) b → Owns x u b ∨ Owns y v b := by
  unfold pickA
  split
  · simp only [LVR, VR] at hx hy ⊢
    subst hx; subst hy
    exact ⟨by cases t <;> rfl, fun b hb => by simp [Owns] at hb⟩
  · cases t
    · exact ⟨hy, fun b hb => .inr hb⟩
    · exact ⟨hx, fun b hb => .inl hb⟩
end
end Go.Abs

set_option linter.unusedVariables false
set_option linter.unusedSimpArgs false
namespace Go.Abs
open Go
section
variable {G : Gh} {w : World} {L nl : Nat} {P : Program}
theorem part_scalar {t : TypeId} {d : TypeDesc} (h : P.underlying t = some d) (hs : ∀ fs, d ≠ .struct fs) (ha : ∀ n e, d ≠ .array n e) {cs : Array Value} {off : Nat} {v : Value} (hv : cs[off]? = some v) :
  (part t cs off).run P w = .ok v w := by
 simp only [part, isAgg, Sem.run_bind, run_underlying h, Result.andThen_ok]
 cases d <;> first
  | (exact absurd rfl (hs _))
  | (exact absurd rfl (ha _ _))
  | simp [hv]
theorem eqFields_run {xs ys : Array Value} {d : Nat} : ∀ (fs : List Field) (k : Nat) (ms ns : List CV) (r : Bool),
  (fs.zipIdx k).all (fun q => q.1.offset == q.2 && q.1.name != "_" && (match P.underlying q.1.type with | some (.int _) => true | some .bool => true | some .string => true | _ => false)) = true →
  kindsOK (fs.map fun f => (P.underlying f.type).getD .invalid) ms = true → kindsOK (fs.map fun f => (P.underlying f.type).getD .invalid) ns = true →
  (∀ j u, ms[j]? = some (.v u) → xs[k + j]? = some u) → (∀ j u, ns[j]? = some (.v u) → ys[k + j]? = some u) → cellsEq ms ns = some r →
  (Op.eqFields (d + 1) xs ys fs).run P w = .ok r w
 | [], k, ms, ns, r, h1, h2, h3, h4, h5, h6 => by
  cases ms <;> cases ns <;> simp [kindsOK, cellsEq] at h2 h3 h6
  subst h6
  simp [Op.eqFields]
 | f :: fs, k, ms, ns, r, h1, h2, h3, h4, h5, h6 => by
  cases ms with
  | nil => simp [kindsOK] at h2
  | cons m ms =>
   cases ns with
   | nil => simp [kindsOK] at h3
   | cons n ns =>
    simp only [List.map_cons, kindsOK, Bool.and_eq_true] at h2 h3
    simp only [List.zipIdx_cons, List.all_cons, Bool.and_eq_true, beq_iff_eq, bne_iff_ne] at h1
    obtain ⟨⟨⟨ho, hn⟩, hk⟩, hr⟩ := h1
    simp only [cellsEq] at h6
    obtain ⟨b, hb, h6⟩ := opt_some.1 h6
    obtain ⟨b2, hb2, h6⟩ := opt_some.1 h6
    simp only [Option.some.injEq] at h6
    have ih := eqFields_run (d := d) (xs := xs) (ys := ys) fs (k + 1) ms ns b2 (by simpa [Bool.and_eq_true] using hr) h2.2 h3.2 (fun j u hu => by have := h4 (j + 1) u (by simpa using hu); rw [← this]; congr 1; omega)
     (fun j u hu => by have := h5 (j + 1) u (by simpa using hu); rw [← this]; congr 1; omega) hb2
    obtain ⟨u, v, rfl, rfl, hc⟩ := cellEq_run (d := .bool) hb
    have hx := h4 0 u rfl
    have hy := h5 0 v rfl
    simp only [Nat.add_zero] at hx hy
    have hrun : (Op.equalIn (d + 1) f.type u v).run P w = .ok b w := by
     rcases hc with ⟨kk, m, n, rfl, rfl, rfl⟩ | ⟨m, n, rfl, rfl, rfl⟩ | ⟨m, n, rfl, rfl, rfl⟩
     ·have : ∃ k', P.underlying f.type = some (.int k') := by
       have h2' := h2.1
       split at hk <;> rename_i hu <;> simp only [hu, Option.getD_some, kindOK] at h2' <;> first | exact ⟨_, hu⟩ | simp at h2' | simp at hk
      obtain ⟨k', hu⟩ := this
      rw [run_equalIn_int w d f.type kk k' m n hu]; rfl
     ·have : P.underlying f.type = some .bool := by
       have h2' := h2.1
       split at hk <;> rename_i hu <;> simp only [hu, Option.getD_some, kindOK] at h2' <;> first | exact hu | simp at h2' | simp at hk
      rw [run_equalIn_bool' w d f.type m n this]
     ·have : P.underlying f.type = some .string := by
       have h2' := h2.1
       split at hk <;> rename_i hu <;> simp only [hu, Option.getD_some, kindOK] at h2' <;> first | exact hu | simp at h2' | simp at hk
      rw [run_equalIn_string w d f.type m n this, toList_eq_beq]
    have hp : ∀ {cs : Array Value} {v : Value}, cs[k]? = some v → (part f.type cs f.offset).run P w = .ok v w := by
     intro cs v hv
     rw [ho]
     split at hk <;> rename_i hu <;> first | exact part_scalar hu (by simp) (by simp) hv | simp at hk
    simp only [Op.eqFields, hn, ne_eq, not_false_eq_true, if_true, Sem.run_bind, hp hx, hp hy, Result.andThen_ok, hrun]
    cases b
    ·simp at h6; subst h6; simp
    ·simp at h6; subst h6; simpa using ih
theorem VR_slice_cons {x : CV} {xs : List CV} {u : Value} (h : VR G w (.sl (x :: xs)) u) : ∃ A n c, u = .slice (some A) (n + 1) c := by
 simp only [VR] at h
 obtain ⟨A, len, cap, rfl, hl, hc, h⟩ := h
 rcases h with h | ⟨b, off, s, rfl, _⟩
 ·simp [h] at hl
 ·exact ⟨_, xs.length, cap, by rw [hl]; rfl⟩
def NilEq (P : Program) (w : World) (t : TypeId) (u cn : Value) (r : Bool) : Prop :=
 (∀ op o, (eqGuard op t o (.const cn) u cn).run P w = .ok () w ∧ (eqGuard op t (.const cn) o cn u).run P w = .ok () w) ∧
 (binOp .eql t u cn).run P w = .ok (.bool r) w ∧ (binOp .neq t u cn).run P w = .ok (.bool (!r)) w ∧ (binOp .eql t cn u).run P w = .ok (.bool r) w ∧ (binOp .neq t cn u).run P w = .ok (.bool (!r)) w
theorem eqIn_ptr {t e : TypeId} (hd : P.underlying t = some (.pointer e)) (d : Nat) (A : Option Addr) :
  (Op.equalIn (d + 1) t (.pointer A) (.pointer none)).run P w = .ok A.isNone w ∧ (Op.equalIn (d + 1) t (.pointer none) (.pointer A)).run P w = .ok A.isNone w := by
 cases A <;> simp [Op.equalIn, run_underlying hd]
theorem eqIn_if {t : TypeId} {ms : Array (String × TypeId)} (hd : P.underlying t = some (.interface ms)) (d : Nat) : (Op.equalIn (d + 1) t .nilIface .nilIface).run P w = .ok true w := by
 simp [Op.equalIn, run_underlying hd]
theorem eqIn_if' {t k : TypeId} {v : Value} {ms : Array (String × TypeId)} (hd : P.underlying t = some (.interface ms)) (d : Nat) :
  (Op.equalIn (d + 1) t (.iface k v) .nilIface).run P w = .ok false w ∧ (Op.equalIn (d + 1) t .nilIface (.iface k v)).run P w = .ok false w := by
 simp [Op.equalIn, run_underlying hd]
theorem eqIn_sl {t e : TypeId} (hd : P.underlying t = some (.slice e)) (d : Nat) (A : Option Addr) (n c : Nat) (h : A = none → n = 0 ∧ c = 0) :
  (Op.equalIn (d + 1) t (.slice A n c) (.slice none 0 0)).run P w = .ok A.isNone w ∧ (Op.equalIn (d + 1) t (.slice none 0 0) (.slice A n c)).run P w = .ok A.isNone w := by
 cases A with
 | none => obtain ⟨rfl, rfl⟩ := h rfl; simp [Op.equalIn, run_underlying hd]
 | some a => simp [Op.equalIn, run_underlying hd]
theorem nil_of {t : TypeId} {u cn : Value} {r : Bool} (h1 : ∀ d, (Op.equalIn (d + 1) t u cn).run P w = .ok r w) (h2 : ∀ d, (Op.equalIn (d + 1) t cn u).run P w = .ok r w)
  (hg : ∀ op o, (eqGuard op t o (.const cn) u cn).run P w = .ok () w ∧ (eqGuard op t (.const cn) o cn u).run P w = .ok () w)
  (hb : binOp .eql t u cn = (do pure (.bool (← Op.equal t u cn))) ∧ binOp .neq t u cn = (do pure (.bool (!(← Op.equal t u cn)))) ∧ binOp .eql t cn u = (do pure (.bool (← Op.equal t cn u))) ∧ binOp .neq t cn u = (do pure (.bool (!(← Op.equal t cn u))))) :
  NilEq P w t u cn r := by
 have e1 : (Op.equal t u cn).run P w = .ok r w := h1 9999
 have e2 : (Op.equal t cn u).run P w = .ok r w := h2 9999
 refine ⟨hg, ?_, ?_, ?_, ?_⟩
 ·rw [hb.1, Sem.run_bind, e1]; rfl
 ·rw [hb.2.1, Sem.run_bind, e1]; rfl
 ·rw [hb.2.2.1, Sem.run_bind, e2]; rfl
 ·rw [hb.2.2.2, Sem.run_bind, e2]; rfl
theorem nil_ptr {t e : TypeId} (hd : P.underlying t = some (.pointer e)) (A : Option Addr) : NilEq P w t (.pointer A) (.pointer none) A.isNone :=
 nil_of (fun d => (eqIn_ptr hd d A).1) (fun d => (eqIn_ptr hd d A).2) (fun op o => by cases op <;> exact ⟨rfl, rfl⟩) ⟨rfl, rfl, rfl, rfl⟩
theorem nil_if {t : TypeId} {ms : Array (String × TypeId)} (hd : P.underlying t = some (.interface ms)) : NilEq P w t .nilIface .nilIface true :=
 nil_of (fun d => eqIn_if hd d) (fun d => eqIn_if hd d) (fun op o => by cases op <;> cases o <;> exact ⟨rfl, rfl⟩) ⟨rfl, rfl, rfl, rfl⟩
theorem nil_if' {t k : TypeId} {v : Value} {ms : Array (String × TypeId)} (hd : P.underlying t = some (.interface ms)) : NilEq P w t (.iface k v) .nilIface false :=
 nil_of (fun d => (eqIn_if' hd d).1) (fun d => (eqIn_if' hd d).2) (fun op o => by cases op <;> exact ⟨rfl, rfl⟩) ⟨rfl, rfl, rfl, rfl⟩
theorem nil_sl {t e : TypeId} (hd : P.underlying t = some (.slice e)) (A : Option Addr) (n c : Nat) (h : A = none → n = 0 ∧ c = 0) : NilEq P w t (.slice A n c) (.slice none 0 0) A.isNone :=
 nil_of (fun d => (eqIn_sl hd d A n c h).1) (fun d => (eqIn_sl hd d A n c h).2) (fun op o => by cases op <;> exact ⟨rfl, rfl⟩) ⟨rfl, rfl, rfl, rfl⟩
theorem equal_nil {t : TypeId} {d : TypeDesc} {u cn : Value} {r : Bool} {x : LV} (hd : P.underlying t = some d) (hx : nilA d cn x = some r) (hv : LVR G w L nl x u) : NilEq P w t u cn r := by
 unfold nilA at hx
 split at hx
 ·unfold nilPtr at hx
  split at hx <;> simp only [Option.some.injEq, reduceCtorEq] at hx <;> subst hx
  ·simp only [LVR, VR] at hv; subst hv; exact nil_ptr hd _
  ·simp only [LVR, VR] at hv; obtain ⟨b, off, rfl, _⟩ := hv; exact nil_ptr hd _
  ·simp only [LVR, VR] at hv; obtain ⟨_, rfl⟩ := hv; exact nil_ptr hd _
  ·simp only [LVR] at hv; obtain ⟨_, rfl⟩ := hv; exact nil_ptr hd _
 ·unfold nilIf at hx
  split at hx <;> simp only [Option.some.injEq, reduceCtorEq] at hx <;> subst hx
  ·simp only [LVR, VR] at hv; subst hv; exact nil_if hd
  ·simp only [LVR, VR] at hv; obtain ⟨v, rfl, _⟩ := hv; exact nil_if' hd
 ·unfold nilSl at hx
  split at hx <;> simp only [Option.some.injEq, reduceCtorEq] at hx <;> subst hx
  ·simp only [LVR, VR] at hv; subst hv; exact nil_sl hd none 0 0 (by simp)
  ·simp only [LVR] at hv; obtain ⟨A, n, c, rfl⟩ := VR_slice_cons hv; exact nil_sl hd (some A) _ _ (by simp)
  ·simp only [LVR] at hv; obtain ⟨A, n, c, rfl⟩ := VR_slice_cons (Owned_sl hv); exact nil_sl hd (some A) _ _ (by simp)
 ·simp at hx
theorem eqGuard_int {op : BinOp} {t : TypeId} {x y : Operand} {k k' : IntKind} {m n : Int} : (eqGuard op t x y (.int k m) (.int k' n)).run P w = .ok () w := by cases op <;> rfl
theorem eqGuard_str {op : BinOp} {t : TypeId} {x y : Operand} {m n : ByteArray} : (eqGuard op t x y (.string m) (.string n)).run P w = .ok () w := by cases op <;> rfl
theorem eqGuard_bool {op : BinOp} {t : TypeId} {x y : Operand} {m n : Bool} : (eqGuard op t x y (.bool m) (.bool n)).run P w = .ok () w := by cases op <;> rfl
theorem bool_eq {t : TypeId} (hd : P.underlying t = some .bool) (m n : Bool) : (Op.equal t (.bool m) (.bool n)).run P w = .ok (m == n) w := run_equalIn_bool' w 9999 t m n hd
theorem constOf_eq {x : Operand} {c : Value} (h : constOf x = some c) : x = .const c := by
 cases x <;> simp [constOf] at h ⊢; exact h
theorem binA_run {op : BinOp} {t : TypeId} {x y : Operand} {a b : LV} {c : CV} {u v : Value} (h : binA P op t x y a b = some c) (ha : LVR G w L nl a u) (hb : LVR G w L nl b v)
  (hx : ∀ cc, x = .const cc → u = cc) (hy : ∀ cc, y = .const cc → v = cc) :
  ∃ cv, (do eqGuard op t x y u v; binOp op t u v : Sem Value).run P w = .ok cv w ∧ c = .v cv := by
 unfold binA at h
 split at h
 ·simp only [LVR, VR] at ha hb; subst ha; subst hb
  obtain ⟨cv, h1, h2⟩ := intA_run (P := P) (w := w) (t := t) h
  exact ⟨cv, by simp only [Sem.run_bind, eqGuard_int, Result.andThen_ok]; exact h1, h2⟩
 ·simp only [LVR, VR] at ha hb; subst ha; subst hb
  obtain ⟨cv, h1, h2⟩ := strA_run (P := P) (w := w) (t := t) h
  exact ⟨cv, by simp only [Sem.run_bind, eqGuard_str, Result.andThen_ok]; exact h1, h2⟩
 ·simp only [LVR, VR] at ha hb; subst ha; subst hb
  rename_i m n
  split at h <;> simp only [Option.some.injEq, reduceCtorEq] at h
  ·rename_i ht
   refine ⟨.bool (m == n), ?_, h.symm⟩
   simp only [Sem.run_bind, eqGuard_bool, Result.andThen_ok]
   show ((do pure (Value.bool (← Op.equal t (.bool m) (.bool n))) : Sem Value).run P w) = _
   rw [Sem.run_bind, bool_eq ht]; rfl
  ·rename_i ht
   refine ⟨.bool (!(m == n)), ?_, h.symm⟩
   simp only [Sem.run_bind, eqGuard_bool, Result.andThen_ok]
   show ((do pure (Value.bool (!(← Op.equal t (.bool m) (.bool n)))) : Sem Value).run P w) = _
   rw [Sem.run_bind, bool_eq ht]; rfl
 ·rename_i m n
  obtain ⟨ds, h1, ha1⟩ := opt_some.1 h
  obtain ⟨h2, ha2⟩ := guardB_some.1 ha1
  obtain ⟨h3, ha3⟩ := guardB_some.1 ha2
  obtain ⟨r, h4, hfin⟩ := opt_some.1 ha3
  clear h ha1 ha2 ha3
  unfold plainFields at h1
  split at h1 <;> try (simp at h1; done)
  rename_i fs ht
  split at h1 <;> simp only [Option.some.injEq, reduceCtorEq] at h1
  rename_i hc
  simp only [Bool.and_eq_true, Bool.not_eq_true'] at hc
  subst h1
  have hf : P.fieldsOf t = fs := by simp [Program.fieldsOf, ht]
  simp only [LVR, VR] at ha hb
  obtain ⟨xs, rfl, hxs⟩ := ha
  obtain ⟨ys, rfl, hys⟩ := hb
  have hg : (Op.equalIn 10000 t (.agg xs) (.agg ys)).run P w = .ok r w := by
   rw [run_equalIn_struct w 9999 t xs ys (by rw [hf]; exact ht) hc.1.2, hf]
   refine eqFields_run fs.toList 0 m n r hc.1.1 h2 h3 (fun j u hu => ?_) (fun j u hu => ?_) h4
   ·obtain ⟨v, hv, hr⟩ := (VRL_get hxs).2 j _ hu
    simp only [VR] at hr
    subst hr
    simpa using hv
   ·obtain ⟨v, hv, hr⟩ := (VRL_get hys).2 j _ hu
    simp only [VR] at hr
    subst hr
    simpa using hv
  cases op <;> simp only [Option.some.injEq, reduceCtorEq] at hfin
  ·exact ⟨_, by simp only [Sem.run_bind, run_eqGuard_agg w _ t x y xs ys hc.2, Result.andThen_ok, run_eql_struct, hg], hfin.symm⟩
  ·exact ⟨_, by simp only [Sem.run_bind, run_eqGuard_agg w _ t x y xs ys hc.2, Result.andThen_ok, run_neq_struct, hg], hfin.symm⟩
 ·obtain ⟨d, hd, hb1⟩ := opt_some.1 h
  clear h
  simp only [] at hb1
  split at hb1
  ·rename_i cc hcc
   have hyc := constOf_eq hcc
   obtain ⟨r, hr, hfin⟩ := opt_some.1 hb1
   clear hb1
   have hv := hy cc hyc
   subst hv
   obtain ⟨hG, e1, e2, _, _⟩ := equal_nil (P := P) hd hr ha
   subst hyc
   cases op <;> simp only [Option.some.injEq, reduceCtorEq] at hfin
   ·exact ⟨_, by simp only [Sem.run_bind, (hG .eql x).1, Result.andThen_ok, e1], hfin.symm⟩
   ·exact ⟨_, by simp only [Sem.run_bind, (hG .neq x).1, Result.andThen_ok, e2], hfin.symm⟩
  ·obtain ⟨cc, hcc, hb2⟩ := opt_some.1 hb1
   have hxc := constOf_eq hcc
   obtain ⟨r, hr, hfin⟩ := opt_some.1 hb2
   clear hb1 hb2
   have hu := hx cc hxc
   subst hu
   obtain ⟨hG, _, _, e1, e2⟩ := equal_nil (P := P) hd hr hb
   subst hxc
   cases op <;> simp only [Option.some.injEq, reduceCtorEq] at hfin
   ·exact ⟨_, by simp only [Sem.run_bind, (hG .eql y).2, Result.andThen_ok, e1], hfin.symm⟩
   ·exact ⟨_, by simp only [Sem.run_bind, (hG .neq y).2, Result.andThen_ok, e2], hfin.symm⟩
end
end Go.Abs

set_option linter.unusedVariables false
set_option linter.unusedSimpArgs false
namespace Go.Abs
open Go
theorem add_none (b off j : Nat) : (⟨b, off, none⟩ : Addr).add j = ⟨b, off + j, none⟩ := by
 unfold Addr.add; split <;> simp_all
section
variable {G : Gh} {w : World} {L nl : Nat} {P : Program}
theorem CL_get {b : Nat} : ∀ {off : Nat} {cs : List CV}, CL G w b off cs → ∀ (j : Nat) c, cs[j]? = some c → ∃ v, w.cell? ⟨b, off + j, none⟩ = some v ∧ off + j < G.O b ∧ VR G w c v
 | off, [], h, j, c, hc => by simp at hc
 | off, x :: r, h, j, c, hc => by
  simp only [CL] at h
  cases j with
  | zero =>
   simp only [List.getElem?_cons_zero, Option.some.injEq] at hc
   subst hc
   exact h.1
  | succ j =>
   have := CL_get h.2 j c (by simpa using hc)
   rwa [show off + 1 + j = off + (j + 1) by omega] at this
theorem CL_drop {b : Nat} : ∀ {off : Nat} {cs : List CV} (n : Nat), CL G w b off cs → CL G w b (off + n) (cs.drop n)
 | off, cs, 0, h => by simpa using h
 | off, [], n + 1, h => by simp [CL]
 | off, x :: r, n + 1, h => by
  simp only [CL] at h
  rw [show off + (n + 1) = off + 1 + n by omega]
  exact CL_drop n h.2
theorem CL_take {b : Nat} : ∀ {off : Nat} {cs : List CV} (n : Nat), CL G w b off cs → CL G w b off (cs.take n)
 | off, cs, 0, h => by simp [CL]
 | off, [], n + 1, h => by simp [CL]
 | off, x :: r, n + 1, h => by
  simp only [CL, List.take_succ_cons] at h ⊢
  exact ⟨h.1, CL_take n h.2⟩
theorem CL_vals {b : Nat} : ∀ {off : Nat} {cs : List CV}, CL G w b off cs → ∃ vs, VRL G w cs vs ∧ ∀ (j : Nat) v, vs[j]? = some v → w.cell? ⟨b, off + j, none⟩ = some v
 | off, [], h => ⟨[], by simp [VRL], fun j v hv => by simp at hv⟩
 | off, x :: r, h => by
  simp only [CL] at h
  obtain ⟨⟨v, h1, h2, h3⟩, h4⟩ := h
  obtain ⟨vs, h5, h6⟩ := CL_vals h4
  refine ⟨v :: vs, by simp only [VRL]; exact ⟨v, vs, rfl, h3, h5⟩, fun j u hu => ?_⟩
  cases j with
  | zero => simp only [List.getElem?_cons_zero, Option.some.injEq] at hu; subst hu; exact h1
  | succ j => rw [show off + (j + 1) = off + 1 + j by omega]; exact h6 j u (by simpa using hu)
theorem isAggT_true {t : TypeId} (h : isAggT P t = true) : (isAgg t).run P w = .ok true w := by
 unfold isAggT at h
 split at h <;> first | (rename_i hu; simp [isAgg, run_underlying hu]; done) | simp at h
theorem isAggT_false {t : TypeId} {d : TypeDesc} (hd : P.underlying t = some d) (h : isAggT P t = false) : (isAgg t).run P w = .ok false w := by
 unfold isAggT at h
 simp only [isAgg, Sem.run_bind, run_underlying hd, Result.andThen_ok]
 rw [hd] at h
 cases d <;> simp at h ⊢
theorem sizeT_run {t : TypeId} {n : Nat} (h : sizeT P t = some n) : (sizeOf t).run P w = .ok n w := by
 unfold sizeT at h
 split at h <;> simp only [Option.some.injEq, reduceCtorEq] at h
 rename_i i hi
 simp [sizeOf, typeInfo, hi, h]
theorem sizeT_info {t : TypeId} {n : Nat} (h : sizeT P t = some n) : ∃ i, P.info? t = some i ∧ i.size = n := by
 unfold sizeT at h
 split at h <;> simp only [Option.some.injEq, reduceCtorEq] at h
 exact ⟨_, by assumption, h⟩
theorem load_list {t : TypeId} {b off : Nat} {vs : List Value} (hv : ∀ (j : Nat) v, vs[j]? = some v → w.cell? ⟨b, off + j, none⟩ = some v)
  (hd : ∃ d, P.underlying t = some d) :
  (isAggT P t = true → ∀ n, sizeT P t = some n → vs.length = n → (Instr.loadAt t (.pointer (some ⟨b, off, none⟩))).run P w = .ok (.agg vs.toArray) w) ∧
  (isAggT P t = false → ∀ v, vs[0]? = some v → (Instr.loadAt t (.pointer (some ⟨b, off, none⟩))).run P w = .ok v w) := by
 refine ⟨fun h n hn hl => ?_, fun h v h0 => ?_⟩
 ·simp only [Instr.loadAt, Instr.sureAddr, loadVar, Sem.run_bind, Sem.run_pure, Result.andThen_ok, isAggT_true h, if_true, sizeT_run hn]
  rw [← hl, run_loadCells_list (P := P) w ⟨b, off, none⟩ vs (fun j v hjv => by rw [add_none]; exact hv j v hjv)]
  simp
 ·obtain ⟨d, hd⟩ := hd
  have hc := hv 0 v h0
  simp only [Nat.add_zero] at hc
  simp [Instr.loadAt, Instr.sureAddr, loadVar, isAggT_false hd h, hc]
theorem takeAgg_load {t : TypeId} {b off k : Nat} {cs : List CV} {c : CV} (h : takeAgg1 P t cs k = some c) (hd : ∃ d, P.underlying t = some d) (hc : CL G w b off cs) :
  ∃ v, (Instr.loadAt t (.pointer (some ⟨b, off + k, none⟩))).run P w = .ok v w ∧ VR G w c v := by
 unfold takeAgg1 at h
 split at h
 ·rename_i ha
  obtain ⟨n, hn, h⟩ := opt_some.1 h
  split at h <;> simp only [Option.some.injEq, reduceCtorEq] at h
  rename_i hle
  have hle := Nat.le_of_ble_eq_true hle
  subst h
  obtain ⟨vs, h1, h2⟩ := CL_vals (CL_take n (CL_drop k hc))
  refine ⟨_, (load_list h2 hd).1 ha n hn ?_, ?_⟩
  ·rw [← (VRL_get h1).1]
   simp only [List.length_take, List.length_drop]
   omega
  ·simp only [VR]
   exact ⟨_, rfl, h1⟩
 ·rename_i ha
  obtain ⟨v, h1, h2, h3⟩ := CL_get hc k c h
  refine ⟨v, (load_list (vs := [v]) (fun j u hu => ?_) hd).2 (by simpa using ha) v rfl, h3⟩
  cases j with
  | zero => simp only [List.getElem?_cons_zero, Option.some.injEq] at hu; subst hu; exact h1
  | succ j => simp at hu
theorem VRL_take : ∀ (n : Nat) {cs : List CV} {vs : List Value}, VRL G w cs vs → VRL G w (cs.take n) (vs.take n)
 | 0, cs, vs, h => by simp [VRL]
 | n + 1, [], vs, h => by simp only [VRL] at h; subst h; simp [VRL]
 | n + 1, c :: cs, vs, h => by
  simp only [VRL] at h
  obtain ⟨v, r, rfl, h1, h2⟩ := h
  simp only [List.take_succ_cons, VRL]
  exact ⟨v, _, rfl, h1, VRL_take n h2⟩
theorem VRL_drop : ∀ (n : Nat) {cs : List CV} {vs : List Value}, VRL G w cs vs → VRL G w (cs.drop n) (vs.drop n)
 | 0, cs, vs, h => by simpa using h
 | n + 1, [], vs, h => by simp only [VRL] at h; subst h; simp [VRL]
 | n + 1, c :: cs, vs, h => by
  simp only [VRL] at h
  obtain ⟨v, r, rfl, h1, h2⟩ := h
  simpa using VRL_drop n h2
theorem takeAgg_part {t : TypeId} {k : Nat} {cs : List CV} {c : CV} {vs : Array Value} (h : takeAgg1 P t cs k = some c) (hd : ∃ d, P.underlying t = some d) (hc : VRL G w cs vs.toList) :
  ∃ v, (part t vs k).run P w = .ok v w ∧ VR G w c v := by
 unfold takeAgg1 at h
 obtain ⟨hl, hg⟩ := VRL_get hc
 split at h
 ·rename_i ha
  obtain ⟨n, hn, h⟩ := opt_some.1 h
  split at h <;> simp only [Option.some.injEq, reduceCtorEq] at h
  subst h
  refine ⟨_, by simp only [part, Sem.run_bind, isAggT_true ha, Result.andThen_ok, if_true, sizeT_run hn]; rfl, ?_⟩
  simp only [VR]
  refine ⟨_, rfl, ?_⟩
  have : (vs.extract k (k + n)).toList = (vs.toList.drop k).take n := by simp [List.take_drop, Nat.add_comm]
  rw [this]
  exact VRL_take n (VRL_drop k hc)
 ·rename_i ha
  obtain ⟨d, hd⟩ := hd
  obtain ⟨v, h1, h2⟩ := hg k c h
  have h1' : vs[k]? = some v := by simpa using h1
  exact ⟨v, by simp [part, isAggT_false hd (by simpa using ha), h1'], h2⟩
theorem fieldOff_some {s : TypeId} {f : Nat} {q : Nat × TypeId} (h : fieldOff P s f = some q) :
  ∃ fs fd n, P.underlying s = some (.struct fs) ∧ fs[f]? = some fd ∧ sizeT P fd.type = some (n + 1) ∧ q = (fd.offset, fd.type) := by
 unfold fieldOff at h
 split at h <;> try (simp at h; done)
 rename_i fs hu
 split at h <;> try (simp at h; done)
 rename_i fd hf
 split at h <;> simp only [Option.some.injEq, reduceCtorEq] at h
 exact ⟨fs, fd, _, hu, hf, by assumption, h.symm⟩
theorem fieldAt_run {s : TypeId} {f : Nat} {q : Nat × TypeId} (h : fieldOff P s f = some q) (b off : Nat) :
  (Instr.fieldAt s (.pointer (some ⟨b, off, none⟩)) f).run P w = .ok (.pointer (some ⟨b, off + q.1, none⟩)) w := by
 obtain ⟨fs, fd, n, hu, hf, hs, rfl⟩ := fieldOff_some h
 simp [Instr.fieldAt, run_underlying hu, hf, Instr.sureAddr, fieldPlace, sizeT_run hs, add_none]
theorem field_run {s : TypeId} {f : Nat} {q : Nat × TypeId} {cs : List CV} {c : CV} {vs : Array Value} (h : fieldOff P s f = some q) (ht : takeAgg1 P q.2 cs q.1 = some c) (hd : ∃ d, P.underlying q.2 = some d) (hc : VRL G w cs vs.toList) :
  ∃ v, (Instr.field s (.agg vs) f).run P w = .ok v w ∧ VR G w c v := by
 obtain ⟨fs, fd, n, hu, hf, hs, rfl⟩ := fieldOff_some h
 obtain ⟨v, h1, h2⟩ := takeAgg_part ht hd hc
 exact ⟨v, by simp [Instr.field, run_underlying hu, hf, asAgg, h1], h2⟩
theorem strAt_run {t : TypeId} {s : ByteArray} {k : IntKind} {i : Int} {b : UInt8} (ht : P.underlying t = some .string) (h : strAt s.data.toList i = some b) :
  (Instr.index t (.string s) (.int k i)).run P w = .ok (.int .u8 (b.toNat : Int)) w := by
 unfold strAt at h
 split at h <;> try (simp at h; done)
 rename_i h0
 simp only [decide_eq_true_eq] at h0
 obtain ⟨hl, hg⟩ := List.getElem?_eq_some_iff.1 h
 have hs : i.toNat < s.size := hl
 have : s[i.toNat]? = some b := by rw [ByteArray.getElem?_lt' s _ hs]; exact congrArg some hg
 simp [Instr.index, asIntOf, run_underlying ht, h0, this]
theorem cutA_some {α : Type} {xs r : List α} {lo hi : Int} (h : cutA xs lo hi = some r) : 0 ≤ lo ∧ lo ≤ hi ∧ hi ≤ (xs.length : Int) ∧ r = (xs.drop lo.toNat).take (hi - lo).toNat := by
 unfold cutA at h
 split at h <;> simp only [Option.some.injEq, reduceCtorEq] at h
 rename_i hc
 simp only [Bool.and_eq_true, decide_eq_true_eq] at hc
 exact ⟨hc.1.1, hc.1.2, hc.2, h.symm⟩
theorem boundK_some {α : Type} {ev : Operand → LV} {x : Option Operand} {d : Int} {k : Int → Option α} {r : α} (h : boundK ev x d k = some r) :
  (x = none ∧ k d = some r) ∨ ∃ o kd n, x = some o ∧ ev o = .cv (.v (.int kd n)) ∧ k n = some r := by
 unfold boundK at h
 cases x with
 | none => exact .inl ⟨rfl, h⟩
 | some o =>
  obtain ⟨n, h1, h2⟩ := opt_some.1 h
  obtain ⟨kd, e⟩ := anyInt_eq h1
  exact .inr ⟨o, kd, n, rfl, e, h2⟩
def BoundIs (x : Option Value) (d n : Int) : Prop := (x = none ∧ n = d) ∨ ∃ k, x = some (.int k n)
theorem sliceBounds_run {isS : Bool} {len cap : Nat} {lo hi : Option Value} {a b : Int} (hlc : len ≤ cap) (h0 : 0 ≤ a) (h1 : a ≤ b) (h2 : b ≤ (len : Int)) (hlo : BoundIs lo 0 a) (hhi : BoundIs hi (len : Int) b) :
  (Instr.sliceBounds isS len cap lo hi none).run P w = .ok (a.toNat, b.toNat, cap) w := by
 have hb : b ≤ (cap : Int) := by omega
 have hb0 : 0 ≤ b := by omega
 have hab : a ≤ (b.toNat : Int) := by omega
 rcases hhi with ⟨rfl, rfl⟩ | ⟨k, rfl⟩ <;> rcases hlo with ⟨rfl, rfl⟩ | ⟨k', rfl⟩ <;>
  simp [Instr.sliceBounds, Instr.sliceBound, asIntOf, h0, hb0, hb, hab] <;> omega
theorem sliceStr_run {t : TypeId} {s : ByteArray} {lo hi : Option Value} {a b : Int} {r : List UInt8} (ht : P.underlying t = some .string) (h : cutA s.data.toList a b = some r)
  (hlo : BoundIs lo 0 a) (hhi : BoundIs hi (s.data.toList.length : Int) b) : (Instr.sliceAt t (.string s) lo hi none).run P w = .ok (.string ⟨⟨r⟩⟩) w := by
 obtain ⟨h0, h1, h2, rfl⟩ := cutA_some h
 have hb := sliceBounds_run (P := P) (w := w) (isS := false) (len := s.size) (cap := s.size) (Nat.le_refl _) h0 h1 h2 hlo hhi
 have he : s.extract a.toNat b.toNat = ⟨⟨(s.data.toList.drop a.toNat).take (b - a).toNat⟩⟩ := by
  apply ByteArray.ext
  apply Array.ext'
  simp only [ByteArray.data_extract, Array.toList_extract, List.extract_eq_take_drop]
  congr 1
  omega
 simp [Instr.sliceAt, run_underlying ht, Instr.slice, hb, he]
theorem EL_drop {b s : Nat} : ∀ {off : Nat} {xs : List CV} (n : Nat), EL G w b s off xs → EL G w b s (off + n * s) (xs.drop n)
 | off, xs, 0, h => by simpa using h
 | off, [], n + 1, h => by simp [EL]
 | off, x :: r, n + 1, h => by
  have h2 : EL G w b s (off + s) r := by cases x <;> simp only [EL] at h <;> exact h.2
  rw [show off + (n + 1) * s = off + s + n * s by rw [Nat.add_mul]; omega]
  exact EL_drop n h2
theorem EL_take {b s : Nat} : ∀ {off : Nat} {xs : List CV} (n : Nat), EL G w b s off xs → EL G w b s off (xs.take n)
 | off, xs, 0, h => by simp [EL]
 | off, [], n + 1, h => by simp [EL]
 | off, x :: r, n + 1, h => by
  cases x <;> simp only [EL, List.take_succ_cons] at h ⊢ <;> exact ⟨h.1, EL_take n h.2⟩
theorem sliceSl_run {t e : TypeId} {xs r : List CV} {v : Value} {lo hi : Option Value} {a b : Int} {n : Nat} (ht : P.underlying t = some (.slice e)) (hsz : sizeT P e = some n) (hv : VR G w (.sl xs) v)
  (h : cutA xs a b = some r) (hu : sliceOK n a xs = true) (hlo : BoundIs lo 0 a) (hhi : BoundIs hi (xs.length : Int) b) :
  ∃ u, (Instr.sliceAt t v lo hi none).run P w = .ok u w ∧ VR G w (.sl r) u := by
 obtain ⟨h0, h1, h2, rfl⟩ := cutA_some h
 simp only [VR] at hv
 obtain ⟨A, len, cap, rfl, rfl, hc, hx⟩ := hv
 have hb := sliceBounds_run (P := P) (w := w) (isS := true) hc h0 h1 h2 hlo hhi
 refine ⟨.slice (if cap = a.toNat then A else A.map (·.add (a.toNat * n))) (b.toNat - a.toNat) (cap - a.toNat), ?_, ?_⟩
 ·simp [Instr.sliceAt, run_underlying ht, Instr.slice, hb, sizeT_run hsz]
 ·simp only [VR]
  refine ⟨_, _, _, rfl, ?_, by omega, ?_⟩
  ·simp only [List.length_take, List.length_drop]; omega
  ·rcases hx with hx | ⟨bl, off, s, rfl, hs, hl⟩
   ·left; omega
   ·by_cases hab : b.toNat - a.toNat = 0
    ·left; exact hab
    ·right
     have hne : cap ≠ a.toNat := by omega
     have hsn : a.toNat * n = a.toNat * s := by
      unfold sliceOK at hu
      split at hu
      ·rename_i h0'
       simp only [decide_eq_true_eq] at h0'
       subst h0'; simp
      ·cases xs with
       | nil => simp at h2; omega
       | cons x r =>
        simp only [allSz] at hu
        split at hu <;> try (simp at hu; done)
        rename_i he
        simp only [elemOK, Bool.and_eq_true] at he
        rw [← hs x (by simp), Nat.eq_of_beq_eq_true he.1]
     refine ⟨bl, off + a.toNat * s, s, by simp [hne, add_none, hsn], fun x hx => hs x (List.mem_of_mem_drop (List.mem_of_mem_take hx)), EL_take _ (EL_drop _ hl)⟩
end
end Go.Abs

set_option linter.unusedVariables false
set_option linter.unusedSimpArgs false
namespace Go.Abs
open Go
section
variable {G : Gh} {w : World} {L nl : Nat} {P : Program}
theorem solid1_one {c : CV} {v : Value} (h : solid1 c = true) (hv : VR G w c v) : v.oneCell' = true := by
 cases c <;> simp only [solid1, Bool.false_eq_true, VR] at h hv
 ·subst hv; exact h
 ·obtain ⟨_, _, _, rfl, _⟩ := hv; rfl
 ·obtain ⟨_, _, rfl, _⟩ := hv; rfl
 ·obtain ⟨_, rfl⟩ := hv; rfl
 ·obtain ⟨_, _, _, _, _, rfl, _⟩ := hv; rfl
 ·obtain ⟨_, rfl, _⟩ := hv; rfl
 ·obtain ⟨_, rfl, _⟩ := hv; rfl
 ·obtain ⟨_, _, _, rfl, _⟩ := hv; rfl
 ·obtain ⟨_, rfl⟩ := hv; rfl
 ·obtain ⟨_, rfl, _⟩ := hv; rfl
theorem one_cells {v : Value} (h : v.oneCell' = true) : v.cells = #[v] := by
 cases v <;> simp [Value.oneCell', Value.cells] at h ⊢
theorem solids_one : ∀ {cs : List CV} {vs : List Value}, solids cs = true → VRL G w cs vs → ∀ v ∈ vs, v.oneCell' = true
 | [], vs, _, h => by simp only [VRL] at h; subst h; simp
 | c :: cs, vs, hs, h => by
  simp only [VRL] at h
  obtain ⟨v, r, rfl, h1, h2⟩ := h
  simp only [solids] at hs
  split at hs <;> try (simp at hs; done)
  rename_i h1s
  intro u hu
  rcases List.mem_cons.1 hu with rfl | hu
  ·exact solid1_one h1s h1
  ·exact solids_one hs h2 u hu
theorem solid_cells {c : CV} {v : Value} (h : solid c = true) (hv : VR G w c v) : VRL G w c.cells v.cells.toList ∧ ∀ u ∈ v.cells.toList, u.oneCell' = true := by
 unfold solid at h
 split at h
 ·rename_i cs
  simp only [VR] at hv
  obtain ⟨vs, rfl, hl⟩ := hv
  exact ⟨hl, solids_one h hl⟩
 ·rename_i hne
  have h1 := solid1_one h hv
  rw [one_cells h1]
  have : c.cells = [c] := by cases c <;> simp [CV.cells, solid1] at hne h ⊢
  rw [this]
  exact ⟨by simp only [VRL]; exact ⟨v, [], rfl, hv, rfl⟩, by simpa using h1⟩
theorem VRL_len {cs : List CV} {vs : List Value} (h : VRL G w cs vs) : cs.length = vs.length := (VRL_get h).1
theorem zeroCells_run {t : TypeId} {cs : List CV} (h : zeroCells P t = some cs) : ∃ z i, P.info? t = some i ∧ i.zero = some z ∧ (zeroValue t).run P w = .ok z w ∧ VRL G w cs z.cells.toList := by
 unfold zeroCells at h
 split at h <;> try (simp at h; done)
 rename_i i hi
 split at h <;> try (simp at h; done)
 rename_i z hz
 refine ⟨z, i, hi, hz, by simp [zeroValue, typeInfo, hi, hz], ?_⟩
 split at h <;> simp only [Option.some.injEq] at h <;> subst h
 ·exact VRL_v _
 ·rename_i hne
  have : z.cells = #[z] := by cases z <;> simp [Value.cells] at hne ⊢
  rw [this]
  simp only [VRL]
  exact ⟨z, [], rfl, by simp [VR], rfl⟩
def putAll : Array Value → Nat → List Value → Array Value
 | a, _, [] => a
 | a, off, v :: r => putAll (a.setIfInBounds off v) (off + 1) r
theorem foldl_putAll (off : Nat) : ∀ (l : List Value) (k : Nat) (a : Array Value), (l.zipIdx k).foldl (fun cs q => cs.setIfInBounds (off + q.2) q.1) a = putAll a (off + k) l
 | [], k, a => rfl
 | v :: r, k, a => by
  simp only [List.zipIdx_cons, List.foldl_cons, putAll]
  rw [foldl_putAll off r (k + 1)]
  rfl
theorem putAll_size : ∀ (l : List Value) (off : Nat) (a : Array Value), (putAll a off l).size = a.size
 | [], off, a => rfl
 | v :: r, off, a => by simp [putAll, putAll_size r]
theorem putAll_below : ∀ (l : List Value) (off : Nat) (a : Array Value) (j : Nat), j < off → (putAll a off l)[j]? = a[j]?
 | [], off, a, j, h => rfl
 | v :: r, off, a, j, h => by
  simp only [putAll]
  rw [putAll_below r (off + 1) _ j (by omega), Array.getElem?_setIfInBounds_ne (by omega)]
theorem putAll_above : ∀ (l : List Value) (off : Nat) (a : Array Value) (j : Nat), off + l.length ≤ j → (putAll a off l)[j]? = a[j]?
 | [], off, a, j, h => rfl
 | v :: r, off, a, j, h => by
  simp only [putAll, List.length_cons] at h ⊢
  rw [putAll_above r (off + 1) _ j (by omega), Array.getElem?_setIfInBounds_ne (by omega)]
theorem putAll_at : ∀ (l : List Value) (off : Nat) (a : Array Value) (j : Nat), off + l.length ≤ a.size → j < l.length → (putAll a off l)[off + j]? = l[j]?
 | [], off, a, j, h, hj => by simp at hj
 | v :: r, off, a, j, h, hj => by
  simp only [putAll, List.length_cons] at h hj ⊢
  cases j with
  | zero =>
   rw [putAll_below r (off + 1) _ _ (by omega)]
   simp only [Nat.add_zero, List.getElem?_cons_zero]
   rw [Array.getElem?_setIfInBounds_self, if_pos (by omega)]
  | succ j =>
   have := putAll_at r (off + 1) (a.setIfInBounds off v) j (by simp; omega) (by omega)
   rw [show off + (j + 1) = off + 1 + j by omega, this]
   simp
theorem setRange_len {α : Type} : ∀ (l : List α) (cs : List α) (off : Nat), (setRange cs off l).length = cs.length
 | [], cs, off => rfl
 | v :: r, cs, off => by simp [setRange, setRange_len r]
theorem setRange_below {α : Type} : ∀ (l : List α) (off : Nat) (a : List α) (j : Nat), j < off → (setRange a off l)[j]? = a[j]?
 | [], off, a, j, h => rfl
 | v :: r, off, a, j, h => by
  simp only [setRange]
  rw [setRange_below r (off + 1) _ j (by omega), List.getElem?_set_ne (by omega)]
theorem setRange_above {α : Type} : ∀ (l : List α) (off : Nat) (a : List α) (j : Nat), off + l.length ≤ j → (setRange a off l)[j]? = a[j]?
 | [], off, a, j, h => rfl
 | v :: r, off, a, j, h => by
  simp only [setRange, List.length_cons] at h ⊢
  rw [setRange_above r (off + 1) _ j (by omega), List.getElem?_set_ne (by omega)]
theorem setRange_at {α : Type} : ∀ (l : List α) (off : Nat) (a : List α) (j : Nat), off + l.length ≤ a.length → j < l.length → (setRange a off l)[off + j]? = l[j]?
 | [], off, a, j, h, hj => by simp at hj
 | v :: r, off, a, j, h, hj => by
  simp only [setRange, List.length_cons] at h hj ⊢
  cases j with
  | zero =>
   rw [setRange_below r (off + 1) _ _ (by omega)]
   simp only [Nat.add_zero, List.getElem?_cons_zero]
   rw [List.getElem?_set_self (by omega)]
  | succ j =>
   have := setRange_at r (off + 1) (a.set off v) j (by simp; omega) (by omega)
   rw [show off + (j + 1) = off + 1 + j by omega, this]
   simp
theorem VRL_of_get : ∀ {cs : List CV} {vs : List Value}, cs.length = vs.length → (∀ (j : Nat) c v, cs[j]? = some c → vs[j]? = some v → VR G w c v) → VRL G w cs vs
 | [], [], _, _ => by simp [VRL]
 | [], _ :: _, h, _ => by simp at h
 | _ :: _, [], h, _ => by simp at h
 | c :: cs, v :: vs, h, hg => by
  simp only [VRL]
  exact ⟨v, vs, rfl, hg 0 c v rfl rfl, VRL_of_get (by simpa using h) fun j c v hc hv => hg (j + 1) c v (by simpa using hc) (by simpa using hv)⟩
theorem VRL_setRange {cs : List CV} {a : Array Value} {off : Nat} {ds : List CV} {us : List Value} (h : VRL G w cs a.toList) (hd : VRL G w ds us) (hle : off + ds.length ≤ cs.length) :
  VRL G w (setRange cs off ds) (putAll a off us).toList := by
 have hl := VRL_len h
 have hl2 := VRL_len hd
 refine VRL_of_get (by rw [setRange_len, hl]; simp [putAll_size]) fun j c v hc hv => ?_
 have hv' : (putAll a off us)[j]? = some v := by simpa using hv
 have has : a.toList.length = a.size := by simp
 by_cases h1 : j < off
 ·rw [setRange_below _ _ _ _ h1] at hc
  rw [putAll_below _ _ _ _ h1] at hv'
  obtain ⟨u, hu, hr⟩ := (VRL_get h).2 j c hc
  have : u = v := by rw [Array.getElem?_toList, hv'] at hu; exact (Option.some.inj hu).symm
  subst this; exact hr
 ·by_cases h2 : off + ds.length ≤ j
  ·rw [setRange_above _ _ _ _ h2] at hc
   rw [putAll_above _ _ _ _ (by omega)] at hv'
   obtain ⟨u, hu, hr⟩ := (VRL_get h).2 j c hc
   have : u = v := by rw [Array.getElem?_toList, hv'] at hu; exact (Option.some.inj hu).symm
   subst this; exact hr
  ·obtain ⟨k, rfl⟩ : ∃ k, j = off + k := ⟨j - off, by omega⟩
   rw [setRange_at _ _ _ _ hle (by omega)] at hc
   rw [putAll_at _ _ _ _ (by omega) (by omega)] at hv'
   obtain ⟨u, hu, hr⟩ := (VRL_get hd).2 k c hc
   have : u = v := by rw [hv'] at hu; exact (Option.some.inj hu).symm
   subst this; exact hr
inductive PartsR (G : Gh) (w : World) : List (Nat × CV) → List (Nat × Value) → Prop
 | nil : PartsR G w [] []
 | cons {i c v r s} (h : VR G w c v) (hs : solid c = true) (t : PartsR G w r s) : PartsR G w ((i, c) :: r) ((i, v) :: s)
theorem fill_run {place : Nat → Option (Nat × Nat)} : ∀ {ps : List (Nat × CV)} {qs : List (Nat × Value)} {cs out : List CV} {a : Array Value},
  PartsR G w ps qs → VRL G w cs a.toList → fillA place cs ps = some out → ∃ b, Instr.fill place a qs = some b ∧ VRL G w out b.toList ∧ b.size = a.size
 | _, _, cs, out, a, .nil, h, hf => by
  simp only [fillA, Option.some.injEq] at hf
  subst hf
  exact ⟨a, rfl, h, rfl⟩
 | _, _, cs, out, a, .cons (i := i) (c := c) (v := v) (r := r) (s := s) hv hs t, h, hf => by
  simp only [fillA] at hf
  split at hf <;> try (simp at hf; done)
  rename_i q hq
  split at hf <;> try (simp at hf; done)
  rename_i hc
  simp only [Bool.and_eq_true] at hc
  have h1 := Nat.eq_of_beq_eq_true hc.1
  have h2 := Nat.le_of_ble_eq_true hc.2
  obtain ⟨hcl, _⟩ := solid_cells hs hv
  have hlen := VRL_len hcl
  have hl := VRL_len h
  have hsz : v.cells.size = q.2 := by rw [← h1, hlen]; simp
  obtain ⟨b, hb, hr, hbs⟩ := fill_run (a := putAll a q.1 v.cells.toList) t (VRL_setRange h hcl (by omega)) hf
  refine ⟨b, ?_, hr, by rw [hbs, putAll_size]⟩
  obtain ⟨o, z⟩ := q
  simp only at hsz h1 h2 hb
  simp only [Instr.fill, hq]
  have has : a.toList.length = a.size := by simp
  have hcond : (decide (v.cells.size ≠ z) || decide (o + v.cells.size > a.size)) = false := by
   rw [Bool.or_eq_false_iff]
   refine ⟨by simp [hsz], ?_⟩
   have : o + v.cells.size ≤ a.size := by omega
   simpa using this
  rw [if_neg (by rw [hcond]; simp)]
  rw [← Array.foldl_toList, Array.toList_zipIdx]
  have := foldl_putAll o v.cells.toList 0 a
  simp only [Nat.add_zero] at this
  rw [this]
  exact hb
theorem partsCV_rel {s : S} {μ : Mu} {a : Act} (R : Rel G L s μ a.tmps w) (h : OpHint) : ∀ {l : List (Nat × Operand)} {ps : List (Nat × CV)}, partsCV (evA h s.fr) l = some ps →
  PartsR G w ps (l.map fun q => (q.1, a.eval q.2))
 | [], ps, hp => by simp only [partsCV, Option.some.injEq] at hp; subst hp; exact .nil
 | q :: r, ps, hp => by
  simp only [partsCV] at hp
  obtain ⟨c, h1, h2⟩ := opt_some.1 hp
  obtain ⟨h3, h4⟩ := guardB_some.1 h2
  obtain ⟨l, h5, h6⟩ := opt_some.1 h4
  simp only [Option.some.injEq] at h6
  subst h6
  exact .cons (getCv_rel h1 (eval_rel R h q.2).1) h3 (partsCV_rel R h h5)
end
end Go.Abs

set_option linter.unusedVariables false
set_option linter.unusedSimpArgs false
namespace Go.Abs
open Go
def Gh.setO (G : Gh) (b n : Nat) : Gh := { G with O := fun x => if x = b then n else G.O x }
theorem setO_same {G : Gh} {b n : Nat} : (G.setO b n).O b = n := by simp [Gh.setO]
theorem setO_other {G : Gh} {b n x : Nat} (h : x ≠ b) : (G.setO b n).O x = G.O x := by simp [Gh.setO, h]
section
variable {G : Gh} {w : World} {L : Nat} {P : Program}
theorem cell_lt {a : Addr} {v : Value} (h : w.cell? a = some v) : a.block < w.heap.size := block_lt_of_cell h
theorem heap_lt {b : Nat} {o : Obj} (h : w.heap[b]? = some o) : b < w.heap.size := (Array.getElem?_eq_some_iff.1 h).1
theorem Owns_block {x : LV} {v : Value} {b nl : Nat} (h : LVR G w L nl x v) (ho : Owns x v b) : b < w.heap.size := by
 cases x <;> simp only [Owns] at ho
 simp only [LVR] at h
 rcases h with ⟨rfl, rfl⟩ | ⟨b', cap, cur, e, s, rfl, hb, _⟩
 ·simp at ho
 ·subst ho; exact heap_lt hb
theorem lamOb_lt {l : Lam} {i : Nat} (h : isLive (lamOb l i)) : i < l.length := by
 by_cases hi : i < l.length
 ·exact hi
 ·simp only [lamOb] at h
  rw [List.getElem?_eq_none (by omega)] at h
  exact h.elim
theorem live_cases {s : S} {μ : Mu} (hL : μ.length = L) {lev i : Nat} (h : isLive (obAt (μ ++ [s.lam]) lev i)) : (lev < L ∧ obAt (μ ++ [s.lam]) lev i = muOb μ lev i) ∨ (lev = L ∧ i < s.lam.length ∧ obAt (μ ++ [s.lam]) lev i = lamOb s.lam i) := by
 rcases Nat.lt_trichotomy lev L with h1 | h1 | h1
 ·exact .inl ⟨h1, muOb_lt (by omega)⟩
 ·subst h1
  rw [← hL] at h ⊢
  have e : obAt (μ ++ [s.lam]) μ.length i = lamOb s.lam i := muOb_eq
  rw [e] at h
  exact .inr ⟨rfl, lamOb_lt h, e⟩
 ·rw [← hL] at h1
  simp only [obAt, muOb_gt h1] at h
  exact h.elim
theorem ObR_lt {nl b sz : Nat} {o : Ob} (h : ObR G w L nl b sz o) (hl : isLive o) : b < w.heap.size := by
 cases o with
 | dead => exact hl.elim
 | cells cs => obtain ⟨cur, e, fz, h1, _⟩ := h; exact heap_lt h1
 | arr k cs => obtain ⟨_, cur, e, fz, h1, _⟩ := h; exact heap_lt h1
 | map ks vs => obtain ⟨es, clk, h1, _⟩ := h; exact heap_lt h1
theorem Rel.touch_lt {s : S} {μ : Mu} {tm : Array Value} (R : Rel G L s μ tm w) {b : Nat} (h : Touch G w s.fr tm (μ ++ [s.lam]) b) : b < w.heap.size := by
 rcases h with ⟨l, h⟩ | ⟨lev, i, hl, rfl⟩
 ·cases l with
  | fr t => exact Owns_block (R.fr t) h
  | ob lev i k =>
   simp only [OwnsAt] at h
   split at h <;> try (exact h.elim)
   rename_i cs hcs
   split at h <;> try (exact h.elim)
   rename_i x hx
   obtain ⟨cur, e, fz, hb, ho⟩ := h
   have hlive : isLive (obAt (μ ++ [s.lam]) lev i) := by rw [hcs]; trivial
   rcases live_cases R.lev hlive with ⟨h1, h2⟩ | ⟨rfl, h1, h2⟩
   ·have := R.mu lev i h1
    rw [← h2, hcs] at this
    simp only [ObR] at this
    obtain ⟨cur', e', fz', hb', _, _, _, h5⟩ := this
    rw [hb] at hb'
    obtain ⟨rfl, _⟩ := (Obj.cells.injEq ..).mp (Option.some.inj hb')
    exact Owns_block (h5 k x hx) ho
   ·have := R.lam i
    rw [← h2, hcs] at this
    simp only [ObR] at this
    obtain ⟨cur', e', fz', hb', _, _, _, h5⟩ := this
    rw [hb] at hb'
    obtain ⟨rfl, _⟩ := (Obj.cells.injEq ..).mp (Option.some.inj hb')
    exact Owns_block (h5 k x hx) ho
 ·rcases live_cases R.lev hl with ⟨h1, h2⟩ | ⟨rfl, h1, h2⟩
  ·rw [h2] at hl; exact ObR_lt (R.mu lev i h1) hl
  ·rw [h2] at hl; exact ObR_lt (R.lam i) hl
theorem cell_alloc_old {o : Obj} {b off : Nat} (h : b < w.heap.size) : (w.alloc o).cell? ⟨b, off, none⟩ = w.cell? ⟨b, off, none⟩ := World.cell?_alloc_lt w o _ h
theorem Le_alloc (o : Obj) (n : Nat) : Le G w (G.setO w.heap.size n) (w.alloc o) := by
 refine ⟨fun b es clk h hb => ?_, fun _ _ h => ⟨h, rfl, rfl⟩, fun b off v h hc => ?_, fun b cur e fz h => ?_⟩
 ·have hlt : b < w.heap.size := heap_lt hb
  rw [setO_other (by omega), heap_alloc_old w o hlt]
  exact ⟨h, hb⟩
 ·have hb : b < w.heap.size := cell_lt hc
  rw [setO_other (by omega), cell_alloc_old hb]
  exact ⟨h, hc⟩
 ·exact ⟨cur, fz, by rw [heap_alloc_old w o (heap_lt h)]; exact h, rfl⟩
theorem Rel.alloc {s : S} {μ : Mu} {tm : Array Value} (R : Rel G L s μ tm w) (o : Obj) (n : Nat) :
  Rel (G.setO w.heap.size n) L s μ tm (w.alloc o) ∧
  (∀ l b, OwnsAt (G.setO w.heap.size n) (w.alloc o) s.fr tm (μ ++ [s.lam]) l b → OwnsAt G w s.fr tm (μ ++ [s.lam]) l b) :=
 R.frame (Le_alloc o n) (fun b hb => ⟨heap_alloc_old w o (R.touch_lt hb), setO_other (by have := R.touch_lt hb; omega)⟩) (fun _ _ _ => ⟨rfl, rfl⟩) rfl
theorem Ext.alloc {T T' : Nat → Prop} (o : Obj) (n : Nat) (h : ∀ b, T' b → T b ∨ w.heap.size ≤ b) : Ext L T G w (G.setO w.heap.size n) (w.alloc o) T' :=
 ⟨Le_alloc o n, rfl, rfl, rfl, by simp, fun b hb _ => ⟨heap_alloc_old w o hb, setO_other (by omega)⟩, h, fun _ _ => ⟨fun _ => ⟨rfl, rfl⟩, rfl⟩⟩
theorem Rel.drew {s : S} {μ : Mu} {tm : Array Value} (R : Rel G L s μ tm w) : Rel G L s μ tm w.drew ∧ (∀ l b, OwnsAt G w.drew s.fr tm (μ ++ [s.lam]) l b → OwnsAt G w s.fr tm (μ ++ [s.lam]) l b) :=
 R.frame ⟨fun _ _ _ h hb => ⟨h, hb⟩, fun _ _ h => ⟨h, rfl, rfl⟩, fun _ _ _ h hc => ⟨h, hc⟩, fun b cur e fz h => ⟨cur, fz, h, rfl⟩⟩ (fun _ _ => ⟨rfl, rfl⟩) (fun _ _ _ => ⟨rfl, rfl⟩) rfl
theorem EL_of {b s : Nat} : ∀ {xs : List CV} {off : Nat} {vs : List Value}, (∀ x ∈ xs, x.cells.length = s) → VRL G w (xs.flatMap CV.cells) vs →
  (∀ (j : Nat) v, vs[j]? = some v → w.cell? ⟨b, off + j, none⟩ = some v ∧ off + j < G.O b) → EL G w b s off xs
 | [], off, vs, _, _, _ => by simp [EL]
 | x :: r, off, vs, hs, h, hc => by
  have hx := hs x (by simp)
  have key : ∀ (cs : List CV) (off : Nat) (vs : List Value), VRL G w cs vs → (∀ (j : Nat) v, vs[j]? = some v → w.cell? ⟨b, off + j, none⟩ = some v ∧ off + j < G.O b) → CL G w b off cs := by
   intro cs
   induction cs with
   | nil => intro off vs _ _; simp [CL]
   | cons c cs ih =>
    intro off vs h hc
    simp only [VRL] at h
    obtain ⟨v, q, rfl, h1, h2⟩ := h
    simp only [CL]
    refine ⟨⟨v, (hc 0 v rfl).1, (hc 0 v rfl).2, h1⟩, ih (off + 1) q h2 fun j u hu => ?_⟩
    have := hc (j + 1) u (by simpa using hu)
    rwa [show off + (j + 1) = off + 1 + j by omega] at this
  have split : ∃ us ws, vs = us ++ ws ∧ us.length = s ∧ VRL G w x.cells us ∧ VRL G w (r.flatMap CV.cells) ws := by
   simp only [List.flatMap_cons] at h
   refine ⟨vs.take s, vs.drop s, (List.take_append_drop s vs).symm, ?_, ?_, ?_⟩
   ·have := VRL_len h
    simp only [List.length_append] at this
    simp only [List.length_take]; omega
   ·have := VRL_take s h
    rwa [List.take_left' hx] at this
   ·have := VRL_drop s h
    rwa [List.drop_left' hx] at this
  obtain ⟨us, ws, rfl, hul, h1, h2⟩ := split
  have hcl := key x.cells off us h1 fun j v hv => hc j v (by rw [List.getElem?_append_left (List.getElem?_eq_some_iff.1 hv).1]; exact hv)
  have hel : EL G w b s (off + s) r := EL_of (fun y hy => hs y (by simp [hy])) h2 fun j v hv => by
   have := hc (s + j) v (by rw [List.getElem?_append_right (by omega)]; rw [← hv]; congr 1; omega)
   rwa [show off + (s + j) = off + s + j by omega] at this
  cases x <;> simp only [EL, CV.cells, CL, and_true] at hcl ⊢ <;> exact ⟨hcl, hel⟩
theorem flat_len {xs : List CV} {s : Nat} (h : ∀ x ∈ xs, x.cells.length = s) : (xs.flatMap CV.cells).length = xs.length * s := by
 induction xs with
 | nil => simp
 | cons x r ih =>
  simp only [List.flatMap_cons, List.length_append, List.length_cons, h x (by simp), ih fun y hy => h y (by simp [hy])]
  rw [Nat.add_mul]; omega
theorem allSz_cells {sz : Nat} : ∀ {xs : List CV}, allSz sz xs = true → (∀ x ∈ xs, x.cells.length = sz ∧ solid x = true)
 | [], _ => by simp
 | x :: r, h => by
  simp only [allSz] at h
  split at h <;> try (simp at h; done)
  rename_i he
  simp only [elemOK, Bool.and_eq_true] at he
  intro y hy
  rcases List.mem_cons.1 hy with rfl | hy
  ·exact ⟨Nat.eq_of_beq_eq_true he.1, he.2⟩
  ·exact allSz_cells h y hy
end
end Go.Abs

set_option linter.unusedVariables false
set_option linter.unusedSimpArgs false
namespace Go.Abs
open Go
def Gh.setL (G : Gh) (L m b k : Nat) (pushed : Bool) : Gh where
 O := fun x => if x = b then 0 else G.O x
 β := fun l i => if l = L ∧ i = m then b else G.β l i
 n := fun l => if l = L ∧ pushed = true then m + 1 else G.n l
 sz := fun l i => if l = L ∧ i = m then k else G.sz l i
section
variable {G : Gh} {w : World} {L : Nat} {P : Program}
theorem lamOb_app_lt {l : Lam} {o : Ob} {i : Nat} (h : i < l.length) : lamOb (l ++ [o]) i = lamOb l i := by
 simp [lamOb, List.getElem?_append_left h]
theorem lamOb_app_eq {l : Lam} {o : Ob} : lamOb (l ++ [o]) l.length = o := by
 simp [lamOb]
theorem lamOb_app_gt {l : Lam} {o : Ob} {i : Nat} (h : l.length < i) : lamOb (l ++ [o]) i = .dead := by
 simp only [lamOb]
 rw [List.getElem?_eq_none (by simp; omega)]
def CellOwns (cs : List LV) (cur : Array Value) (k b : Nat) : Prop := ∃ x, cs[k]? = some x ∧ Owns x (cur.getD k undef) b
theorem Rel.newLocal {s : S} {μ : Mu} {tm : Array Value} (R : Rel G L s μ tm w) {cur : Array Value} {e : TypeId} {ob : Ob} {k : Nat} {fz : Nat × Nat} (hfz : Unfrozen cur fz)
  (hob : (∃ cs, ob = .cells cs ∧ cs.length ≤ cur.size ∧ ∀ j x, cs[j]? = some x → LVR G w L s.lam.length x (cur.getD j undef)) ∨
   (∃ cs, ob = .arr k cs ∧ cs.length ≤ cur.size ∧ ∀ j x, cs[j]? = some x → VR G w x (cur.getD j undef)))
  (hown : ∀ cs j b, ob = .cells cs → CellOwns cs cur j b → (∀ l, ¬ OwnsAt G w s.fr tm (μ ++ [s.lam]) l b) ∧ (∀ lev i, isLive (obAt (μ ++ [s.lam]) lev i) → G.β lev i ≠ b) ∧ ∀ j', CellOwns cs cur j' b → j' = j) :
  let G1 := G.setL L s.lam.length w.heap.size k s.pushed
  let w1 := w.alloc (.cells cur e fz)
  let s1 : S := { s with lam := s.lam ++ [ob] }
  Rel G1 L s1 μ tm w1 ∧ Le G w G1 w1 ∧
  (∀ b, Touch G1 w1 s1.fr tm (μ ++ [s1.lam]) b → Touch G w s.fr tm (μ ++ [s.lam]) b ∨ b = w.heap.size ∨ ∃ cs j, ob = .cells cs ∧ CellOwns cs cur j b) ∧
  LVR G1 w1 L s1.lam.length (.loc s.lam.length 0) (.pointer (some ⟨w.heap.size, 0, none⟩)) := by
 intro G1 w1 s1
 have hβ : ∀ lev i, lev < L ∨ (lev = L ∧ i < s.lam.length) → G1.β lev i = G.β lev i ∧ G1.sz lev i = G.sz lev i := by
  intro lev i h
  have : ¬ (lev = L ∧ i = s.lam.length) := by omega
  simp only [G1, Gh.setL, this, if_false, and_self]
 have hβn : G1.β L s.lam.length = w.heap.size ∧ G1.sz L s.lam.length = k := by simp [G1, Gh.setL]
 have hO : ∀ b, b ≠ w.heap.size → G1.O b = G.O b := fun b h => by simp [G1, Gh.setL, h]
 have hOn : G1.O w.heap.size = 0 := by simp [G1, Gh.setL]
 have hn : ∀ lev, lev ≠ L → G1.n lev = G.n lev := fun lev h => by simp [G1, Gh.setL, h]
 have hnL : G1.n L = if s.pushed then s.lam.length + 1 else 0 := by
  have := R.nL
  cases hp : s.pushed <;> simp [G1, Gh.setL, hp, this] at this ⊢
 have hle : Le G w G1 w1 := by
  refine ⟨fun b es clk h hb => ?_, fun lev i h => ?_, fun b off v h hc => ?_, fun b cur' e' fz' h => ?_⟩
  ·have hlt : b < w.heap.size := heap_lt hb
   rw [hO b (by omega), heap_alloc_old w _ hlt]
   exact ⟨h, hb⟩
  ·by_cases hl : lev = L
   ·subst hl
    have := R.nL
    cases hp : s.pushed <;> simp only [hp, if_true, if_false, Bool.false_eq_true] at this
    ·omega
    ·have hb := hβ lev i (.inr ⟨rfl, by omega⟩)
     refine ⟨?_, hb⟩
     rw [hnL, hp, if_pos rfl]; omega
   ·by_cases hlt : lev < L
    ·exact ⟨by rw [hn lev hl]; exact h, hβ lev i (.inl hlt)⟩
    ·have := R.ngt lev (by omega)
     omega
  ·have hb : b < w.heap.size := cell_lt hc
   rw [hO b (by omega), cell_alloc_old hb]
   exact ⟨h, hc⟩
  ·exact ⟨cur', _, by rw [heap_alloc_old w _ (heap_lt h)]; exact h, rfl⟩
 have hT : ∀ b, Touch G w s.fr tm (μ ++ [s.lam]) b → w1.heap[b]? = w.heap[b]? ∧ G1.O b = G.O b := fun b hb => by
  have := R.touch_lt hb
  exact ⟨heap_alloc_old w _ this, hO b (by omega)⟩
 have hlen : s1.lam.length = s.lam.length + 1 := by simp [s1]
 have hnew : w1.heap[w.heap.size]? = some (.cells cur e fz) := heap_alloc_new w _
 have hlive : ∀ lev i, isLive (obAt (μ ++ [s1.lam]) lev i) → (isLive (obAt (μ ++ [s.lam]) lev i) ∧ obAt (μ ++ [s1.lam]) lev i = obAt (μ ++ [s.lam]) lev i ∧ G1.β lev i = G.β lev i ∧ (lev < L ∨ (lev = L ∧ i < s.lam.length))) ∨ (lev = L ∧ i = s.lam.length ∧ obAt (μ ++ [s1.lam]) lev i = ob) := by
  intro lev i h
  rcases live_cases (s := s1) R.lev h with ⟨h1, h2⟩ | ⟨rfl, h1, h2⟩
  ·have e : obAt (μ ++ [s.lam]) lev i = muOb μ lev i := muOb_lt (by rw [R.lev]; exact h1)
   rw [h2] at h ⊢
   exact .inl ⟨by rw [e]; exact h, e.symm, (hβ lev i (.inl h1)).1, .inl h1⟩
  ·rw [hlen] at h1
   by_cases hi : i < s.lam.length
   ·have e : obAt (μ ++ [s.lam]) lev i = lamOb s.lam i := by rw [← R.lev]; exact muOb_eq
    have e2 : lamOb s1.lam i = lamOb s.lam i := lamOb_app_lt hi
    rw [h2, e2] at h ⊢
    exact .inl ⟨by rw [e]; exact h, e.symm, (hβ lev i (.inr ⟨rfl, hi⟩)).1, .inr ⟨rfl, hi⟩⟩
   ·have : i = s.lam.length := by omega
    subst this
    rw [h2]
    exact .inr ⟨rfl, rfl, lamOb_app_eq⟩
 have hownAt : ∀ l b, OwnsAt G1 w1 s1.fr tm (μ ++ [s1.lam]) l b → OwnsAt G w s.fr tm (μ ++ [s.lam]) l b ∨ ∃ cs j, ob = .cells cs ∧ CellOwns cs cur j b ∧ l = .ob L s.lam.length j := by
  intro l b h
  cases l with
  | fr t => exact .inl h
  | ob lev i j =>
   simp only [OwnsAt] at h ⊢
   split at h <;> try (exact h.elim)
   rename_i cs hcs
   split at h <;> try (exact h.elim)
   rename_i x hx
   obtain ⟨cur', e', fz', hb, ho⟩ := h
   have hl : isLive (obAt (μ ++ [s1.lam]) lev i) := by rw [hcs]; trivial
   rcases hlive lev i hl with ⟨h1, h2, h3, h4⟩ | ⟨rfl, rfl, h2⟩
   ·left
    rw [← h2, hcs]
    simp only [hx]
    rw [h3] at hb
    have : G.β lev i < w.heap.size := R.touch_lt (.inr ⟨lev, i, h1, rfl⟩)
    rw [heap_alloc_old w _ this] at hb
    exact ⟨cur', e', fz', hb, ho⟩
   ·right
    rw [h2] at hcs
    rw [hβn.1, hnew] at hb
    obtain ⟨rfl, _⟩ := (Obj.cells.injEq ..).mp (Option.some.inj hb)
    exact ⟨cs, j, hcs, ⟨x, hx, ho⟩, rfl⟩
 refine ⟨⟨R.lev, fun t => ?_, fun i => ?_, fun lev i hl => ?_, fun lev i lev' i' h h' e' => ?_, fun l l' b h h' => ?_, fun l b lev i h h' e' => ?_, fun lev hl => ?_, ?_, fun lev hl => ?_⟩, hle, fun b hb => ?_, ?_⟩
 ·rw [hlen]
  exact LVR_mono hle (Nat.le_succ _) (fun i hi => hβ L i (.inr ⟨rfl, hi⟩)) _ _ (fun b hb => hT b (.inl ⟨.fr t, hb⟩)) (R.fr t)
 ·rw [hlen]
  by_cases hi : i < s.lam.length
  ·have e1 : obAt (μ ++ [s.lam]) L i = lamOb s.lam i := by rw [← R.lev]; exact muOb_eq
   have e2 : lamOb s1.lam i = lamOb s.lam i := lamOb_app_lt hi
   rw [e2, (hβ L i (.inr ⟨rfl, hi⟩)).1, (hβ L i (.inr ⟨rfl, hi⟩)).2]
   refine ObR_mono hle (Nat.le_succ _) (fun i hi => hβ L i (.inr ⟨rfl, hi⟩)) (fun hl => hT _ (.inr ⟨L, i, by rw [e1]; exact hl, rfl⟩)) (fun cs j x cur e fz ho hx hb b' hb' => hT b' (.inl ⟨.ob L i j, ?_⟩)) (R.lam i)
   simp only [OwnsAt, e1, ho, hx]
   exact ⟨cur, e, fz, hb, hb'⟩
  ·by_cases hi' : i = s.lam.length
   ·subst hi'
    have e2 : lamOb s1.lam s.lam.length = ob := lamOb_app_eq
    rw [e2, hβn.1, hβn.2]
    rcases hob with ⟨cs, rfl, hc, hr⟩ | ⟨cs, rfl, hc, hr⟩
    ·simp only [ObR]
     refine ⟨cur, e, fz, hnew, hfz, hOn, hc, fun j x hx => ?_⟩
     refine LVR_mono hle (Nat.le_succ _) (fun i hi => hβ L i (.inr ⟨rfl, hi⟩)) _ _ (fun b hb => ?_) (hr j x hx)
     have hlt : b < w.heap.size := Owns_block (hr j x hx) hb
     exact ⟨heap_alloc_old w _ hlt, hO b (by omega)⟩
    ·simp only [ObR]
     exact ⟨trivial, cur, e, fz, hnew, hfz, hOn, hc, fun j x hx => VR_mono hle x _ (hr j x hx)⟩
   ·have e2 : lamOb s1.lam i = .dead := lamOb_app_gt (by omega)
    rw [e2]
    trivial
 ·have e1 : obAt (μ ++ [s.lam]) lev i = muOb μ lev i := muOb_lt (by rw [R.lev]; exact hl)
  rw [(hβ lev i (.inl hl)).1, (hβ lev i (.inl hl)).2]
  refine ObR_mono (hle.below lev) (Nat.le_refl _) (fun i hi => by omega) (fun h => hT _ (.inr ⟨lev, i, by rw [e1]; exact h, rfl⟩)) (fun cs j x cur e fz ho hx hb b' hb' => hT b' (.inl ⟨.ob lev i j, ?_⟩)) (R.mu lev i hl)
  simp only [OwnsAt, e1, ho, hx]
  exact ⟨cur, e, fz, hb, hb'⟩
 ·rcases hlive lev i h with ⟨h1, h2, h3, _⟩ | ⟨rfl, rfl, h2⟩ <;> rcases hlive lev' i' h' with ⟨h1', h2', h3', _⟩ | ⟨rfl, rfl, h2'⟩
  ·rw [h3, h3'] at e'; exact R.inj lev i lev' i' h1 h1' e'
  ·rw [h3, hβn.1] at e'
   have := R.touch_lt (.inr ⟨lev, i, h1, rfl⟩)
   omega
  ·rw [h3', hβn.1] at e'
   have := R.touch_lt (.inr ⟨lev', i', h1', rfl⟩)
   omega
  ·exact ⟨rfl, rfl⟩
 ·rcases hownAt l b h with h1 | ⟨cs, j, h1, h2, rfl⟩ <;> rcases hownAt l' b h' with h1' | ⟨cs', j', h1', h2', rfl⟩
  ·exact R.own l l' b h1 h1'
  ·exact absurd h1 ((hown cs' j' b h1' h2').1 l)
  ·exact absurd h1' ((hown cs j b h1 h2).1 l')
  ·rw [h1] at h1'
   injection h1' with h1'
   subst h1'
   rw [(hown cs j b h1 h2).2.2 j' h2']
 ·rcases hlive lev i h' with ⟨h2, h3, h4, _⟩ | ⟨rfl, rfl, h3⟩
  ·rw [h4] at e'
   rcases hownAt l b h with h1 | ⟨cs, j, h1, h1', rfl⟩
   ·exact R.apart l b lev i h1 h2 e'
   ·exact (hown cs j b h1 h1').2.1 lev i h2 e'
  ·rw [hβn.1] at e'
   rcases hownAt l b h with h1 | ⟨cs, j, h1, h1', rfl⟩
   ·have := R.touch_lt (.inl ⟨l, h1⟩)
    omega
   ·rcases hob with ⟨cs', e3, hc, hr⟩ | ⟨cs', e3, hc, hr⟩
    ·rw [h1] at e3
     injection e3 with e3
     subst e3
     obtain ⟨x, hx, ho⟩ := h1'
     have := Owns_block (hr j x hx) ho
     omega
    ·rw [h1] at e3; cases e3
 ·rw [hn lev (by omega)]; exact R.nlt lev hl
 ·rw [hnL, hlen]
 ·rw [hn lev (by omega)]; exact R.ngt lev hl
 ·rcases hb with ⟨l, hb⟩ | ⟨lev, i, hl, rfl⟩
  ·rcases hownAt l b hb with h1 | ⟨cs, j, h1, h2, rfl⟩
   ·exact .inl (.inl ⟨l, h1⟩)
   ·exact .inr (.inr ⟨cs, j, h1, h2⟩)
  ·rcases hlive lev i hl with ⟨h1, h2, h3, _⟩ | ⟨rfl, rfl, h2⟩
   ·exact .inl (.inr ⟨lev, i, h1, h3.symm⟩)
   ·exact .inr (.inl hβn.1)
 ·simp only [LVR]
  exact ⟨by rw [hlen]; omega, by rw [hβn.1]⟩
theorem Rel.newMap {s : S} {μ : Mu} {tm : Array Value} (R : Rel G L s μ tm w) :
  let G1 := G.setL L s.lam.length w.heap.size 0 s.pushed
  let w1 := w.alloc (.map #[] 0)
  let s1 : S := { s with lam := s.lam ++ [.map [] []] }
  Rel G1 L s1 μ tm w1 ∧ Le G w G1 w1 ∧
  (∀ b, Touch G1 w1 s1.fr tm (μ ++ [s1.lam]) b → Touch G w s.fr tm (μ ++ [s.lam]) b ∨ b = w.heap.size) ∧
  LVR G1 w1 L s1.lam.length (.mloc s.lam.length) (.map (some w.heap.size)) := by
 intro G1 w1 s1
 have hβ : ∀ lev i, lev < L ∨ (lev = L ∧ i < s.lam.length) → G1.β lev i = G.β lev i ∧ G1.sz lev i = G.sz lev i := by
  intro lev i h
  have : ¬ (lev = L ∧ i = s.lam.length) := by omega
  simp only [G1, Gh.setL, this, if_false, and_self]
 have hβn : G1.β L s.lam.length = w.heap.size ∧ G1.sz L s.lam.length = 0 := by simp [G1, Gh.setL]
 have hO : ∀ b, b ≠ w.heap.size → G1.O b = G.O b := fun b h => by simp [G1, Gh.setL, h]
 have hOn : G1.O w.heap.size = 0 := by simp [G1, Gh.setL]
 have hn : ∀ lev, lev ≠ L → G1.n lev = G.n lev := fun lev h => by simp [G1, Gh.setL, h]
 have hnL : G1.n L = if s.pushed then s.lam.length + 1 else 0 := by
  have := R.nL
  cases hp : s.pushed <;> simp [G1, Gh.setL, hp, this] at this ⊢
 have hle : Le G w G1 w1 := by
  refine ⟨fun b es clk h hb => ?_, fun lev i h => ?_, fun b off v h hc => ?_, fun b cur' e' fz' h => ?_⟩
  ·have hlt : b < w.heap.size := heap_lt hb
   rw [hO b (by omega), heap_alloc_old w _ hlt]
   exact ⟨h, hb⟩
  ·by_cases hl : lev = L
   ·subst hl
    have := R.nL
    cases hp : s.pushed <;> simp only [hp, if_true, if_false, Bool.false_eq_true] at this
    ·omega
    ·have hb := hβ lev i (.inr ⟨rfl, by omega⟩)
     refine ⟨?_, hb⟩
     rw [hnL, hp, if_pos rfl]; omega
   ·by_cases hlt : lev < L
    ·exact ⟨by rw [hn lev hl]; exact h, hβ lev i (.inl hlt)⟩
    ·have := R.ngt lev (by omega)
     omega
  ·have hb : b < w.heap.size := cell_lt hc
   rw [hO b (by omega), cell_alloc_old hb]
   exact ⟨h, hc⟩
  ·exact ⟨cur', _, by rw [heap_alloc_old w _ (heap_lt h)]; exact h, rfl⟩
 have hT : ∀ b, Touch G w s.fr tm (μ ++ [s.lam]) b → w1.heap[b]? = w.heap[b]? ∧ G1.O b = G.O b := fun b hb => by
  have := R.touch_lt hb
  exact ⟨heap_alloc_old w _ this, hO b (by omega)⟩
 have hlen : s1.lam.length = s.lam.length + 1 := by simp [s1]
 have hnew : w1.heap[w.heap.size]? = some (.map #[] 0) := heap_alloc_new w _
 have hlive : ∀ lev i, isLive (obAt (μ ++ [s1.lam]) lev i) → (isLive (obAt (μ ++ [s.lam]) lev i) ∧ obAt (μ ++ [s1.lam]) lev i = obAt (μ ++ [s.lam]) lev i ∧ G1.β lev i = G.β lev i ∧ (lev < L ∨ (lev = L ∧ i < s.lam.length))) ∨ (lev = L ∧ i = s.lam.length ∧ obAt (μ ++ [s1.lam]) lev i = .map [] []) := by
  intro lev i h
  rcases live_cases (s := s1) R.lev h with ⟨h1, h2⟩ | ⟨rfl, h1, h2⟩
  ·have e : obAt (μ ++ [s.lam]) lev i = muOb μ lev i := muOb_lt (by rw [R.lev]; exact h1)
   rw [h2] at h ⊢
   exact .inl ⟨by rw [e]; exact h, e.symm, (hβ lev i (.inl h1)).1, .inl h1⟩
  ·rw [hlen] at h1
   by_cases hi : i < s.lam.length
   ·have e : obAt (μ ++ [s.lam]) lev i = lamOb s.lam i := by rw [← R.lev]; exact muOb_eq
    have e2 : lamOb s1.lam i = lamOb s.lam i := lamOb_app_lt hi
    rw [h2, e2] at h ⊢
    exact .inl ⟨by rw [e]; exact h, e.symm, (hβ lev i (.inr ⟨rfl, hi⟩)).1, .inr ⟨rfl, hi⟩⟩
   ·have : i = s.lam.length := by omega
    subst this
    rw [h2]
    exact .inr ⟨rfl, rfl, lamOb_app_eq⟩
 have hownAt : ∀ l b, OwnsAt G1 w1 s1.fr tm (μ ++ [s1.lam]) l b → OwnsAt G w s.fr tm (μ ++ [s.lam]) l b := by
  intro l b h
  cases l with
  | fr t => exact h
  | ob lev i j =>
   simp only [OwnsAt] at h ⊢
   split at h <;> try (exact h.elim)
   rename_i cs hcs
   split at h <;> try (exact h.elim)
   rename_i x hx
   obtain ⟨cur', e', fz', hb, ho⟩ := h
   have hl : isLive (obAt (μ ++ [s1.lam]) lev i) := by rw [hcs]; trivial
   rcases hlive lev i hl with ⟨h1, h2, h3, h4⟩ | ⟨rfl, rfl, h2⟩
   ·rw [← h2, hcs]
    simp only [hx]
    rw [h3] at hb
    have : G.β lev i < w.heap.size := R.touch_lt (.inr ⟨lev, i, h1, rfl⟩)
    rw [heap_alloc_old w _ this] at hb
    exact ⟨cur', e', fz', hb, ho⟩
   ·rw [h2] at hcs
    cases hcs
 refine ⟨⟨R.lev, fun t => ?_, fun i => ?_, fun lev i hl => ?_, fun lev i lev' i' h h' e' => ?_, fun l l' b h h' => ?_, fun l b lev i h h' e' => ?_, fun lev hl => ?_, ?_, fun lev hl => ?_⟩, hle, fun b hb => ?_, ?_⟩
 ·rw [hlen]
  exact LVR_mono hle (Nat.le_succ _) (fun i hi => hβ L i (.inr ⟨rfl, hi⟩)) _ _ (fun b hb => hT b (.inl ⟨.fr t, hb⟩)) (R.fr t)
 ·rw [hlen]
  by_cases hi : i < s.lam.length
  ·have e1 : obAt (μ ++ [s.lam]) L i = lamOb s.lam i := by rw [← R.lev]; exact muOb_eq
   have e2 : lamOb s1.lam i = lamOb s.lam i := lamOb_app_lt hi
   rw [e2, (hβ L i (.inr ⟨rfl, hi⟩)).1, (hβ L i (.inr ⟨rfl, hi⟩)).2]
   refine ObR_mono hle (Nat.le_succ _) (fun i hi => hβ L i (.inr ⟨rfl, hi⟩)) (fun hl => hT _ (.inr ⟨L, i, by rw [e1]; exact hl, rfl⟩)) (fun cs j x cur e fz ho hx hb b' hb' => hT b' (.inl ⟨.ob L i j, ?_⟩)) (R.lam i)
   simp only [OwnsAt, e1, ho, hx]
   exact ⟨cur, e, fz, hb, hb'⟩
  ·by_cases hi' : i = s.lam.length
   ·subst hi'
    have e2 : lamOb s1.lam s.lam.length = .map [] [] := lamOb_app_eq
    rw [e2, hβn.1, hβn.2]
    simp only [ObR]
    exact ⟨#[], 0, hnew, hOn, rfl, by simp [VRL]⟩
   ·have e2 : lamOb s1.lam i = .dead := lamOb_app_gt (by omega)
    rw [e2]
    trivial
 ·have e1 : obAt (μ ++ [s.lam]) lev i = muOb μ lev i := muOb_lt (by rw [R.lev]; exact hl)
  rw [(hβ lev i (.inl hl)).1, (hβ lev i (.inl hl)).2]
  refine ObR_mono (hle.below lev) (Nat.le_refl _) (fun i hi => by omega) (fun h => hT _ (.inr ⟨lev, i, by rw [e1]; exact h, rfl⟩)) (fun cs j x cur e fz ho hx hb b' hb' => hT b' (.inl ⟨.ob lev i j, ?_⟩)) (R.mu lev i hl)
  simp only [OwnsAt, e1, ho, hx]
  exact ⟨cur, e, fz, hb, hb'⟩
 ·rcases hlive lev i h with ⟨h1, h2, h3, _⟩ | ⟨rfl, rfl, h2⟩ <;> rcases hlive lev' i' h' with ⟨h1', h2', h3', _⟩ | ⟨rfl, rfl, h2'⟩
  ·rw [h3, h3'] at e'; exact R.inj lev i lev' i' h1 h1' e'
  ·rw [h3, hβn.1] at e'
   have := R.touch_lt (.inr ⟨lev, i, h1, rfl⟩)
   omega
  ·rw [h3', hβn.1] at e'
   have := R.touch_lt (.inr ⟨lev', i', h1', rfl⟩)
   omega
  ·exact ⟨rfl, rfl⟩
 ·exact R.own l l' b (hownAt l b h) (hownAt l' b h')
 ·rcases hlive lev i h' with ⟨h2, h3, h4, _⟩ | ⟨rfl, rfl, h3⟩
  ·rw [h4] at e'
   exact R.apart l b lev i (hownAt l b h) h2 e'
  ·rw [hβn.1] at e'
   have := R.touch_lt (.inl ⟨l, hownAt l b h⟩)
   omega
 ·rw [hn lev (by omega)]; exact R.nlt lev hl
 ·rw [hnL, hlen]
 ·rw [hn lev (by omega)]; exact R.ngt lev hl
 ·rcases hb with ⟨l, hb⟩ | ⟨lev, i, hl, rfl⟩
  ·exact .inl (.inl ⟨l, hownAt l b hb⟩)
  ·rcases hlive lev i hl with ⟨h1, h2, h3, _⟩ | ⟨rfl, rfl, h2⟩
   ·exact .inl (.inr ⟨lev, i, h1, h3.symm⟩)
   ·exact .inr hβn.1
 ·simp only [LVR]
  exact ⟨by rw [hlen]; omega, by rw [hβn.1]⟩
end
end Go.Abs
