/-
  The statement ExprChecksCardSaid, proved; part 5 of 10 of its proof.
  The hints of each function, and what reads a struct. Printed by a program.
  Library contracts at this program, laid by the shelf's tool; a part of them.
-/
import Derived.Test.YtmemoghbijcebaaGreatDoorP3
import Derived.ProofKit
import Derived.KernelRfl
import Derived.Below
import Derived.Lib.MapU
import Derived.Lib.AtoiAll
import Derived.Lib.ItoaNum
import Derived.Lib.IndexAny
import Derived.Lib.IndexMore
import Derived.Lib.Replace
import Derived.Lib.TrimByte
import Derived.Test.YtmemoghbijcebaaGreatDoorProg
import Derived.Shelf.Strings.Builder1
import Derived.Shelf.Strings.Builder2
import Derived.Shelf.Strings.OnBuilder
import Derived.Shelf.Strings.Trim
import Derived.Shelf.Small.Utf8
import Derived.Shelf.Small.Strs
import Derived.Shelf.Strings.BuilderF
import Derived.Shelf.Strings.BuilderK
import Derived.Shelf.Strings.BuilderRune
import Derived.Shelf.Utf8.RuneCount
import Derived.Shelf.Strings.Builder2Cap
import Derived.Shelf.Strconv.Atoi
import Derived.Shelf.Strconv.Itoa0
import Derived.Shelf.Strconv.Itoa1
import Derived.Shelf.LaysM
import Derived.Shelf.Strconv.Itoa2
import Derived.Shelf.Strconv.Itoa3
import Derived.Shelf.Strconv.AtoiErrFast
import Derived.Shelf.Strconv.ParseIntEmpty
import Derived.Shelf.Strconv.AtoiFail
import Derived.Shelf.Strconv.Clone
import Derived.Shelf.Strconv.SyntaxError
import Derived.Shelf.LaysC
import Derived.Shelf.Strconv.ToError
import Derived.Shelf.Strconv.Lower
import Derived.Shelf.Strconv.ParseUint10
import Derived.Shelf.Strconv.ParseUint10Empty
import Derived.Shelf.Strconv.ParseUint10Any
import Derived.Shelf.Strconv.ParseInt10
import Derived.Shelf.Strconv.AtoiLong
import Derived.Shelf.Strconv.AtoiInnerAll
import Derived.Shelf.Strconv.RangeError
import Derived.Shelf.Strconv.ToErrorRange
import Derived.Shelf.Strconv.AtoiAll
import Derived.Shelf.Strconv.ErrVarAll
import Derived.Shelf.Strings.Search1
import Derived.Shelf.Strings.Search2
import Derived.Shelf.Strings.Search3
import Derived.Shelf.Strings.Count
import Derived.Shelf.Strings.Shaped
import Derived.Shelf.GgClosure.StringsIndexFunc
import Derived.Ground.GgwProg
import Derived.Shelf.GgClosure.StringsIndexFuncTop
import Derived.Shelf.Strings.Prefix
import Derived.Shelf.Strings.Split
import Derived.Shelf.Strings.Replace
import Derived.Shelf.Strings.SplitShaped
import Derived.Shelf.Unicode.Latin
import Derived.Shelf.Unicode.Decode
import Derived.Shelf.Strings.Runes
import Derived.Shelf.Strings.RuneCount
import Derived.Shelf.Strings.AsciiSet
import Derived.Shelf.Unicode.DecodeSlow
import Derived.Shelf.Unicode.DecodeAny
import Derived.Shelf.Unicode.DecodeLast
import Derived.Shelf.Unicode.CaseLookup
import Derived.Shelf.Unicode.CaseConvert
import Derived.Shelf.Unicode.CaseTo
import Derived.Shelf.Unicode.CaseLaid
import Derived.Shelf.Strings.MapAny
import Derived.Shelf.Strings.CaseAny
import Derived.Shelf.Strings.FuncGrows
import Derived.Shelf.Strings.BuilderCap
import Derived.Lib.CaseU
import Derived.Lib.SmallJoins
import Derived.Lib.SplitLaws
import Derived.Lib.DecodeN
import Derived.Test.YtmemoghbijcebaaGreatDoorRows
import Derived.PinnedBridge
import Derived.Lib.LaidU8T
import Derived.Stop.LaidErr
import Derived.Shelf.Vars
import Derived.Great.CaseRows
import Derived.Lib.LaidIn
import Derived.Deep.DeepHandedRow
import Derived.Deep.DeepWitnessRowRef
import Derived.OpenShut
import Derived.Deep.Slices
import Derived.ChangeStays
import Derived.ChangeBook
set_option linter.all false
set_option linter.unusedSectionVars false
set_option linter.unusedVariables false
set_option linter.unusedSimpArgs false
namespace Go.Abs
open Go
def Lim {β:Type}(x:Nat→Option β)(y:Option β):Prop:= ∀r,y=some r→ ∃n,∀m,n≤m→x m=some r
section
variable {α β γ:Type}
theorem Lim.const (y:Option β):Lim (fun _=>y) y:=fun r h=>⟨0,fun _ _=>h⟩
theorem Lim.opt {x:Nat→Option α}{y:Option α}{k:Nat→α→Option β}{kω:α→Option β}(hx:Lim x y)(hk: ∀a,Lim (fun n=>k n a) (kω a)):Lim (fun n=>opt (x n) (k n)) (opt y kω):=by
 intro r h
 obtain⟨a,h1,h2⟩:=ac.1 h
 obtain⟨n,hn⟩:=hx a h1
 obtain⟨m,hm⟩:=hk a r h2
 exact⟨max n m,fun q hq=>ac.2 ⟨a,hn q (by omega),hm q (by omega)⟩⟩
theorem Lim.opt' {x:Option α}{k:Nat→α→Option β}{kω:α→Option β}(hk: ∀a,Lim (fun n=>k n a) (kω a)):Lim (fun n=>Abs.opt x (k n)) (Abs.opt x kω):=Lim.opt (.const x) hk
theorem Lim.guard {b:Bool}{k:Nat→Option β}{kω:Option β}(hk:Lim k kω):Lim (fun n=>ax b (k n)) (ax b kω):=by
 cases b
 ·exact .const _
 ·exact hk
theorem Lim.cond {b:Bool}{k l:Nat→Option β}{kω lω:Option β}(hk:Lim k kω)(hl:Lim l lω):Lim (fun n=>cond b (k n) (l n)) (cond b kω lω):=by
 cases b
 ·exact hl
 ·exact hk
theorem Lim.none:Lim (fun _=>(none:Option β)) none:= .const _
theorem Lim.callK {x:Nat→Option Out}{y:Option Out}{k:Nat→LV→Mu→Option β}{kω:LV→Mu→Option β}{p:Nat→CV→Mu→Option β}{pω:CV→Mu→Option β}(hx:Lim x y)
  (hk: ∀v μ,Lim (fun n=>k n v μ) (kω v μ)) (hp: ∀v μ,Lim (fun n=>p n v μ) (pω v μ)):Lim (fun n=>Abs.callK (x n) (k n) (p n)) (Abs.callK y kω pω):=by
 unfold Abs.callK
 refine Lim.opt hx fun a=> ?_
 cases a with
 |ret v μ=>exact hk v μ
 |panic v μ=>exact hp v μ
theorem Bb {d:TypeDesc}{x:LV}{k:Nat→CV→Option β}{kω:CV→Option β}(hk: ∀c,Lim (fun n=>k n c) (kω c)):Lim (fun n=>gz d x (k n)) (gz d x kω):=by
 unfold gz
 cases d<;>exact Lim.opt' fun _=>hk _
theorem rA: ∀{ds:List TypeDesc} {cs:List CV} {k:Nat→List CV→Option β} {kω:List CV→Option β} (hk: ∀c,Lim (fun n=>k n c) (kω c)),Lim (fun n=>dt ds cs (k n)) (dt ds cs kω)
 |[],cs,k,kω,hk=>by unfold dt;exact Lim.opt' fun _=>hk _
 |d::ds,cs,k,kω,hk=>by
  unfold dt
  exact Lim.opt' fun _=>Bb fun _=>rA fun _=>hk _
variable {P:Program}
theorem kZ {t:TypeId}{x:LV}{k:Nat→CV→Option β}{kω:CV→Option β}(hk: ∀c,Lim (fun n=>k n c) (kω c)):Lim (fun n=>fG P t x (k n)) (fG P t x kω):=by
 unfold fG
 cases bD P t
 ·cases P.underlying t
  ·exact .none
  ·exact Bb hk
 ·cases yI P t
  ·exact Lim.opt' fun _=>rA fun _=>hk _
  ·exact Lim.opt' fun _=>hk _
theorem yX {own:Bool}{t:TypeId}{x:LV}{k:Nat→LV→Option β}{kω:LV→Option β}(hk: ∀c,Lim (fun n=>k n c) (kω c)):Lim (fun n=>jG P own t x (k n)) (jG P own t x kω):=by
 unfold jG
 cases own
 ·exact kZ fun _=>hk _
 ·exact Lim.opt' fun _=>hk _
theorem um: ∀{ts:List TypeId} {xs:List LV} {k:Nat→List LV→Option β} {kω:List LV→Option β} (hk: ∀c,Lim (fun n=>k n c) (kω c)),Lim (fun n=>eo P ts xs (k n)) (eo P ts xs kω)
 |[],xs,k,kω,hk=>by unfold eo;exact Lim.opt' fun _=>hk _
 |t::ts,xs,k,kω,hk=>by
  unfold eo
  exact Lim.opt' fun _=>yX fun _=>um fun _=>hk _
theorem kY {own:Bool}{t:TypeId}{x:LV}{k:Nat→LV→Option β}{kω:LV→Option β}(hk: ∀c,Lim (fun n=>k n c) (kω c)):Lim (fun n=>cW P own t x (k n)) (cW P own t x kω):=by
 unfold cW
 split
 ·exact Lim.opt' fun _=>um fun _=>hk _
 ·exact yX hk
theorem Gk {b:Bool}{t:TypeId}{x:LV}{k:Nat→LV→Option β}{kω:LV→Option β}(hk: ∀c,Lim (fun n=>k n c) (kω c)):Lim (fun n=>kf P b t x (k n)) (kf P b t x kω):=by
 cases b with
 |true=>exact kY hk
 |false=>exact hk _
theorem O7 {h:OpHint}{t:TypeId}{a:LV}{s:S}{μ:Mu}{k:Nat→LV→S→Mu→Option β}{kω:LV→S→Mu→Option β}(hk: ∀v s μ,Lim (fun n=>k n v s μ) (kω v s μ)):Lim (fun n=>gB P h t a s μ (k n)) (gB P h t a s μ kω):=by
 unfold gB
 split
 ·split
  ·exact .none
  ·split
   ·exact Lim.opt' fun _=>Gk fun _=>hk _ _ _
   ·exact Lim.opt' fun _=>hk _ _ _
 ·split
  ·exact Lim.opt' fun _=>Lim.opt' fun _=>hk _ _ _
  ·refine Lim.opt' fun _=> ?_
   split
   ·exact Lim.opt' fun _=>kY fun _=>hk _ _ _
   ·exact Lim.opt' fun _=>kY fun _=>hk _ _ _
 ·exact .none
theorem Lq {h:OpHint}{t:TypeId}{a v:LV}{s:S}{μ:Mu}{k:Nat→LV→S→Mu→Option β}{kω:LV→S→Mu→Option β}(hk: ∀v s μ,Lim (fun n=>k n v s μ) (kω v s μ)):Lim (fun n=>it P h t a v s μ (k n)) (it P h t a v s μ kω):=by
 unfold it
 split
 ·split
  ·exact .none
  ·simp only[lY]
   exact Lim.opt' fun _=>hk _ _ _
 ·split
  ·exact .none
  ·exact Lim.opt' fun _=>Lim.guard (Lim.opt' fun _=>hk _ _ _)
 ·exact .none
theorem Ar {h:OpHint}{t:TypeId}{a:LV}{f:Nat}{k:Nat→LV→Option β}{kω:LV→Option β}(hk: ∀c,Lim (fun n=>k n c) (kω c)):Lim (fun n=>fa P h t a f (k n)) (fa P h t a f kω):=by
 unfold fa
 refine Lim.opt' fun _=> ?_
 split
 ·exact hk _
 ·split
  ·exact Lim.opt' fun _=>rA fun _=>Lim.guard (hk _)
  ·exact Lim.opt' fun _=>hk _
 ·exact .none
theorem Bc {b:Bool}{m:Nat}{c:CV}{k:Nat→LV→Option β}{kω:LV→Option β}(hk: ∀c,Lim (fun n=>k n c) (kω c)):Lim (fun n=>kK b m c (k n)) (kK b m c kω):=by
 cases b
 ·exact Lim.guard (Lim.guard (hk _))
 ·exact Lim.guard (hk _)
theorem As {h:OpHint}{t:TypeId}{a:LV}{i:Int}{k:Nat→LV→Option β}{kω:LV→Option β}(hk: ∀c,Lim (fun n=>k n c) (kω c)):Lim (fun n=>fb P h t a i (k n)) (fb P h t a i kω):=by
 unfold fb eZ
 split
 ·refine Lim.opt' fun _=> ?_
  split
  ·exact Lim.guard (hk _)
  ·exact Lim.opt' fun _=>kZ fun _=>Bc hk
  ·split
   ·exact Lim.opt' fun _=>Lim.opt' fun _=>kZ fun _=>Bc hk
   ·exact Lim.opt' fun _=>Lim.guard (hk _)
  ·exact .none
 ·refine Lim.opt' fun _=> ?_
  split
  ·exact Lim.guard (hk _)
  ·split
   ·exact Lim.opt' fun _=>Lim.guard (Lim.guard (hk _))
   ·exact Lim.opt' fun _=>Lim.guard (hk _)
  ·exact .none
 ·exact .none
theorem Lo {t:TypeId}{a:LV}{i:Int}{k:Nat→LV→Option β}{kω:LV→Option β}(hk: ∀c,Lim (fun n=>k n c) (kω c)):Lim (fun n=>kO P t a i (k n)) (kO P t a i kω):=by
 unfold kO eZ
 split
 ·exact Lim.opt' fun _=>Lim.opt' fun _=>hk _
 ·split
  ·exact Lim.opt' fun _=>Lim.opt' fun _=>Lim.guard (Lim.opt' fun _=>kZ fun _=>hk _)
  ·exact .none
 ·exact .none
theorem eu {ev:Operand→LV}{x:Option Operand}{d:Int}{k:Nat→Int→Option β}{kω:Int→Option β}(hk: ∀c,Lim (fun n=>k n c) (kω c)):Lim (fun n=>cT ev x d (k n)) (cT ev x d kω):=by
 unfold cT
 cases x
 ·exact hk _
 ·exact Lim.opt' fun _=>hk _
theorem Lp {t:TypeId}{x:LV}{lo hi:Option Operand}{ev:Operand→LV}{k:Nat→LV→Option β}{kω:LV→Option β}(hk: ∀c,Lim (fun n=>k n c) (kω c)):Lim (fun n=>ir P t x lo hi ev (k n)) (ir P t x lo hi ev kω):=by
 unfold ir
 split
 ·exact Lim.opt' fun _=>eu fun _=>eu fun _=>Lim.opt' fun _=>hk _
 ·refine Lim.opt' fun _=> ?_
  split
  ·exact Lim.opt' fun _=>eu fun _=>eu fun _=>Lim.guard (Lim.opt' fun _=>hk _)
  ·exact eu fun _=>eu fun _=>Lim.guard (Lim.opt' fun _=>hk _)
  ·exact eu fun _=>eu fun _=>Lim.guard (hk _)
  ·exact eu fun _=>eu fun _=>Lim.guard (hk _)
  ·exact .none
 ·exact .none
theorem Gg {h:OpHint}{t:TypeId}{xt:Option TypeId}{x y:LV}{s:S}{μ:Mu}{k:Nat→LV→S→Mu→Option β}{kω:LV→S→Mu→Option β}(hk: ∀v s μ,Lim (fun n=>k n v s μ) (kω v s μ)):Lim (fun n=>fL P h t xt x y s μ (k n)) (fL P h t xt x y s μ kω):=by
 unfold fL
 split
 ·refine Lim.opt' fun _=>Lim.guard (Lim.opt' fun _=>Lim.guard ?_)
  cases xt
  ·exact .none
  ·cases h.own
   ·refine Lim.opt' fun _=> ?_
    split
    ·exact Lim.opt' fun _=>Lim.guard (hk _ _ _)
    ·exact Lim.opt' fun _=>Lim.guard (hk _ _ _)
    ·exact .none
   ·refine Lim.opt' fun _=> ?_
    split
    ·exact Lim.opt' fun _=>Lim.opt' fun _=>Lim.guard (hk _ _ _)
    ·exact .none
 ·exact .none
theorem D4 {h:OpHint}{src dst:TypeId}{x:LV}{s:S}{μ:Mu}{k:Nat→LV→S→Mu→Option β}{kω:LV→S→Mu→Option β}(hk: ∀v s μ,Lim (fun n=>k n v s μ) (kω v s μ)):Lim (fun n=>c8 P h src dst x s μ (k n)) (c8 P h src dst x s μ kω):=by
 unfold c8
 split
 ·split
  ·exact Lim.opt' fun _=>hk _ _ _
  ·exact .none
 ·split
  ·exact Lim.opt' fun _=>hk _ _ _
  ·split
   ·split
    ·split
     ·exact Lim.guard (Lim.opt' fun _=>hk _ _ _)
     ·exact .none
    ·exact Lim.opt' fun _=>Lim.opt' fun _=>hk _ _ _
   ·exact .none
  ·exact .none
 ·split
  ·split
   ·refine Lim.opt' fun _=>Lim.guard ?_
    split
    ·exact hk _ _ _
    ·exact hk _ _ _
   ·exact .none
  ·exact .none
 ·exact .none
theorem ul {live:List (Nat×Nat)}{s:S}{k:Nat→S→Option β}{kω:S→Option β}(hk: ∀s,Lim (fun n=>k n s) (kω s)):Lim (fun n=>dM live s (k n)) (dM live s kω):=by
 unfold dM
 refine Lim.opt' fun _=> ?_
 cases s.pushed
 ·exact Lim.opt' fun _=>Lim.opt' fun _=>hk _
 ·exact hk _
theorem rC {L:Nat}{live:List (Nat×Nat)}{s:S}{k:Nat→S→Option β}{kω:S→Option β}(hk: ∀s,Lim (fun n=>k n s) (kω s)):Lim (fun n=>jF L live s (k n)) (jF L live s kω):=by
 unfold jF
 split
 ·exact hk _
 ·exact Lim.guard (hk _)
theorem Lim.optE {x:Option α}{k:Nat→α→Option β}{kω:α→Option β}{g:Nat→Option β}{gω:Option β}(hk: ∀a,Lim (fun n=>k n a) (kω a))(hg:Lim g gω):Lim (fun n=>Abs.optE x (k n) (g n)) (Abs.optE x kω gω):=by
 cases x with
 |none=>exact hg
 |some a=>exact hk a
theorem vY {t:TypeId}{m x y:LV}{s:S}{μ:Mu}{k:Nat→LV→S→Mu→Option β}{kω:LV→S→Mu→Option β}(hk: ∀v s μ,Lim (fun n=>k n v s μ) (kω v s μ)):Lim (fun n=>iy P t m x y s μ (k n)) (iy P t m x y s μ kω):=by
 unfold iy
 refine Lim.opt' fun _=>Lim.opt' fun _=>Lim.opt' fun _=> ?_
 split
 ·split
  ·exact Lim.guard (hk _ _ _)
  ·exact .none
 ·split
  ·exact Lim.guard (hk _ _ _)
  ·exact .none
 ·exact .none
theorem Gj {t:TypeId}{m x:LV}{ok:Bool}{s:S}{μ:Mu}{k:Nat→LV→Option β}{kω:LV→Option β}(hk: ∀v,Lim (fun n=>k n v) (kω v)):Lim (fun n=>jj P t m x ok s μ (k n)) (jj P t m x ok s μ kω):=by
 unfold jj eZ
 refine Lim.opt' fun _=>Lim.opt' fun _=>Lim.opt' fun _=>Lim.guard (Lim.optE (fun _=>kZ fun _=> ?_) (Lim.opt' fun _=> ?_))
 ·cases ok<;>exact hk _
 ·cases ok<;>exact hk _
theorem Gi {x:LV}{t:TypeId}{ok:Bool}{k:Nat→LV→Option β}{kω:LV→Option β}(hk: ∀v,Lim (fun n=>k n v) (kω v)):Lim (fun n=>jd P x t ok (k n)) (jd P x t ok kω):=by
 unfold jd
 split
 ·exact .none
 ·split
  ·exact .none
  ·refine Lim.opt' fun _=> ?_
   split
   ·split<;>exact hk _
   ·exact hk _
   ·exact .none
 ·exact .none
theorem Ra {op:BinOp}{t:TypeId}{x y:Operand}{a b:LV}{k:Nat→CV→Option β}{kω:CV→Option β}(hk: ∀c,Lim (fun n=>k n c) (kω c)):Lim (fun n=>pf P op t x y a b (k n)) (pf P op t x y a b kω):=by
 unfold pf
 split
 ·exact Lim.opt' fun _=>Lim.opt' fun _=>Lim.opt' fun _=>hk _
 ·exact Lim.guard (Lim.opt' fun _=>hk _)
theorem kX: ∀{ms:List Nat} {cs:List LV} {k:Nat→List LV→Option β} {kω:List LV→Option β} (hk: ∀c,Lim (fun n=>k n c) (kω c)),Lim (fun n=>gF ms cs (k n)) (gF ms cs kω)
 |[],cs,k,kω,hk=>by unfold gF;exact hk _
 |m::ms,[],k,kω,hk=>by unfold gF;exact .none
 |m::ms,c::cs,k,kω,hk=>by
  unfold gF B8
  split
  ·exact kX fun _=>hk _
  ·exact Lim.opt' fun _=>kX fun _=>hk _
  ·exact Lim.opt' fun _=>kX fun _=>hk _
  ·exact Lim.opt' fun _=>kX fun _=>hk _
theorem nW: ∀{obs:List (Nat×List Nat)} {s:S} {k:Nat→S→Option β} {kω:S→Option β} (hk: ∀s,Lim (fun n=>k n s) (kω s)),Lim (fun n=>lI obs s (k n)) (lI obs s kω)
 |[],s,k,kω,hk=>by unfold lI;exact hk _
 |q::r,s,k,kω,hk=>by
  unfold lI
  split
  ·exact nW hk
  ·split
   ·exact kX fun _=>nW hk
   ·exact .none
structure LimR (ρ:Nat→Rho) (ρω:Rho):Prop where
 call: ∀f args μ,Lim (fun n=>(ρ n).call f args μ) (ρω.call f args μ)
 loop: ∀H lv c s μ,Lim (fun n=>(ρ n).loop H lv c s μ) (ρω.loop H lv c s μ)
 seg: ∀H lv c s μ,Lim (fun n=>(ρ n).seg H lv c s μ) (ρω.seg H lv c s μ)
 dcall: ∀f pv args μ,Lim (fun n=>(ρ n).dcall f pv args μ) (ρω.dcall f pv args μ)
variable {ρ:Nat→Rho}{ρω:Rho}
theorem yV (R:LimR ρ ρω){h:OpHint}{t:TypeId}{f:FuncId}{args:List LV}{s:S}{μ:Mu}{k:Nat→LV→S→Mu→Option β}{kω:LV→S→Mu→Option β}{p:Nat→CV→S→Mu→Option β}{pω:CV→S→Mu→Option β}
  (hk: ∀v s μ,Lim (fun n=>k n v s μ) (kω v s μ)) (hp: ∀v s μ,Lim (fun n=>p n v s μ) (pω v s μ)):Lim (fun n=>d6 P (ρ n) h t f args s μ (k n) (p n)) (d6 P ρω h t f args s μ kω pω):=by
 unfold d6
 split
 ·exact Lim.guard (Lim.callK (R.call _ _ _) (fun _ _=>kY fun _=>hk _ _ _) fun _ _=>hp _ _ _)
 ·exact Lim.opt' fun _=>Lim.opt' fun _=>Lim.callK (R.call _ _ _) (fun _ _=>Lim.opt' fun _=>kY fun _=>hk _ _ _) fun _ _=>Lim.opt' fun _=>hp _ _ _
theorem D5 (R:LimR ρ ρω){h:OpHint}{o:Oper}{s:S}{μ:Mu}{k:Nat→LV→S→Mu→Option β}{kω:LV→S→Mu→Option β}{p:Nat→CV→S→Mu→Option β}{pω:CV→S→Mu→Option β}
  (hk: ∀v s μ,Lim (fun n=>k n v s μ) (kω v s μ)) (hp: ∀v s μ,Lim (fun n=>p n v s μ) (pω v s μ)):Lim (fun n=>ck P (ρ n) h o s μ (k n) (p n)) (ck P ρω h o s μ kω pω):=by
 unfold ck
 dsimp only
 split
 ·exact hk _ _ _
 ·exact hk _ _ _
 ·exact Lim.opt' fun _=>hk _ _ _
 ·exact Lim.opt' fun _=>hk _ _ _
 ·split
  ·simp only[kH];exact Lim.opt' fun _=>hk _ _ _
  ·exact Lim.opt' fun _=>Lim.guard (hk _ _ _)
 ·simp only[oP];exact Lim.opt' fun _=>hk _ _ _
 ·split
  ·simp only[nq]
   refine Lim.opt' fun _=>Lim.guard (Lim.opt' fun _=>Lim.opt' fun _=>Lim.guard (Lim.guard ?_))
   split
   ·exact hk _ _ _
   ·exact hk _ _ _
  ·exact .none
 ·exact O7 hk
 ·exact Lq hk
 ·exact Lim.opt' fun _=>Lim.guard (hk _ _ _)
 ·exact Ra fun _=>hk _ _ _
 ·exact Lim.opt' fun _=>hk _ _ _
 ·exact D4 hk
 ·split
  ·exact .none
  ·exact Lim.opt' fun _=>hk _ _ _
  ·exact .none
 ·split
  ·split
   ·exact hk _ _ _
   ·exact .none
  ·exact .none
 ·split
  ·exact Lp fun _=>hk _ _ _
  ·exact .none
 ·exact Ar fun _=>hk _ _ _
 ·exact Lim.opt' fun _=>hk _ _ _
 ·exact Lim.opt' fun _=>As fun _=>hk _ _ _
 ·exact Lim.opt' fun _=>Lo fun _=>hk _ _ _
 ·exact Lim.opt' fun _=>Lim.opt' fun _=>hk _ _ _
 ·split
  ·exact hp _ _ _
  ·exact .none
 ·exact Gi fun _=>hk _ _ _
 ·split
  ·exact .none
  ·exact hk _ _ _
 ·split
  ·unfold yY
   split
   ·exact Lim.opt' fun _=>Lim.guard (Lim.opt' fun _=>Lim.guard (Lim.opt' fun _=>Lim.guard (hk _ _ _)))
   ·exact .none
  ·exact .none
 ·exact vY hk
 ·exact vY hk
 ·exact Gj fun _=>hk _ _ _
 ·split
  ·split
   ·split
    ·exact Lim.opt' fun _=>hk _ _ _
    ·exact .none
   ·split
    ·exact Gg hk
    ·exact .none
   ·split
    ·unfold yt
     split
     ·refine Lim.opt' fun _=> ?_
      split
      ·split
       ·exact Lim.guard (Lim.opt' fun _=>Lim.guard (hk _ _ _))
       ·exact .none
      ·exact .none
     ·exact .none
    ·exact .none
   ·split
    ·exact Lim.opt' fun _=>Lim.opt' fun _=>hk _ _ _
    ·exact .none
   ·split
    ·exact Lim.opt' fun _=>Lim.opt' fun _=>hk _ _ _
    ·exact .none
   ·exact .none
  ·refine Lim.guard ?_
   split
   ·exact yV R hk hp
   ·exact yV R hk hp
   ·exact .none
  ·exact .none
 ·exact .none
theorem Bd {pl:Pl}{ob:Ob}{s:S}{μ:Mu}{k:Nat→S→Mu→Option β}{kω:S→Mu→Option β}(hk: ∀s μ,Lim (fun n=>k n s μ) (kω s μ)):Lim (fun n=>fj pl ob s μ (k n)) (fj pl ob s μ kω):=by
 unfold fj
 split
 ·exact Lim.guard (hk _ _)
 ·exact Lim.guard (hk _ _)
theorem O6 {t:Nat}{s:S}{μ:Mu}{k:Nat→Pl→Ob→S→Mu→Option β}{kω:Pl→Ob→S→Mu→Option β}(hk: ∀pl ob s μ,Lim (fun n=>k n pl ob s μ) (kω pl ob s μ)):Lim (fun n=>gA t s μ (k n)) (gA t s μ kω):=by
 unfold gA
 split
 ·split
  ·exact Lim.guard (hk _ _ _ _)
  ·exact Lim.none
 ·exact Lim.opt' fun _=>Lim.guard (hk _ _ _ _)
 ·exact Lim.none
theorem Rb (R:LimR ρ ρω){h:OpHint}{o:Oper}{s:S}{μ:Mu}{k:Nat→LV→S→Mu→Option β}{kω:LV→S→Mu→Option β}{p:Nat→CV→S→Mu→Option β}{pω:CV→S→Mu→Option β}
  (hk: ∀v s μ,Lim (fun n=>k n v s μ) (kω v s μ)) (hp: ∀v s μ,Lim (fun n=>p n v s μ) (pω v s μ)):Lim (fun n=>uK P (ρ n) h o s μ (k n) (p n)) (uK P ρω h o s μ kω pω):=by
 unfold uK
 split
 ·exact D5 R hk hp
 ·exact O6 fun pl ob s μ=>D5 R (fun v s μ=>Bd fun s μ=>hk v s μ) fun v s μ=>Bd fun s μ=>hp v s μ
theorem At (R:LimR ρ ρω){h:OpHint}{o:Oper}{s:S}{μ:Mu}{k:Nat→LV→S→Mu→Option β}{kω:LV→S→Mu→Option β}{p:Nat→CV→S→Mu→Option β}{pω:CV→S→Mu→Option β}
  (hk: ∀v s μ,Lim (fun n=>k n v s μ) (kω v s μ)) (hp: ∀v s μ,Lim (fun n=>p n v s μ) (pω v s μ)):Lim (fun n=>opK P (ρ n) h o s μ (k n) (p n)) (opK P ρω h o s μ kω pω):=by
 unfold opK
 refine Lim.opt' fun _=> ?_
 simp only[ly]
 exact Lim.opt' fun _=>Rb R hk hp
theorem gr (R:LimR ρ ρω){H:Hints}{r:Nat}{ops:Array Oper}{p:Nat→CV→S→Mu→Option β}{pω:CV→S→Mu→Option β}(hp: ∀v s μ,Lim (fun n=>p n v s μ) (pω v s μ)):
  ∀(l:List Nat) {s:S} {μ:Mu} {k:Nat→S→Mu→Option β} {kω:S→Mu→Option β} (hk: ∀s μ,Lim (fun n=>k n s μ) (kω s μ)),Lim (fun n=>fg P (ρ n) H r ops l s μ (k n) (p n)) (fg P ρω H r ops l s μ kω pω)
 |[],s,μ,k,kω,hk=>by unfold fg;exact hk _ _
 |i::rest,s,μ,k,kω,hk=>by
  unfold fg
  cases ops[i]? with
  |none=>exact .none
  |some o=>
   dsimp only
   cases o.guard with
   |none=>exact At R (fun _ _ _=>gr R hp rest hk) hp
   |some g=>
    refine Lim.opt' fun _=>Lim.opt' fun q=> ?_
    cases q with
    |none=>exact gr R hp rest hk
    |some b=>
    cases b<;>dsimp only[cond_true,cond_false]
    ·cases g.2
     ·exact At R (fun _ _ _=>gr R hp rest hk) hp
     ·exact gr R hp rest hk
    ·cases g.2
     ·exact gr R hp rest hk
     ·exact At R (fun _ _ _=>gr R hp rest hk) hp
theorem ey (R:LimR ρ ρω){H:Hints}: ∀(c:Code) {β:Type} {s:S} {μ:Mu} {k:Nat→St→Option β} {kω:St→Option β} (hk: ∀st,Lim (fun n=>k n st) (kω st)),Lim (fun n=>bO P (ρ n) H c s μ (k n)) (bO P ρω H c s μ kω)
 | .skip,β,s,μ,k,kω,hk=>by unfold bO;exact hk _
 | .region id ops draw,β,s,μ,k,kω,hk=>by
  unfold bO
  cases draw
  ·exact gr R (fun _ _ _=>hk _) _ fun _ _=>hk _
  ·exact Lim.guard (gr R (fun _ _ _=> .none) _ fun _ _=>hk _)
 | .seq x y,β,s,μ,k,kω,hk=>by
  unfold bO
  refine ey R x fun st=> ?_
  cases st
  ·dsimp only
   split
   ·exact ey R y hk
   ·exact nW fun _=>ul fun _=>rC fun _=>Lim.opt (R.seg _ _ _ _ _) hk
  ·exact hk _
  ·exact hk _
  ·exact hk _
 | .cond c x y,β,s,μ,k,kω,hk=>by
  unfold bO
  exact Lim.opt' fun _=>Lim.cond (ey R x hk) (ey R y hk)
 | .block id x,β,s,μ,k,kω,hk=>by
  unfold bO
  refine ey R x fun st=> ?_
  cases st
  ·exact hk _
  ·dsimp only
   split
   ·exact hk _
   ·exact hk _
  ·exact hk _
  ·exact hk _
 | .loop x,β,s,μ,k,kω,hk=>by
  unfold bO
  exact nW fun _=>ul fun _=>rC fun _=>Lim.opt (R.loop _ _ _ _ _) hk
 | .exit id,β,s,μ,k,kω,hk=>by unfold bO;exact hk _
 | .ret,β,s,μ,k,kω,hk=>by unfold bO;exact hk _
 | .rangeFunc ..,β,s,μ,k,kω,hk=>by unfold bO;exact .none
 | .scope ..,β,s,μ,k,kω,hk=>by unfold bO;exact .none
 | .label ..,β,s,μ,k,kω,hk=>by unfold bO;exact .none
 | .goto ..,β,s,μ,k,kω,hk=>by unfold bO;exact .none
 | .refuse ..,β,s,μ,k,kω,hk=>by unfold bO;exact .none
theorem yW (R:LimR ρ ρω){H:Hints}{lv:List (Nat×Nat)}{c:Code}{s:S}{μ:Mu}:Lim (fun n=>mI P (ρ n) H lv c s μ) (mI P ρω H lv c s μ):=by
 unfold mI
 refine ey R c fun st=> ?_
 cases st
 ·exact nW fun _=>ul fun _=>rC fun _=>R.loop _ _ _ _ _
 ·exact .const _
 ·exact .const _
 ·exact .const _
theorem D6 (R:LimR ρ ρω){H:Hints}{lv:List (Nat×Nat)}{c:Code}{s:S}{μ:Mu}:Lim (fun n=>uV P (ρ n) H lv c s μ) (uV P ρω H lv c s μ):=by
 unfold uV
 refine ey R c fun st=> ?_
 exact .const _
theorem rB (R:LimR ρ ρω){t:Nat}{pv:Option CV}{s:S}{μ:Mu}{k:Nat→S→Mu→Option β}{kω:S→Mu→Option β}(hk: ∀s μ,Lim (fun n=>k n s μ) (kω s μ)):Lim (fun n=>kJ (ρ n) t pv s μ (k n)) (kJ ρω t pv s μ kω):=by
 unfold kJ
 split
 ·exact Lim.opt' fun _=>Lim.opt' fun _=>Lim.opt (R.dcall _ _ _ _) fun _=>Lim.opt' fun _=>hk _ _
 ·exact .none
theorem Lm (R:LimR ρ ρω){H:Hints}{fn:Func}{c:Code}{t:Nat}{args:List LV}{μ:Mu}:Lim (fun n=>pT P (ρ n) H fn c t args μ) (pT P ρω H fn c t args μ):=by
 unfold pT
 split
 ·split
  ·exact .none
  ·split
   ·exact .none
   ·refine Lim.guard (ey R _ fun st=> ?_)
    cases st with
    |norm s μ=>
     refine gr R (fun _ _ _=> .none) _ fun _ _=>Lim.guard (ey R _ fun st=> ?_)
     cases st with
     |norm s μ=>exact rB R fun _ _=> .const _
     |ret s μ=>exact rB R fun _ _=> .const _
     |panic v s μ=>exact rB R fun _ _=> .const _
     |exit i s μ=>exact .none
    |_=>exact .none
 ·exact .none
theorem Ln (R:LimR ρ ρω){H:Hints}{fn:Func}{c:Code}{pv:Option CV}{args:List LV}{μ:Mu}:Lim (fun n=>pW P (ρ n) H fn c pv args μ) (pW P ρω H fn c pv args μ):=by
 unfold pW
 split
 ·split
  ·exact .none
  ·split
   ·exact .none
   ·refine Lim.guard (gr R (fun _ _ _=> .none) _ fun _ _=>ey R _ fun st=> .const _)
 ·exact .none
theorem se (R:LimR ρ ρω){E:Env}{f:FuncId}{pv:Option CV}{args:List LV}{μ:Mu}:Lim (fun n=>gY E (ρ n) f pv args μ) (gY E ρω f pv args μ):=by
 unfold gY
 split
 ·split
  ·exact Ln R
  ·exact .none
 ·exact .none
theorem uk (R:LimR ρ ρω){E:Env}{f:FuncId}{args:List LV}{μ:Mu}:Lim (fun n=>aD E (ρ n) f args μ) (aD E ρω f args μ):=by
 unfold aD
 split
 ·exact .const _
 ·split
  ·split
   ·split
    ·unfold B7
     refine Lim.guard (ey R _ fun st=> ?_)
     exact .const _
    ·exact Lm R
   ·exact .none
  ·exact .none
end
open Classical in
noncomputable def oZ {β:Type}(x:Nat→Option β):Option β:=if h: ∃r n,∀m,n≤m→x m=some r then some h.choose else none
theorem mB {β:Type}(x:Nat→Option β):Lim x (oZ x):=by
 intro r h
 unfold oZ at h
 split at h
 ·rename_i hh
  simp only[Option.some.injEq]at h
  subst h
  exact hh.choose_spec
 ·cases h
theorem rz {β:Type}{x:Nat→Option β}{r:β}(h: ∃n,∀m,n≤m→x m=some r):oZ x=some r:=by
 have hh: ∃r n,∀m,n≤m→x m=some r:=⟨r,h⟩
 unfold oZ
 rw[dif_pos hh]
 obtain⟨n,hn⟩:=h
 obtain⟨k,hk⟩:=hh.choose_spec
 rw[←hk (max n k) (by omega),hn (max n k) (by omega)]
noncomputable def ev (E:Env):Rho where
 call:=fun f args μ=>oZ fun n=>(evn E n).call f args μ
 loop:=fun H lv c s μ=>oZ fun n=>(evn E n).loop H lv c s μ
 seg:=fun H lv c s μ=>oZ fun n=>(evn E n).seg H lv c s μ
 dcall:=fun f pv args μ=>oZ fun n=>(evn E n).dcall f pv args μ
theorem yy (E:Env):LimR (evn E) (ev E):=⟨fun f args μ=>mB _,fun H lv c s μ=>mB _,fun H lv c s μ=>mB _,fun f pv args μ=>mB _⟩
theorem aJ {E:Env}{f:FuncId}{args:List LV}{μ:Mu}{out:Out}(h:aD E (ev E) f args μ=some out):(ev E).call f args μ=some out:=by
 obtain⟨n,hn⟩:=uk (yy E) (E:=E) (f:=f) (args:=args) (μ:=μ) out h
 refine rz ⟨n+1,fun m hm=> ?_⟩
 obtain⟨q,rfl⟩: ∃q,m=q+1:=⟨m-1,by omega⟩
 exact hn q (by omega)
theorem JH {E:Env}{H:Hints}{lv:List (Nat×Nat)}{c:Code}{s:S}{μ:Mu}{st:St}(h:mI E.P (ev E) H lv c s μ=some st):(ev E).loop H lv c s μ=some st:=by
 obtain⟨n,hn⟩:=yW (yy E) (P:=E.P) (H:=H) (lv:=lv) (c:=c) (s:=s) (μ:=μ) st h
 refine rz ⟨n+1,fun m hm=> ?_⟩
 obtain⟨q,rfl⟩: ∃q,m=q+1:=⟨m-1,by omega⟩
 exact hn q (by omega)
theorem Ox {E:Env}{H:Hints}{lv:List (Nat×Nat)}{c:Code}{s:S}{μ:Mu}{st:St}(h:uV E.P (ev E) H lv c s μ=some st):(ev E).seg H lv c s μ=some st:=by
 obtain⟨n,hn⟩:=D6 (yy E) (P:=E.P) (H:=H) (lv:=lv) (c:=c) (s:=s) (μ:=μ) st h
 refine rz ⟨n+1,fun m hm=> ?_⟩
 obtain⟨q,rfl⟩: ∃q,m=q+1:=⟨m-1,by omega⟩
 exact hn q (by omega)
theorem xi {E:Env}{f:FuncId}{pv:Option CV}{args:List LV}{μ μ':Mu}(h:gY E (ev E) f pv args μ=some μ'):(ev E).dcall f pv args μ=some μ':=by
 obtain⟨n,hn⟩:=se (yy E) (E:=E) (f:=f) (pv:=pv) (args:=args) (μ:=μ) μ' h
 refine rz ⟨n+1,fun m hm=> ?_⟩
 obtain⟨q,rfl⟩: ∃q,m=q+1:=⟨m-1,by omega⟩
 exact hn q (by omega)
theorem DO {E:Env}(hm:E.P.follows .mixedOrders=true){W0:World}(hp:vn E W0){f:FuncId}{args:List LV}{μ:Mu}{out:Out}(h:(ev E).call f args μ=some out):cR E.P W0 f args μ out:=by
 obtain⟨n,hn⟩:=mB _ out h
 exact(A2 hm hp n).1 f args μ out (hn n (Nat.le_refl n))
end Go.Abs
set_option linter.unusedVariables false
set_option linter.unusedSimpArgs false
namespace Go.Abs
open Go Go.ChangeShapes Go.WideShapes
def Gh.top (w:World):Gh where
 O:=fun b=>match w.heap[b]? with|some (.cells cs _ _)=>cs.size|_=>0
 β:=fun _ _=>0
 n:=fun _=>0
 sz:=fun _ _=>0
def z6 (W w':World):Prop:=W.keptBut w' (fun _=>False)∧(∀a:Addr,a.block<W.heap.size→w'.frozen? a=W.frozen? a)∧W.heap.size≤w'.heap.size∧ ∀b,b<W.heap.size→w'.heap[b]? =W.heap[b]?
theorem TP {W w':World}(ho:w'.os=W.os)(hu:w'.output=W.output)(hs:W.heap.size≤w'.heap.size)(hk: ∀b,b<W.heap.size→w'.heap[b]? =W.heap[b]?):z6 W w':=by
 refine⟨⟨ho,hu,fun i hi=> ?_⟩,fun a ha=> ?_,hs,hk⟩
 ·rw[hk i hi]
  cases W.heap[i]? with
  |none=>rfl
  |some o=>cases o<;>simp
 ·simp only[World.frozen?]
  rw[hk _ ha]
theorem P2 {H:Type}{enc:TypeId×Value→H}{P:Program}{f:Func}{s:ChangeSpec}{apart fresh handsOn again:Bool}{W W':World}{args:Array Value}{v:Value}{ds gs:List (DataW H)}{before pa pv:List MemPlace}
  (hW:DataW.Whole enc P f.params.toList s.vars apart W args.toList ds gs before)
  (hres: ∀(b:Nat) (sp:Nat→Bool) (hd:Bool),DataW.TrodAll enc P W' b sp hd f.resultTypes.toList (v.resultList f.resultTypes.size) (s.fn H (ds++gs)).results [])
  (hargs: ∀sp:Nat→Bool,(∀p∈before,sp p.block=true)→DataW.TrodAll enc P W' 0 sp true f.params.toList args.toList (s.fn H (ds++gs)).args pa)
  (hvars: ∀sp:Nat→Bool,(∀p∈before,sp p.block=true)→DataW.TrodVars enc P W' sp s.vars (s.fn H (ds++gs)).vars pv)
  (hps:before=pa++pv) (hk:z6 W W')
  (hok: ∀(j:Nat) (t:TypeId) (r:Value),f.resultTypes[j]? =some t→(v.resultList f.resultTypes.size)[j]? =some r→Value.okWide P W' .any 0 t r):
  s.post enc P f apart fresh handsOn again W args v W':=by
 have hlt:=fun p hp=>hW.lt p hp
 have hold: ∀p∈before,(fun b=>decide (b<W.heap.size)) p.block=true:=fun p hp=>by simpa using hlt p hp
 refine⟨ds,gs,before,[],pa,pv,hW,hres _ _ _,hargs _ hold,hvars _ hold,World.keptBut_mono (fun _ f=>f.elim) hk.1,fun _=> ?_⟩
 obtain⟨_,_,_,_,_,hz,hn⟩:=hW
 refine⟨hok,_,_,([]++pa)++pv,⟨[]++pa,pv,trodAll_append (hargs _ (fun _ _=>rfl)) (hres _ _ _),hvars _ (fun _ _=>rfl),rfl,?_,?_⟩,?_⟩
 ·intro b off hp
  have hm:MemPlace.cell b off∈before:=by rw[hps];simpa using hp
  rw[hk.2.1 _ (hlt _ hm)]
  exact hz b off hm
 ·intro ha
  have:=hn ha
  rw[hps]at this
  simpa using this
 ·intro p hp _
  rw[hps]
  simpa using hp
section
variable {P:Program}{w:World}
theorem Rel.top {args:List CV}{cargs:Array Value}(hv: ∀j x,args[j]? =some x→VR (Gh.top w) w x (cargs.getD j undef)):Rel (Gh.top w) 0 (aP (args.map .cv)) [] cargs w∧ ∀b,¬aB (Gh.top w) w (aP (args.map .cv)) [] cargs b:=by
 have hlive: ∀lev i,¬aK (aE ([]++[(aP (args.map .cv)).lam]) lev i):=by
  intro lev i h
  obtain⟨h1,_⟩:=lG (μ:=[]) h
  simp at h1
 have hown: ∀q b,¬ay (Gh.top w) w (aP (args.map .cv)).fr cargs ([]++[(aP (args.map .cv)).lam]) q b:=by
  intro q b h
  cases q with
  |fr t=>
   simp only[ay,ct,List.getElem?_map]at h
   cases hx:args[t]? with
   |none=>rw[hx]at h;simp[aH]at h
   |some x=>rw[hx]at h;simp[aH]at h
  |ob lev i k=>exact hlive lev i (fo h)
 refine⟨⟨rfl,fun t=> ?_,fun i=> ?_,fun lev i hl=>by omega,fun lev i lev' i' h _ _=>absurd h (hlive lev i),fun q q' b h _=>absurd h (hown q b),fun q b lev i h _ _=>hown q b h,fun lev hl=>by omega,?_,fun lev hl=>rfl⟩,?_⟩
 ·rw[ct,List.getElem?_map]
  cases hx:args[t]? with
  |none=>simp[LVR,VR]
  |some x=>simp only[Option.map_some,Option.getD_some,LVR];exact hv t x hx
 ·have:aG (aP (args.map .cv)).lam i= .dead:=by simp[aP,aG]
  rw[this];trivial
 ·simp[aP,Gh.top]
 ·rintro b (⟨q,h⟩|⟨lev,i,h,_⟩)
  ·exact hown q b h
  ·exact hlive lev i h
theorem cR.bool {f:FuncId}{args:List CV}{r:Bool}{μ':Mu}(hm:cR P w f (args.map .cv) [] (.ret (LV.bool r) μ')){cargs:Array Value}(hs:cargs.size=args.length)(hv: ∀j x,args[j]? =some x→VR (Gh.top w) w x (cargs.getD j undef)):
  Calls P f cargs w fun e w'=>e= .returned (.bool r)∧z6 w w':=by
 obtain⟨R,hT⟩:=Rel.top hv
 refine(hm.2 (Gh.top w) w cargs (by simpa using hs) R ⟨Nat.le_refl _,fun b _=>⟨rfl,hT b⟩⟩).mono fun e w' h=> ?_
 cases e with
 |returned cv=>
  simp only[fK]at h
  obtain⟨O',R',E⟩:=h
  have h0:=R'.fr 0
  simp only[ct,List.getElem?_cons_zero,Option.getD_some,LVR,VR]at h0
  have:cv= .bool r:=by simpa using h0
  subst this
  exact⟨rfl,TP E.os E.output E.size fun b hb=>(E.keep b hb (hT b)).1⟩
 |panicked ch=>simp[fK]at h
 |outgrown=>simp[fK]at h
end
end Go.Abs
set_option linter.unusedVariables false
namespace Go.Abs
open Go
inductive Kont where
 |seq (b:Code)
 |block (id:Nat)
def jz (P:Program)(ρ:Rho)(H:Hints){α:Type}:List Kont→St→(St→Option α)→Option α
 |[],st,k=>k st
 | .seq b::κ,st,k=>match st with
  | .norm s μ=>match K1 (bK b) H.cuts with
   |none=>bO P ρ H b s μ fun st=>jz P ρ H κ st k
   |some lv=>lI (vD (bK b) H.objs) s fun s=>dM lv.1 s fun s=>jF μ.length lv.1 s fun s=>opt (ρ.seg H lv.2 b s μ) fun st=>jz P ρ H κ st k
  | .exit i s μ=>jz P ρ H κ (.exit i s μ) k
  | .ret s μ=>jz P ρ H κ (.ret s μ) k
  | .panic v s μ=>jz P ρ H κ (.panic v s μ) k
 | .block id::κ,st,k=>match st with
  | .exit i s μ=>match Nat.beq i id with|true=>jz P ρ H κ (.norm s μ) k|false=>jz P ρ H κ (.exit i s μ) k
  | .norm s μ=>jz P ρ H κ (.norm s μ) k
  | .ret s μ=>jz P ρ H κ (.ret s μ) k
  | .panic v s μ=>jz P ρ H κ (.panic v s μ) k
def Tx (P:Program)(rs:List ResultVar)(st:St):Option Out:=
 match st with
 | .norm s μ=>gL P rs s μ
 | .ret s μ=>gL P rs s μ
 | .panic v _ μ=>ax (below μ.length v) (some (.panic v μ))
 | .exit _ _ _=>none
def Sj (P:Program)(ρ:Rho)(H:Hints)(lv:List (Nat×Nat))(c:Code)(st:St):Option St:=
 match st with
 | .norm s μ=>lI (vD (bK c) H.objs) s fun s=>dM (H.lives (bK c)).1 s fun s=>jF μ.length (H.lives (bK c)).1 s fun s=>ρ.loop H lv c s μ
 | .exit i s μ=>dM lv s fun s=>some (.exit i s μ)
 | .ret s μ=>dM H.res s fun s=>some (.ret s μ)
 | .panic v s μ=>dM H.pan s fun s=>some (.panic v s μ)
def Wr (H:Hints)(lv:List (Nat×Nat))(st:St):Option St:=
 match st with
 | .norm s μ=>dM lv s fun s=>some (.norm s μ)
 | .exit i s μ=>dM lv s fun s=>some (.exit i s μ)
 | .ret s μ=>dM H.res s fun s=>some (.ret s μ)
 | .panic v s μ=>dM H.pan s fun s=>some (.panic v s μ)
def xJ:Code→List Nat→Code
 |c,[]=>c
 | .seq a _,0::p=>xJ a p
 | .seq _ b,_::p=>xJ b p
 | .cond _ a _,0::p=>xJ a p
 | .cond _ _ b,_::p=>xJ b p
 | .block _ c,_::p=>xJ c p
 | .loop c,_::p=>xJ c p
 |c,_=>c
def U1 (P:Program)(f:FuncId):Code:=match P.funcs[f]? with|some fn=>(match fn.body with|some c=>c|none=> .skip)|none=> .skip
def U9 (P:Program)(f:FuncId)(p:List Nat):Code:=xJ (U1 P f) p
def Cl (P:Program)(f:FuncId):List ResultVar:=match P.funcs[f]? with|some fn=>fn.results.toList|none=>[]
def Ml {α:Type}:List (Nat×List Nat)→Lam→(Lam→Option α)→Option α
 |[],l,k=>k l
 |q::r,l,k=>match aG l q.1 with
  | .cells cs=>gF q.2 cs fun cs=>Ml r (l.set q.1 (.cells cs)) k
  |_=>none
def bz (l:List UInt8):List CV:=l.map fun b=> .v (.int .u8 (b.toNat:Int))
end Go.Abs
set_option linter.unusedVariables false
set_option linter.unusedSimpArgs false
namespace Go.Abs
open Go Go.RowKit
section
variable {P:Program}{W0:World}{G:Gh}{w w':World}{L:Nat}{μ:Mu}{s:S}{tm:Array Value}
theorem Ac {p:Addr}{v:Value}(h:w.cell? p=some v):p.block<w.heap.size:=by
 by_cases hp:p.block<w.heap.size
 ·exact hp
 ·exfalso
  unfold World.cell? at h
  rw[Array.getElem?_eq_none (by omega)]at h
  simp at h
theorem Am {b:Nat}{o:Obj}(h:w.heap[b]? =some o):b<w.heap.size:=(Array.getElem?_eq_some_iff.1 h).1
theorem CS (hb:Below w.heap.size w w'):Le G w G w':=by
 refine⟨fun b es clk h h1=>⟨h,by rw[hb.block b (Am h1)];exact h1⟩,fun lev i h=>⟨h,rfl,rfl⟩,fun b off v h h1=>⟨h,?_⟩,fun b cur e fz h=>⟨cur,fz,?_,rfl⟩⟩
 ·rw[hb.cell (p:=⟨b,off,none⟩) (Ac h1)];exact h1
 ·rw[hb.block b (Am h)];exact h
theorem Rel.later (R:Rel G L s μ tm w)(hb:Below w.heap.size w w'):Rel G L s μ tm w'∧(∀l b,ay G w' s.fr tm (μ++[s.lam]) l b→ay G w s.fr tm (μ++[s.lam]) l b):=
 R.frame (CS hb) (fun b h=>⟨hb.block b (R.touch_lt h),rfl⟩) (fun _ _ _=>⟨rfl,rfl⟩) rfl
theorem jk {f:FuncId}{args:List LV}{v:LV}(hf: ∃fn c,P.funcs[f]? =some fn∧fn.body=some c∧(fn.name == "runtime.NumGoroutine")=false)
  (hc : ∀ (G : Gh) (w : World) (cargs : Array Value), cargs.size = args.length → (∀ j x, args[j]? = some x → LVR G w μ.length 0 x (cargs.getD j undef)) → W0.heap.size ≤ w.heap.size → (∀ b, b < W0.heap.size → w.heap[b]? = W0.heap[b]?) →
   Calls P f cargs w fun e w'=> ∃cv,e= .returned cv∧Below w.heap.size w w'∧LVR G w' μ.length 0 v cv∧ ∀b,¬aH v cv b):cR P W0 f args μ (.ret v μ):=by
 refine⟨hf,fun G w cargs hs R hkn=> ?_⟩
 refine(hc G w cargs hs (fun j x hx=> ?_) hkn.1 (fun b hb=>(hkn.2 b hb).1)).mono fun e w' h=> ?_
 ·have:=R.fr j
  rw[ct,hx]at this
  exact this
 ·obtain⟨cv,rfl,hb,hv,hno⟩:=h
  obtain⟨R1,hO⟩:=R.later hb
  have hob: ∀lev i,aE (μ++[(aP [v]).lam]) lev i=aE (μ++[(aP args).lam]) lev i:=fun _ _=>rfl
  have hown: ∀q b,ay (G.withO G.O) w' (aP [v]).fr #[cv] (μ++[(aP [v]).lam]) q b→ay G w' (aP args).fr cargs (μ++[(aP args).lam]) q b:=by
   intro q b h
   cases q with
   |fr t=>
    exfalso
    simp only[ay,ct]at h
    cases t with
    |zero=>exact hno b h
    |succ t=>simp[aH]at h
   |ob lev i k=>exact h
  refine⟨G.O,⟨R1.lev,fun t=> ?_,R1.lam,R1.mu,R1.inj,fun q q' b h h'=>R1.own q q' b (hown q b h) (hown q' b h'),fun q b lev i h h'=>R1.apart q b lev i (hown q b h) h',R1.nlt,R1.nL,R1.ngt⟩,?_⟩
  ·rw[ct]
   cases t with
   |zero=>exact hv
   |succ t=>simp[LVR,VR]
  ·refine⟨CS hb,hb.os,hb.tape,hb.output,hb.size,fun b hl _=>⟨hb.block b hl,rfl⟩,fun b h=> .inl ?_,fun _ _=>⟨fun _=>⟨rfl,rfl⟩,rfl⟩⟩
   rcases h with⟨q,h⟩|⟨lev,i,h,e⟩
   ·exact .inl ⟨q,hO q b (hown q b h)⟩
   ·exact .inr ⟨lev,i,h,e⟩
theorem vp {vals:List Value}{cargs:Array Value}(hs:cargs.size=(vals.map fun v=>LV.cv (.v v)).length)(hv: ∀j x,(vals.map fun v=>LV.cv (.v v))[j]? =some x→LVR G w L 0 x (cargs.getD j undef)):cargs=vals.toArray:=by
 simp only[List.length_map]at hs
 apply Array.ext
 ·simpa using hs
 ·intro j h1 h2
  have h3:j<vals.length:=by simpa using h2
  have:=hv j (.cv (.v vals[j])) (by simp[h3])
  simp only[LVR,VR,Array.getD_eq_getD_getElem?,Array.getElem?_eq_getElem h1,Option.getD_some]at this
  simpa using this
theorem Lu {f:FuncId}{vals:List Value}{r:Value}(hf: ∃fn c,P.funcs[f]? =some fn∧fn.body=some c∧(fn.name == "runtime.NumGoroutine")=false)
  (hc: ∀w:World,W0.heap.size≤w.heap.size→(∀b,b<W0.heap.size→w.heap[b]? =W0.heap[b]?)→Calls P f vals.toArray w fun e w'=>e= .returned r∧Below w.heap.size w w'):
  cR P W0 f (vals.map fun v=>LV.cv (.v v)) μ (.ret (.cv (.v r)) μ):=by
 refine jk hf fun G w cargs hs hv h1 h2=> ?_
 rw[vp hs hv]
 exact(hc w h1 h2).mono fun e w' ⟨h3,h4⟩=>⟨r,h3,h4,by simp[LVR,VR],fun b h=>by simp[aH]at h⟩
end
end Go.Abs
set_option linter.unusedVariables false
namespace Go.Abs
open Go
abbrev d9:=List LV→Mu→Option Out
def vE (g:List UInt8→Option LV):d9:=fun args μ=>opt (aw args) fun q=>opt (aO q.2) fun _=>opt (aN q.1) fun s=>opt (g s) fun v=>some (.ret v μ)
def jK (g:List UInt8→List UInt8→Option LV):d9:=fun args μ=>opt (aw args) fun q=>opt (aw q.2) fun r=>opt (aO r.2) fun _=>opt (aN q.1) fun s=>opt (aN r.1) fun t=>opt (g s t) fun v=>some (.ret v μ)
def Cj (g:List UInt8→List UInt8→List UInt8→Option LV):d9:=fun args μ=>opt (aw args) fun q=>opt (aw q.2) fun r=>opt (aw r.2) fun z=>opt (aO z.2) fun _=>opt (aN q.1) fun s=>opt (aN r.1) fun t=>opt (aN z.1) fun u=>
 opt (g s t u) fun v=>some (.ret v μ)
def fh (s:List UInt8):Bool:=decide (s.length≤1000000)
def rN:d9:=vE fun s=>ax (fh s) (some (LV.str (Lib.toUpperD s)))
def yh (err:TypeId)(s:List UInt8):LV:=match Lib.atoiAll s with
 | .ok v=> .ltup [LV.int .i64 v,.cv (.v .nilIface)]
 | .range=> .ltup [LV.int .i64 (Lib.atoiSat s),.cv (.iface err .undef)]
 |_=> .ltup [LV.int .i64 0,.cv (.iface err .undef)]
def Ci (err:TypeId):d9:=vE fun s=>ax (fh s) (some (yh err s))
def zl:d9:=fun args μ=>opt (aw args) fun q=>opt (aO q.2) fun _=>opt (aC .i64 q.1) fun n=>ax (decide (-9223372036854775808≤n)&&decide (n≤9223372036854775807)) (some (.ret (LV.str (Lib.itoa n)) μ))
def nc:d9:=jK fun s p=>some (LV.bool (Lib.hasPrefix s p))
def l0:d9:=jK fun s p=>some (LV.str (Lib.trimPrefix s p))
def Az (s:List UInt8):Option UInt8:=match s with|[c]=>some c|_=>none
def o5:d9:=jK fun s t=>opt (Az t) fun c=>ax (decide (c.toNat<128)) (some (LV.str (Lib.trimLeftB s c)))
def nd:d9:=jK fun s t=>opt (Az t) fun c=>ax (decide (c.toNat<128)&&fh s) (some (LV.str (Lib.trimRightB s c)))
def zk:d9:=jK fun s t=>ax (fh s) (some (LV.int .i64 (Lib.index s t)))
def lZ:d9:=Cj fun s old new=>ax (fh s&&fh new&&decide (1≤old.length)) (some (LV.str (Lib.replaceAll s old new)))
def io (preds:FuncId→Option (UInt8→Bool)):d9:=fun args μ=>opt (aw args) fun q=>opt (aw q.2) fun r=>opt (aO r.2) fun _=>opt (aN q.1) fun s=>match r.1 with
 | .cv (.clo g [])=>opt (preds g) fun p=>some (.ret (LV.bool (s.any p)) μ)
 |_=>none
def rM (bt:TypeId):d9:=fun args μ=>opt (aw args) fun q=>opt (aO q.2) fun _=>match q.1 with
 | .cv (.tref lev i t n) => ax (Nat.beq t bt && Nat.beq n 2) (match aU μ lev i with
  | .cells [a,b]=>match a with
   | .cv (.v (.pointer none))=>some (.ret (.ltup []) (bj μ lev i (.cells [.cv (.ref lev i 0),b])))
   | .cv (.ref l j 0)=>ax (Nat.beq l lev&&Nat.beq j i) (some (.ret (.ltup []) μ))
   |_=>none
  |_=>none)
 |_=>none
def AD (bt:TypeId):d9:=fun args μ=>opt (aw args) fun q=>opt (aO q.2) fun _=>match q.1 with
 | .cv (.tref lev i t n) => ax (Nat.beq t bt && Nat.beq n 2) (match aU μ lev i with
  | .cells [a,b]=>opt (gM b) fun xs=>opt (bn xs) fun s=>some (.ret (LV.str s) (bj μ lev i .dead))
  |_=>none)
 |_=>none
def togStep (f:List Int)(nx a:Int):Option Int:=if a= -1 then some nx else if a=nx-1 then some ((f[a.toNat]?).getD 0)else none
def togSt (f:List Int)(l:List Int)(nx:Int):Option Int:=l.foldlM (togStep f) nx
def intsOf:List CV→Option (List Int)
 |[]=>some []
 | .v (.int .i64 n)::r=>opt (intsOf r) fun l=>some (n::l)
 |_::_=>none
def zF (f zs:List Int)(nx:Int):Bool:=decide (f.length≤1000000)&&decide (zs.length≤1000000)&&decide (0≤nx)&&decide (nx≤f.length)&&f.all fun v=>decide (0≤v)&&decide (v≤f.length)
def FI (r:Option Int):LV:=match r with|some v=> .ltup [LV.int .i64 v,LV.bool true]|none=> .ltup [LV.int .i64 0,LV.bool false]
def mE:d9:=fun args μ=>opt (aw args) fun q=>opt (aw q.2) fun r=>opt (aw r.2) fun z=>opt (aO z.2) fun _=>opt (bp q.1) fun f=>opt (bp r.1) fun l=>opt (aC .i64 z.1) fun nx=>
 opt (intsOf f) fun f=>opt (intsOf l) fun l=>ax (zF f l nx) (some (.ret (FI (togSt f l.reverse nx)) μ))
end Go.Abs
set_option linter.unusedVariables false
set_option maxRecDepth 1000000
namespace Go.Abs
open Go Go.Proofs
def H3:Hints:={ops:=[((5,5),{take:=[29]}),((6,5),{take:=[34]}),((7,5),{take:=[5]}),((7,6),{take:=[40,41]}),((11,1),{take:=[48]}),((11,2),{take:=[49]}),((12,5),{take:=[56]}),((13,7),{take:=[9]}),((13,8),{take:=[3]}),((13,9),{take:=[65,66]})],cuts:=[(3,[(0,0)],[(2,0)]),(5,[(0,0)],[(2,0)]),(9,[(3,2),(6,0)],[(2,0)]),(11,[(3,2)],[(2,0)])],res:=[(2,0)]}
def H4:Hints:={ops:=[((10,1),{take:=[39]}),((10,2),{take:=[40]}),((10,7),{take:=[42]}),((11,0),{take:=[0]}),((11,1),{take:=[46]}),((11,6),{take:=[48]}),((12,9),{take:=[4]}),((12,10),{take:=[7]}),((12,11),{take:=[60,61]})],live:=[(6,[(0,2),(3,0)],[(0,2)])],cuts:=[(3,[(0,2)],[(2,0)]),(5,[(0,2)],[(2,0)])],res:=[(2,0)]}
def H5:Hints:={ops:=[((3,1),{take:=[17]}),((5,1),{take:=[21]}),((5,2),{take:=[22]}),((6,1),{take:=[27]}),((6,2),{take:=[28]}),((7,1),{take:=[32]}),((10,1),{take:=[52]}),((10,3),{take:=[54]}),((15,5),{take:=[93]}),((16,6),{take:=[98]}),((19,12),{take:=[10]}),((19,13),{take:=[0]}),((19,14),{take:=[127,128]})],cuts:=[(3,[(0,2)],[(2,0)]),(5,[(0,2)],[(2,0)]),(10,[(0,2),(3,0),(4,0),(5,0),(6,0)],[(2,0)]),(13,[(0,2),(3,0),(4,0),(8,0)],[(2,0)]),(15,[(0,2),(3,0),(4,0),(8,0)],[(2,0)]),(19,[(0,2),(3,0),(4,0),(8,0),(10,2),(11,0)],[(2,0)])],res:=[(2,0)]}
def H6:Hints:={ops:=[((3,1),{take:=[10]}),((5,1),{take:=[14]}),((5,2),{take:=[15]}),((5,6),{take:=[17]}),((6,1),{take:=[19]}),((8,4),{take:=[3]}),((8,5),{take:=[27]}),((9,5),{take:=[34]}),((9,6),{take:=[33,35]}),((9,11),{take:=[40]}),((11,1),{take:=[45]}),((11,2),{take:=[46]}),((11,6),{take:=[48]}),((12,3),{take:=[6]}),((12,5),{take:=[53,54]}),((12,8),{take:=[3]}),((12,9),{take:=[58]}),((12,11),{take:=[0]}),((12,12),{take:=[61]})],cuts:=[(3,[(0,2)],[(2,0)]),(5,[(0,2)],[(2,0)]),(9,[(0,2),(3,2),(4,0)],[(2,0)]),(11,[(0,2),(3,2)],[(2,0)])],res:=[(2,0)]}
def H7:Hints:={ops:=[((6,10),{take:=[48]}),((9,0),{take:=[9]}),((9,1),{take:=[61]}),((9,2),{take:=[62]}),((18,5),{take:=[121]}),((19,0),{take:=[16]}),((19,1),{take:=[124]}),((19,2),{take:=[125]}),((24,9),{take:=[158]}),((25,0),{take:=[22]}),((25,1),{take:=[161]}),((25,2),{take:=[162]})],cuts:=[(3,[(0,0),(1,0),(2,0)],[(6,0)]),(5,[(0,0),(1,0),(2,0)],[(6,0)]),(9,[(0,0),(1,0),(2,0),(7,0),(8,0),(9,2),(10,0)],[(6,0)]),(16,[(0,0),(2,0),(7,0),(10,0),(11,0),(12,0),(14,0),(15,0)],[(6,0)]),(18,[(0,0),(2,0),(7,0),(14,0),(15,0)],[(6,0)]),(22,[(0,0),(2,0),(7,0)],[(6,0)]),(28,[(7,0),(20,0),(23,0),(24,0),(25,0)],[(6,0)])],res:=[(6,0)]}
def H8:Hints:={ops:=[((3,1),{take:=[11]}),((5,1),{take:=[15]}),((5,2),{take:=[16]}),((6,1),{take:=[21]}),((6,2),{take:=[22]}),((7,1),{take:=[27]}),((12,4),{take:=[0]}),((12,5),{take:=[52]})],cuts:=[(3,[(0,2)],[(2,0)]),(5,[(0,2)],[(2,0)]),(10,[(0,2),(5,0),(6,0),(8,0)],[(2,0)]),(12,[(0,2),(5,0),(6,0)],[(2,0)])],res:=[(2,0)]}
def H9:Hints:={ops:=[((3,1),{take:=[14]}),((5,1),{take:=[18]}),((5,3),{take:=[19]}),((5,7),{take:=[22]}),((6,1),{take:=[24]}),((8,4),{take:=[5]}),((8,5),{take:=[32]}),((9,1),{take:=[35]}),((9,3),{take:=[37]}),((9,6),{take:=[38]}),((11,3),{take:=[5]}),((11,4),{take:=[56]}),((13,3),{take:=[5]}),((13,8),{take:=[63,67]}),((17,2),{take:=[9]}),((17,3),{take:=[77]}),((17,4),{take:=[78]}),((17,8),{take:=[80]}),((18,3),{take:=[10]}),((18,4),{take:=[0]}),((18,5),{take:=[85,86]})],cuts:=[(3,[(0,2),(1,0)],[(4,0)]),(5,[(0,2),(1,0)],[(4,0)]),(9,[(0,2),(1,0),(5,2),(6,0)],[(4,0)]),(15,[(0,2),(8,0),(9,2)],[(4,0)]),(17,[(0,2),(8,0),(9,2)],[(4,0)])],res:=[(4,0)]}
def H10:Hints:={ops:=[((9,4),{take:=[36]}),((11,4),{take:=[42]}),((14,2),{take:=[49]}),((14,3),{take:=[50]}),((14,7),{take:=[52]}),((15,2),{take:=[56]}),((15,3),{take:=[57]}),((15,7),{take:=[59]}),((25,2),{take:=[81]}),((25,6),{take:=[83]}),((26,4),{take:=[10]}),((26,5),{take:=[16]}),((26,6),{take:=[89,90]}),((35,4),{take:=[12]}),((35,5),{take:=[108]}),((36,2),{take:=[2]}),((36,3),{take:=[113]}),((36,4),{take:=[114]}),((38,3),{take:=[12]}),((38,4),{take:=[121]}),((39,3),{take:=[12]}),((39,4),{take:=[16]}),((39,5),{take:=[127,128]})],live:=[(7,[(0,0),(1,0),(2,2),(7,0),(8,0)],[(0,0),(1,0),(2,2),(7,0)])],cuts:=[(3,[(0,0),(1,0),(2,2)],[(6,0)]),(5,[(0,0),(1,0),(2,2)],[(6,0)]),(11,[(0,0),(1,0),(2,2),(7,0),(8,0)],[(0,0),(1,0),(2,2),(7,0),(8,0)]),(23,[(0,0),(1,0),(2,2),(7,0),(10,2),(11,0),(12,2),(13,0),(14,0)],[(6,0)]),(26,[(1,0),(2,2),(7,0),(10,2),(11,0),(12,2),(13,0),(14,0),(16,2)],[(6,0)]),(28,[(1,0),(2,2),(7,0),(12,2),(13,0)],[(6,0)]),(34,[(1,0),(2,2),(12,2),(13,0),(14,0)],[(6,0)]),(36,[(1,0),(2,2),(12,2),(13,0)],[(6,0)]),(39,[(12,2),(13,0),(16,2)],[(6,0)])],res:=[(6,0)]}
def H11:Hints:={ops:=[((3,1),{take:=[20]}),((3,5),{take:=[24]}),((5,1),{take:=[34]}),((5,2),{take:=[35]}),((5,6),{take:=[37]}),((6,1),{take:=[40]}),((6,4),{take:=[43]}),((6,5),{take:=[41,44]}),((6,10),{take:=[46]}),((7,1),{take:=[49]}),((9,4),{take:=[7]}),((9,14),{take:=[9]}),((9,15),{take:=[67]}),((10,3),{take:=[7]}),((10,5),{take:=[78]}),((10,6),{take:=[77,79]}),((12,1),{take:=[83]}),((16,4),{take:=[9]}),((16,5),{take:=[98]}),((17,2),{take:=[2]}),((17,3),{take:=[106,108]}),((17,7),{take:=[110]}),((19,3),{take:=[9]}),((19,4),{take:=[118]}),((20,9),{take:=[13]}),((20,10),{take:=[133,134]}),((20,14),{take:=[9]}),((20,15),{take:=[139]}),((22,1),{take:=[144]}),((22,6),{take:=[145,149]}),((22,11),{take:=[151]}),((23,8),{take:=[15]}),((23,9),{take:=[0]}),((23,10),{take:=[162,163]})],cuts:=[(3,[(0,2),(1,0),(2,2)],[(6,0)]),(5,[(0,2),(1,0),(2,2)],[(6,0)]),(10,[(0,2),(1,0),(2,2),(7,2),(8,0),(9,2),(10,0),(11,0)],[(6,0)]),(12,[(0,2),(1,0),(2,2),(9,2),(10,0),(11,0)],[(6,0)]),(15,[(0,2),(1,0),(2,2),(9,2),(10,0),(11,0),(12,0)],[(6,0)]),(17,[(0,2),(1,0),(2,2),(9,2),(10,0),(11,0)],[(6,0)]),(20,[(0,2),(1,0),(9,2),(10,0),(11,0),(13,2),(14,0)],[(6,0)]),(22,[(0,2),(1,0),(14,0)],[(6,0)])],res:=[(6,0)]}
def H12:Hints:={ops:=[((1,4),{take:=[17]}),((2,1),{take:=[20]}),((3,4),{take:=[26]}),((4,0),{take:=[5]}),((4,1),{take:=[29]}),((5,4),{take:=[35]}),((6,0),{take:=[9]}),((6,1),{take:=[38]}),((6,5),{take:=[40]}),((7,0),{take:=[11]}),((7,1),{take:=[43]}),((8,3),{take:=[1]})]}
def H13:Hints:={ops:=[((1,6),{take:=[12]}),((4,1),{take:=[19]}),((4,6),{take:=[21]}),((7,1),{take:=[4]}),((9,0),{take:=[7]}),((9,1),{take:=[31]})],cuts:=[(4,[(4,2)],[(2,2),(3,0)]),(7,[(4,2),(7,2),(8,0)],[(2,2),(3,0)])],res:=[(2,2),(3,0)]}
def H14:Hints:={ops:=[((1,6),{take:=[12]}),((4,1),{take:=[19]}),((4,6),{take:=[21]}),((7,1),{take:=[4]}),((9,0),{take:=[7]}),((9,1),{take:=[31]})],cuts:=[(4,[(4,2)],[(2,2),(3,0)]),(7,[(4,2),(7,2),(8,0)],[(2,2),(3,0)])],res:=[(2,2),(3,0)]}
def H15:Hints:={ops:=[((6,48),{take:=[59,64]})],live:=[(4,[(0,2),(1,2),(5,0)],[])],cuts:=[(3,[(0,2),(1,2)],[(4,0)])],res:=[(4,0)]}
def H16:Hints:={ops:=[((1,0),{take:=[0]}),((1,1),{take:=[4]})]}
def H17:Hints:={ops:=[((5,0),{take:=[3]}),((5,21),{take:=[31]}),((5,24),{take:=[11]}),((5,25),{take:=[35]}),((6,0),{take:=[3]}),((6,1),{take:=[36]})],live:=[(3,[(0,2),(3,1),(4,0)],[(3,1)])],res:=[(2,2)]}
def H18:Hints:={ops:=[((12,0),{take:=[0]}),((13,1),{push:=true}),((16,1),{push:=true}),((16,5),{take:=[44]}),((17,4),{push:=true}),((19,0),{take:=[11]}),((19,5),{take:=[52]})],live:=[(4,[(0,2),(15,2),(16,0),(17,0)],[(0,2)])],cuts:=[(3,[(0,2)],[(2,2),(3,0),(4,0)]),(12,[(0,2)],[(2,2),(3,0),(4,0)]),(14,[(8,0),(9,0),(10,0)],[(2,2),(3,0),(4,0)]),(16,[(8,0),(9,0)],[(2,2),(3,0),(4,0)]),(17,[(8,0),(9,0),(10,0),(11,2)],[(2,2),(3,0),(4,0)]),(18,[(8,0),(11,2),(51,0)],[(8,0),(11,2)]),(19,[(8,0),(11,2)],[(2,2),(3,0),(4,0)])],res:=[(2,2),(3,0),(4,0)]}
def H19:Hints:={ops:=[((1,1),{take:=[0]}),((1,2),{take:=[3]}),((1,3),{take:=[5]})]}
def H20:Hints:={ops:=[((1,1),{take:=[11]}),((6,0),{take:=[0]}),((7,1),{push:=true}),((7,5),{take:=[27]}),((10,5),{take:=[35],push:=true}),((12,0),{take:=[8]}),((12,5),{take:=[38]})],cuts:=[(4,[(0,2)],[(2,2),(3,0),(4,0)]),(6,[(0,2)],[(2,2),(3,0),(4,0)]),(8,[(7,0),(8,2),(9,0)],[(2,2),(3,0),(4,0)]),(10,[(7,0),(8,2)],[(2,2),(3,0),(4,0)]),(11,[(7,0),(8,2),(37,0)],[(7,0),(8,2)]),(12,[(7,0),(8,2)],[(2,2),(3,0),(4,0)])],res:=[(2,2),(3,0),(4,0)]}
def H21:Hints:={live:=[(4,[(0,2),(3,0)],[])],cuts:=[(3,[(0,2)],[(2,0)])],res:=[(2,0)]}
def H22:Hints:={ops:=[((1,0),{take:=[0]}),((1,1),{take:=[4]})]}
def H23:Hints:={ops:=[((1,0),{take:=[0]}),((1,1),{take:=[6]})]}
def H24:Hints:={ops:=[((1,1),{take:=[11]}),((2,0),{take:=[0]}),((2,1),{take:=[13]}),((2,2),{take:=[14]}),((8,0),{take:=[7]}),((8,2),{take:=[27]}),((8,3),{take:=[29]}),((9,0),{take:=[7]}),((9,11),{take:=[34]}),((9,13),{take:=[30]}),((9,14),{take:=[43]}),((12,7),{take:=[7]}),((28,2),{take:=[7]}),((31,5),{take:=[7]}),((33,0),{take:=[7]}),((37,3),{take:=[7]})],live:=[(5,[(1,0),(5,0),(6,2),(7,1),(8,0)],[(1,0),(5,0),(7,1)]),(19,[(7,1),(9,0),(10,0)],[(9,0)])],cuts:=[(15,[(1,0),(5,0),(7,1),(45,0),(57,0)],[(1,0),(9,0)]),(23,[(7,1),(9,0),(10,0)],[(7,1),(9,0),(10,0)]),(37,[(1,0),(5,0),(7,1),(125,0)],[(1,0),(9,0)]),(38,[(1,0),(9,0)],[(4,0)])],res:=[(4,0)]}
def H25:Hints:={ops:=[((12,0),{take:=[6]}),((12,4),{take:=[33]}),((12,7),{take:=[37]}),((15,1),{take:=[6]}),((15,3),{take:=[43]})],live:=[(6,[(0,0),(6,1),(7,0)],[(6,1)])],cuts:=[(4,[(0,0)],[(2,2),(3,0),(4,0)]),(9,[(0,0),(6,1),(7,0)],[(0,0),(6,1),(7,0)]),(12,[(0,0),(6,1),(8,0)],[(0,0),(6,1),(7,0)])],res:=[(2,2),(3,0),(4,0)]}
def H26:Hints:={ops:=[((1,0),{take:=[0]}),((1,1),{take:=[7]}),((7,4),{take:=[29]})],live:=[(5,[(4,0)],[(4,0)])],cuts:=[(4,[(4,0)],[(2,2),(3,0)])],res:=[(2,2),(3,0)]}
def H27:Hints:={ops:=[((1,0),{take:=[0]})]}
def H28:Hints:={ops:=[((1,0),{take:=[0]}),((1,1),{take:=[4]}),((1,2),{take:=[5]}),((2,0),{take:=[3]}),((2,1),{take:=[6]}),((2,4),{take:=[9]}),((3,1),{take:=[10]}),((4,0),{take:=[3]}),((4,1),{take:=[14]})],live:=[(3,[(3,2)],[])],res:=[(2,2)]}
def H29:Hints:={live:=[(3,[(0,0),(3,0),(4,0)],[(3,0)])],res:=[(2,0)]}
def H30:Hints:={}
def H31:Hints:={ops:=[((1,1),{take:=[4]}),((2,0),{take:=[3]})]}
def H32:Hints:={cuts:=[(6,[(0,0),(3,0),(6,0)],[(0,0)]),(11,[(0,0),(3,0),(9,0)],[(0,0)])],res:=[(2,0)]}
def H33:Hints:={ops:=[((10,3),{take:=[31,33]}),((18,4),{cell:=true}),((18,6),{take:=[62]}),((18,9),{take:=[64]}),((19,4),{cell:=true}),((19,10),{take:=[71]}),((19,13),{take:=[77]}),((21,0),{freeze:=[10]}),((24,0),{take:=[4]}),((24,3),{take:=[87]}),((24,4),{take:=[5]}),((24,7),{take:=[91]}),((24,8),{take:=[90]}),((24,9),{take:=[94]}),((27,0),{take:=[0]}),((27,7),{take:=[4]})],live:=[(8,[(0,2),(4,1),(5,1),(23,2),(24,0),(25,0)],[(0,2),(4,1)]),(15,[(0,2),(4,1),(5,1),(6,0),(7,0),(8,0),(10,0),(23,2),(24,0),(25,0),(50,2),(51,0),(52,0)],[(0,2),(4,1),(5,1),(6,0),(8,0),(10,0),(23,2),(24,0),(25,0)])],cuts:=[(5,[(0,2)],[(2,0),(3,0)]),(13,[(0,2),(4,1),(5,1),(6,0),(7,0),(8,0),(23,2),(24,0),(25,0)],[(0,2),(4,1),(5,1),(23,2),(24,0),(25,0)]),(24,[(0,2),(4,1),(5,1),(8,0),(10,0),(23,2),(24,0),(25,0)],[(0,2),(4,1),(5,1),(23,2),(24,0),(25,0)])],objs:=[(15,[(1,[0,0,0,1])])],res:=[(2,0),(3,0)]}
def H34:Hints:={ops:=[((1,0),{take:=[0]}),((1,1),{take:=[7]})],cuts:=[(4,[(4,0)],[(2,0),(3,0)])],res:=[(2,0),(3,0)]}
def H35:Hints:={ops:=[((8,2),{take:=[19]}),((12,9),{take:=[36]}),((12,10),{take:=[0]})],live:=[(6,[(0,2),(4,0)],[(0,2)])],cuts:=[(3,[(0,2)],[(2,0),(3,0)]),(5,[(0,2)],[(2,0),(3,0)])],res:=[(2,0),(3,0)]}
def H36:Hints:={ops:=[((1,1),{take:=[0]})]}
def H37:Hints:={ops:=[((1,0),{take:=[0]}),((1,1),{take:=[9]}),((6,8),{take:=[42]})],cuts:=[(4,[(1,0),(6,0)],[(4,2),(5,0)]),(6,[(1,0),(6,0)],[(4,2),(5,0)])],res:=[(4,2),(5,0)]}
def H38:Hints:={ops:=[((3,2),{take:=[7]}),((5,1),{take:=[14]}),((7,0),{take:=[3]}),((7,2),{take:=[22]}),((7,3),{take:=[24]}),((8,0),{take:=[3]}),((8,3),{take:=[26]}),((8,5),{take:=[25]}),((8,6),{take:=[30]}),((9,0),{take:=[3]}),((9,1),{take:=[31]})],live:=[(3,[(0,2),(3,1),(4,0)],[(3,1)])],res:=[(2,2)]}
def H40:Hints:={ops:=[((5,0),{take:=[3]}),((5,5),{take:=[15]}),((5,7),{take:=[11]}),((5,8),{take:=[18]}),((6,0),{take:=[3]}),((6,1),{take:=[19]})],live:=[(3,[(0,2),(3,1),(4,0)],[(3,1)])],res:=[(2,2)]}
def H41:Hints:={ops:=[((5,0),{take:=[1]}),((5,1),{take:=[16]}),((5,5),{take:=[18]}),((8,1),{take:=[6]}),((8,4),{freeze:=[26]}),((8,7),{take:=[28]})],cuts:=[(3,[(0,0),(1,2)],[(4,2),(5,0)]),(5,[(0,0),(1,2)],[(4,2),(5,0)]),(8,[(0,0),(6,2)],[(4,2),(5,0)])],res:=[(4,2),(5,0)]}
def H42:Hints:={}
def H43:Hints:={ops:=[((5,13),{take:=[21]}),((7,0),{take:=[6]}),((7,7),{take:=[45]}),((7,9),{take:=[39]}),((7,10),{take:=[48]}),((8,2),{take:=[6]}),((8,3),{take:=[51]}),((8,4),{take:=[52]}),((11,0),{take:=[8]}),((11,1),{take:=[56]})],live:=[(3,[(0,0),(1,2),(6,1),(7,0)],[(0,0),(6,1)])],cuts:=[(7,[(0,0),(1,2),(6,1),(7,0)],[(0,0),(1,2),(6,1),(7,0)])],res:=[(4,2),(5,0)]}
def H44:Hints:={live:=[(4,[(0,0),(3,0)],[])],cuts:=[(3,[(0,0)],[(2,0)])],res:=[(2,0)]}
def H45:Hints:={ops:=[((7,1),{cell:=true}),((7,3),{take:=[33]}),((7,5),{take:=[35]}),((19,1),{cell:=true}),((19,4),{take:=[103]}),((19,6),{take:=[106]}),((20,0),{take:=[5]}),((20,3),{take:=[108]}),((20,4),{take:=[111]}),((21,1),{cell:=true}),((21,6),{take:=[113]}),((21,8),{take:=[118]}),((22,0),{take:=[5]}),((22,3),{take:=[120]}),((22,4),{take:=[123]})],live:=[(4,[(1,2),(2,0),(5,1),(6,0),(7,0)],[(2,0),(5,1),(6,0)]),(10,[(1,2),(2,0),(5,1),(6,0),(7,0),(8,0),(9,0)],[(1,2),(2,0),(5,1),(6,0),(7,0)]),(14,[(1,2),(2,0),(5,1),(6,0),(7,0),(8,0),(9,0),(10,0),(11,0)],[(1,2),(2,0),(5,1),(6,0),(7,0),(8,0),(9,0),(10,0)])],cuts:=[(8,[(1,2),(2,0),(5,1),(6,0),(7,0)],[(1,2),(2,0),(5,1),(6,0),(7,0)]),(19,[(1,2),(2,0),(5,1),(6,0),(7,0),(8,0),(9,0),(10,0),(11,0),(12,0)],[(1,2),(2,0),(5,1),(6,0),(7,0),(8,0),(9,0),(10,0),(11,0)])],objs:=[(4,[(1,[0,0,0,1])]),(10,[(1,[0,0,0,1])]),(14,[(1,[0,0,0,1]),(2,[0,0,0,1])])],res:=[(4,2)]}
def H46:Hints:={ops:=[((1,1),{take:=[10]}),((5,0),{take:=[0]}),((8,12),{take:=[32]}),((9,0),{take:=[6]}),((9,4),{take:=[38]}),((9,5),{take:=[42]}),((11,0),{take:=[6]}),((11,1),{take:=[44]})],live:=[(6,[(6,1),(17,2),(18,0),(19,0)],[(6,1)])],cuts:=[(4,[(0,2)],[(2,2),(3,0)])],res:=[(2,2),(3,0)]}
def H47:Hints:={ops:=[((1,0),{take:=[0]}),((1,1),{take:=[15]}),((4,0),{take:=[2]}),((4,1),{take:=[23]}),((10,5),{take:=[43]}),((13,0),{take:=[13]}),((13,2),{take:=[48]})],cuts:=[(4,[(1,0),(2,2),(9,0)],[(6,2),(7,0),(8,0)]),(7,[(1,0),(9,0),(11,0)],[(6,2),(7,0),(8,0)]),(9,[(1,0),(9,0),(11,0)],[(6,2),(7,0),(8,0)])],res:=[(6,2),(7,0),(8,0)]}
def H48:Hints:={live:=[(3,[(0,2),(1,2),(5,0),(13,0),(14,0)],[(5,0)])],res:=[(4,0)]}
def H49:Hints:={ops:=[((6,13),{take:=[24]}),((7,0),{take:=[3]}),((7,7),{take:=[33]}),((7,8),{take:=[40]}),((8,0),{take:=[3]}),((8,1),{take:=[41]})],live:=[(3,[(0,2),(3,1),(4,0)],[(3,1)])],res:=[(2,2)]}
def H51:Hints:={ops:=[((1,5),{take:=[7]})]}
def H52:Hints:={ops:=[((1,8),{take:=[11,12]}),((1,12),{take:=[1]}),((1,13),{take:=[0]}),((1,14),{take:=[17,18]})]}
def H53:Hints:={ops:=[((1,0),{take:=[0]}),((1,1),{take:=[10]}),((4,0),{cell:=true}),((5,2),{push:=true}),((6,0),{push:=true}),((8,0),{push:=true})],cuts:=[(4,[(1,0),(6,0)],[(4,0),(5,0)]),(6,[(8,0)],[(4,0),(5,0)]),(7,[(8,0),(21,0)],[(8,0)]),(8,[(8,0)],[(4,0),(5,0)])],objs:=[(6,[(0,[3,1])]),(7,[(0,[3,1])])],res:=[(4,0),(5,0)]}
def H54:Hints:={ops:=[((1,3),{take:=[6]}),((2,1),{take:=[0]}),((3,0),{take:=[3]}),((3,1),{fza:=[(10,3)],take:=[10]})]}
def H55:Hints:={ops:=[((10,7),{take:=[31]}),((10,14),{take:=[38]})],cuts:=[(6,[(1,0),(12,0)],[]),(8,[(1,0)],[]),(10,[(1,0)],[])],res:=[(2,0)]}
def H56:Hints:={pan:=[(2,0),(3,0),(4,0)],dfr:=some 4}
def H57:Hints:={ops:=[((3,2),{take:=[8]})]}
def H58:Hints:={ops:=[((3,4),{take:=[12]})]}
def H59:Hints:={live:=[(4,[(0,2),(4,0)],[])],cuts:=[(3,[(0,2)],[(2,0),(3,0)])],res:=[(2,0),(3,0)]}
def H60:Hints:={ops:=[((3,4),{take:=[22]}),((5,5),{take:=[29]}),((7,0),{take:=[6]}),((7,2),{take:=[38]}),((8,5),{take:=[43]}),((9,1),{take:=[6]}),((9,2),{take:=[8]}),((9,4),{take:=[48]}),((9,6),{take:=[49]}),((12,5),{take:=[58]}),((13,1),{take:=[9]}),((13,3),{take:=[62]}),((13,5),{take:=[63]}),((18,3),{outer:=true}),((18,4),{outer:=true}),((18,7),{outer:=true}),((18,8),{outer:=true}),((19,5),{take:=[90]}),((20,2),{take:=[11]}),((20,4),{take:=[95]}),((20,5),{take:=[96]}),((21,7),{take:=[102]}),((22,4),{outer:=true}),((22,5),{outer:=true}),((22,8),{outer:=true}),((22,9),{outer:=true}),((23,2),{outer:=true}),((23,3),{outer:=true}),((23,6),{outer:=true}),((23,7),{outer:=true}),((25,0),{take:=[11]}),((25,1),{take:=[139]}),((26,3),{outer:=true}),((26,4),{outer:=true}),((26,7),{outer:=true}),((26,8),{outer:=true}),((28,7),{take:=[153]}),((29,2),{take:=[11]}),((29,3),{take:=[16]}),((29,5),{take:=[159]}),((29,6),{take:=[160]}),((31,0),{take:=[11]}),((31,2),{take:=[163]}),((32,0),{take:=[11]}),((32,2),{take:=[165]})],live:=[(22,[(0,0),(1,0),(11,2),(12,0)],[(11,2),(12,0)])],cuts:=[(8,[(0,0),(6,2)],[(0,0),(1,0)]),(14,[(0,0),(1,0)],[(4,2),(5,0)]),(22,[(0,0),(1,0),(11,2),(12,0)],[(4,2),(5,0)]),(26,[(0,0),(1,0),(11,2),(14,0)],[(0,0),(1,0),(11,2),(12,0)])],res:=[(4,2),(5,0)]}
def H61:Hints:={live:=[(2,[(0,2),(3,0)],[])],res:=[(2,0)]}
def H62:Hints:={}
def H63:Hints:={live:=[(4,[(0,0),(1,0),(4,0),(6,0)],[(0,0),(1,0),(4,0),(6,0)]),(14,[(0,0),(1,0),(4,0),(85,2),(86,0),(87,0)],[(0,0),(1,0),(4,0)]),(20,[(0,0),(1,0),(4,0),(103,2),(104,0),(105,0)],[(4,0)]),(30,[(0,0),(1,0),(4,0),(11,0),(133,2),(134,0),(135,0)],[(0,0),(1,0),(4,0),(11,0)]),(36,[(0,0),(1,0),(4,0),(11,0),(164,2),(165,0),(166,0)],[(4,0),(11,0)])],cuts:=[(8,[(0,0),(1,0),(4,0),(6,0)],[(0,0),(1,0),(4,0)]),(11,[(0,0),(1,0),(4,0),(5,0),(60,0)],[(0,0),(1,0),(4,0)]),(28,[(0,0),(1,0),(4,0)],[(4,0)])],res:=[(4,0)]}
def H64:Hints:={ops:=[((1,1),{take:=[7]}),((4,0),{take:=[0]}),((4,1),{take:=[14]})]}
def H65:Hints:={ops:=[((6,4),{cell:=true}),((6,6),{take:=[37]}),((6,9),{take:=[39]}),((10,4),{cell:=true}),((10,7),{take:=[79]}),((10,10),{take:=[82]}),((12,1),{freeze:=[86]})],live:=[(3,[(0,0),(3,0),(24,2),(25,0),(26,0)],[(3,0)])],cuts:=[(7,[(0,0),(3,0),(4,0),(5,0),(24,2),(25,0),(26,0)],[(0,0),(3,0),(24,2),(25,0),(26,0)]),(10,[(0,0),(3,0),(6,0),(24,2),(25,0),(26,0)],[(0,0),(3,0),(24,2),(25,0),(26,0)])],objs:=[(3,[(0,[0,0,0,1])])],res:=[(2,0)]}
def H67:Hints:={ops:=[((1,0),{take:=[0]}),((16,0),{take:=[2]}),((16,4),{take:=[93,95]})],live:=[(10,[(1,0),(2,2),(8,0),(11,0),(67,2),(68,0),(69,0)],[(1,0),(2,2),(8,0),(11,0)])],cuts:=[(4,[(1,0),(2,2),(8,0)],[(6,0),(7,0)]),(7,[(1,0),(2,2),(8,0)],[(6,0),(7,0)]),(16,[(1,0),(2,2),(8,0)],[(6,0),(7,0)]),(19,[(8,0),(14,0)],[(6,0),(7,0)])],res:=[(6,0),(7,0)]}
def H68:Hints:={live:=[(2,[(0,0),(10,2),(11,0),(12,0)],[(0,0)]),(8,[(0,0),(36,2),(37,0),(38,0)],[])],res:=[(2,0)]}
def H69:Hints:={}
def H70:Hints:={ops:=[((23,3),{take:=[106]}),((38,6),{take:=[175]})],live:=[(8,[(0,2),(1,0),(5,0),(8,0)],[(0,2),(1,0),(5,0)]),(17,[(0,2),(5,0),(10,0),(11,0)],[(0,2),(5,0)]),(29,[(0,2),(5,0),(13,0)],[(0,2),(5,0)]),(35,[(0,2),(5,0),(15,0)],[(0,2),(5,0)]),(41,[(0,2),(5,0),(17,0)],[])],cuts:=[(4,[(0,2),(1,0),(5,0)],[(4,0)]),(7,[(0,2),(1,0),(5,0)],[(4,0)]),(15,[(0,2),(1,0),(5,0)],[(4,0)]),(26,[(0,2),(5,0)],[(4,0)]),(28,[(0,2),(5,0)],[(4,0)])],res:=[(4,0)]}
def H71:Hints:={ops:=[((7,3),{take:=[29]})],live:=[(3,[(0,2),(1,0),(5,0),(6,0)],[(5,0)])],res:=[(4,0)]}
def H72:Hints:={}
def H73:Hints:={ops:=[((6,1),{cell:=true}),((6,3),{take:=[33]}),((6,5),{take:=[35]}),((7,1),{take:=[1]}),((7,2),{take:=[38],own:=true}),((7,3),{take:=[39]}),((8,1),{cell:=true}),((8,6),{take:=[41]}),((8,8),{take:=[46]}),((10,0),{take:=[1]}),((10,3),{take:=[49]}),((10,4),{take:=[52]})],live:=[(3,[(1,1),(5,0),(24,2),(25,0),(26,0)],[(1,1),(5,0)])],cuts:=[(7,[(1,1),(5,0),(7,0),(24,2),(25,0),(26,0)],[(1,1),(5,0),(24,2),(25,0),(26,0)])],objs:=[(3,[(0,[0,0,0,1])])],res:=[(4,2)]}
def H74:Hints:={ops:=[((1,4),{take:=[13]}),((13,1),{cell:=true}),((13,4),{take:=[63]}),((13,6),{take:=[66]}),((14,0),{take:=[6]}),((14,3),{take:=[68]}),((14,4),{take:=[71]}),((15,0),{take:=[6]}),((15,1),{take:=[72]})],live:=[(4,[(0,2),(1,0),(5,0),(6,1),(7,0)],[(6,1)]),(8,[(0,2),(1,0),(5,0),(6,1),(7,0),(8,0),(9,0)],[(0,2),(1,0),(5,0),(6,1),(7,0),(8,0)])],cuts:=[(13,[(0,2),(1,0),(5,0),(6,1),(7,0),(8,0),(9,0),(10,0)],[(0,2),(1,0),(5,0),(6,1),(7,0),(8,0),(9,0)])],objs:=[(8,[(0,[0,0,0,1])])],res:=[(4,2)]}
def H75:Hints:={ops:=[((2,0),{take:=[0]}),((4,2),{take:=[14]}),((5,0),{take:=[6]}),((5,1),{take:=[16]}),((8,0),{take:=[4]}),((8,3),{take:=[23]}),((8,4),{take:=[26]}),((10,0),{take:=[4]}),((10,1),{take:=[28]})],live:=[(3,[(4,1),(9,2),(10,0),(11,0)],[(4,1)])],res:=[(2,2),(3,0)]}
def H76:Hints:={}
def H77:Hints:={ops:=[((3,4),{freeze:=[21]})]}
def H78:Hints:={}
def H79:Hints:={ops:=[((3,7),{take:=[0]})],cuts:=[(3,[(0,2),(1,0)],[(4,0)])],res:=[(4,0)]}
def H80:Hints:={ops:=[((1,1),{take:=[7]}),((2,1),{take:=[2]}),((2,3),{take:=[17]}),((2,4),{take:=[18]}),((3,0),{take:=[2]}),((3,1),{take:=[19]})]}
def H81:Hints:={live:=[(4,[(0,0),(19,0),(20,0)],[])],cuts:=[(3,[(0,0)],[(2,0)])],res:=[(2,0)]}
def H82:Hints:={ops:=[((1,0),{take:=[0]}),((1,2),{take:=[5]})]}
def H83:Hints:={ops:=[((9,4),{cell:=true}),((9,6),{take:=[58]}),((9,9),{take:=[60]}),((13,4),{cell:=true}),((13,7),{take:=[83]}),((13,13),{take:=[86]}),((15,3),{freeze:=[6]})],live:=[(6,[(0,0),(1,0),(2,0),(8,0),(9,0),(45,2),(46,0),(47,0)],[(8,0),(9,0)])],cuts:=[(3,[(0,0),(1,0),(2,0)],[(6,0),(7,0)]),(10,[(0,0),(1,0),(2,0),(8,0),(9,0),(10,0),(11,0),(45,2),(46,0),(47,0)],[(0,0),(1,0),(2,0),(8,0),(9,0),(45,2),(46,0),(47,0)]),(13,[(0,0),(1,0),(2,0),(8,0),(9,0),(12,0),(13,0),(45,2),(46,0),(47,0)],[(0,0),(1,0),(2,0),(8,0),(9,0),(45,2),(46,0),(47,0)])],objs:=[(6,[(0,[0,0,0,1])])],res:=[(6,0),(7,0)]}
def H84:Hints:={ops:=[((2,0),{take:=[0]})],live:=[(3,[(1,0),(5,0),(8,2),(9,0),(10,0)],[(5,0)])],res:=[(4,0)]}
def H85:Hints:={ops:=[((4,5),{take:=[24]})],cuts:=[(4,[(7,0),(8,0)],[(4,2),(5,0),(6,0)])],res:=[(4,2),(5,0),(6,0)]}
def H86:Hints:={ops:=[((2,0),{take:=[0]}),((2,2),{take:=[1]}),((3,16),{take:=[0]}),((3,18),{take:=[1]}),((3,20),{take:=[35,37]})],cuts:=[(3,[(0,2),(1,2)],[(4,0)])],res:=[(4,0)]}
def H87:Hints:={ops:=[((5,5),{take:=[33],push:=true}),((6,1),{push:=true}),((8,4),{take:=[46]}),((10,0),{take:=[8]}),((10,2),{take:=[52]}),((11,1),{take:=[8]}),((11,2),{take:=[54],push:=true}),((14,5),{take:=[68],push:=true}),((15,1),{push:=true})],cuts:=[(6,[(4,0)],[(0,0),(2,0),(4,0),(6,0)]),(15,[(4,0)],[(0,0),(2,0),(4,0),(6,0)]),(22,[(0,0),(2,0),(4,0),(6,0)],[]),(24,[(0,0),(2,0),(4,0),(6,0)],[]),(26,[(0,0),(2,0),(4,0),(6,0)],[])],objs:=[(6,[(0,[3])]),(15,[(0,[3])])],res:=[]}
def H88:Hints:={ops:=[((1,2),{outer:=true}),((1,3),{outer:=true})]}
def H90:Hints:={cuts:=[(5,[(1,0)],[]),(13,[(0,0),(1,0),(39,0)],[])],res:=[(4,0)]}
def H91:Hints:={}
def H92:Hints:={ops:=[((1,1),{take:=[1]})]}
def H93:Hints:={ops:=[((1,1),{take:=[1]})]}
def H94:Hints:={ops:=[((5,2),{outer:=true}),((5,3),{outer:=true})]}
def H95:Hints:={}
def H96:Hints:={live:=[(3,[(3,0),(9,2),(10,0),(11,0)],[(3,0)])],res:=[(2,0)]}
def H97:Hints:={ops:=[((1,0),{take:=[0]}),((1,2),{take:=[5]})]}
def H98:Hints:={}
def H99:Hints:={ops:=[((10,3),{take:=[30]}),((10,9),{take:=[36]})]}
def X7:Hints:={ops:=[((1,2),{outer:=true}),((1,3),{outer:=true}),((1,6),{outer:=true}),((1,7),{outer:=true}),((3,2),{outer:=true}),((3,3),{outer:=true}),((3,6),{outer:=true}),((3,7),{outer:=true}),((4,3),{outer:=true}),((4,4),{outer:=true}),((4,7),{outer:=true}),((4,8),{outer:=true}),((6,6),{take:=[49]}),((9,4),{take:=[60]}),((11,5),{take:=[64]}),((14,0),{take:=[5]}),((14,1),{take:=[6]}),((14,3),{take:=[68]}),((14,4),{take:=[71]}),((16,3),{take:=[5]}),((16,4),{take:=[77]}),((16,5),{take:=[78]}),((20,5),{take:=[89]}),((22,1),{take:=[8]}),((22,3),{take:=[98]}),((22,4),{take:=[99]}),((24,5),{take:=[108]}),((25,10),{take:=[116]}),((25,17),{take:=[123]}),((26,1),{take:=[8]}),((26,2),{take:=[10]}),((26,4),{take:=[142]}),((26,5),{take:=[143]})],live:=[(11,[(0,0),(4,0),(5,1)],[])],cuts:=[(3,[(0,0)],[(2,2),(3,0)]),(10,[(0,0),(4,0)],[]),(14,[(0,0),(4,0),(5,1),(6,2)],[(0,0),(4,0),(5,1)]),(23,[(0,0),(8,2),(9,0)],[])],res:=[(2,2),(3,0)]}
def X8:Hints:={ops:=[((2,3),{outer:=true}),((2,4),{outer:=true}),((2,7),{outer:=true}),((2,8),{outer:=true})]}
def X9:Hints:={ops:=[((1,2),{outer:=true}),((1,3),{outer:=true}),((1,6),{outer:=true}),((1,7),{outer:=true}),((1,13),{outer:=true}),((1,14),{outer:=true}),((1,17),{outer:=true}),((1,18),{outer:=true})]}
def Ya:Hints:={ops:=[((1,1),{take:=[6]})],live:=[(3,[(1,0),(4,2),(5,0)],[])],res:=[(2,0),(3,0)]}
def sw:Hints:={live:=[(4,[(0,0),(5,0)],[])],cuts:=[(3,[(0,0)],[(4,0)])],res:=[(4,0)]}
def Yb:Hints:={}
def Yc:Hints:={}
def Kt:Hints:={ops:=[((1,1),{arr:=true}),((1,2),{take:=[6]}),((5,3),{arr:=true}),((5,9),{arr:=true}),((6,5),{arr:=true}),((7,0),{take:=[3]})],live:=[(3,[(3,0),(4,0)],[(3,0)])],res:=[(2,0)]}
def bw:Hints:={ops:=[((4,0),{own:=true}),((4,2),{take:=[28]})],live:=[(5,[(0,0),(1,0),(4,0),(5,0),(6,0),(7,0),(30,2),(31,0),(32,0)],[(0,0),(1,0),(4,0),(5,0),(6,0),(7,0)])],cuts:=[(14,[(0,0),(1,0),(4,0),(5,0),(6,0),(7,0),(10,0),(11,0)],[(4,0)]),(20,[(0,0),(1,0),(4,0),(5,0),(6,0),(10,0),(11,0),(12,0),(13,0),(14,0),(15,0)],[(0,0),(1,0),(4,0),(5,0),(6,0),(10,0),(11,0),(12,0),(13,0),(14,0)]),(24,[(0,0),(1,0),(4,0),(5,0),(6,0),(10,0),(11,0),(12,0),(15,0),(16,0)],[(0,0),(1,0),(4,0),(5,0),(6,0),(10,0),(11,0),(12,0),(13,0),(14,0)]),(28,[(0,0),(1,0),(4,0),(5,0),(6,0),(10,0),(11,0),(12,0),(13,0),(14,0),(15,0),(16,0)],[(0,0),(1,0),(4,0),(5,0),(6,0),(10,0),(11,0),(12,0),(13,0),(14,0)]),(31,[(0,0),(1,0),(4,0),(5,0),(6,0),(10,0),(11,0),(12,0),(13,0),(14,0)],[(4,0)]),(34,[(0,0),(1,0),(4,0),(5,0),(6,0)],[(0,0),(1,0),(4,0),(5,0),(6,0),(10,0),(11,0),(12,0),(13,0)]),(38,[(0,0),(1,0),(4,0),(5,0),(6,0),(10,0),(11,0),(12,0),(13,0)],[(4,0)]),(41,[(0,0),(1,0),(4,0),(5,0),(6,0),(12,0),(13,0),(18,0)],[(4,0)]),(44,[(4,0),(6,0),(12,0),(13,0),(19,0),(20,0)],[(4,0)])],res:=[(4,0)]}
def Yd:Hints:={ops:=[((1,1),{take:=[1]})]}
def Ye:Hints:={}
def iH:Hints:={live:=[(4,[(0,0),(4,0),(5,0),(6,0),(7,0)],[(4,0)])],cuts:=[(8,[(0,0),(4,0),(5,0),(6,0),(7,0)],[(0,0),(4,0),(5,0),(6,0),(7,0)]),(11,[(4,0),(6,0),(7,0)],[(0,0),(4,0),(5,0),(6,0),(7,0)]),(13,[(4,0),(6,0),(7,0)],[(0,0),(4,0),(5,0),(6,0),(7,0)])],res:=[(4,0)]}
def Yf:Hints:={ops:=[((1,7),{take:=[7]})]}
def Yg:Hints:={ops:=[((1,1),{take:=[1]})]}
def wC:Hints:={ops:=[((1,3),{take:=[11]}),((10,4),{cell:=true}),((10,6),{take:=[40]}),((10,9),{take:=[42]}),((11,4),{cell:=true}),((11,8),{arr:=true}),((11,10),{take:=[49]}),((11,13),{take:=[55]}),((13,2),{freeze:=[6]}),((15,0),{take:=[3]}),((15,1),{take:=[0]}),((15,5),{arr:=true})],live:=[(3,[(0,2),(3,0),(12,2),(13,0),(14,0)],[(0,2),(3,0)]),(7,[(0,2),(3,0),(4,0),(5,0),(6,0),(12,2),(13,0),(14,0),(28,2),(29,0),(30,0)],[(0,2),(3,0),(4,0),(6,0),(12,2),(13,0),(14,0)])],objs:=[(7,[(2,[0,0,0,1])])],res:=[(2,0)]}
def Yh:Hints:={ops:=[((1,4),{take:=[11]}),((2,6),{take:=[7]})]}
def Yi:Hints:={}
def Yj:Hints:={}
def Yk:Hints:={}
def wD:Hints:={cuts:=[(4,[(4,0),(5,0)],[])],res:=[(2,0),(3,0)]}
def Yl:Hints:={}
def kh:Hints:={ops:=[((7,6),{take:=[51]}),((8,8),{take:=[5]})],cuts:=[(3,[(0,0),(1,0)],[(4,0)]),(5,[(0,0),(1,0)],[(4,0)]),(7,[(0,0),(1,0)],[(4,0)])],res:=[(4,0)]}
def Ym:Hints:={}
def Yn:Hints:={}
def Yo:Hints:={}
def CA:Hints:={live:=[(2,[(0,2),(1,0),(7,0),(8,0)],[])],res:=[(4,0)]}
def jx:Hints:={ops:=[((4,3),{freeze:=[4]}),((5,1),{push:=true}),((7,4),{freeze:=[4]}),((8,0),{freeze:=[7]})],cuts:=[(5,[(7,0)],[(4,0),(5,0),(6,0)]),(6,[(7,0),(9,0),(10,0)],[(7,0)]),(8,[(7,0)],[(4,0),(5,0),(6,0)]),(10,[(7,0)],[(4,0),(5,0),(6,0)])],objs:=[(6,[(0,[0,0,1,1])])],res:=[(4,0),(5,0),(6,0)]}
def Yp:Hints:={ops:=[((0,0),{take:=[1]}),((4,0),{outer:=true}),((6,1),{outer:=true})],live:=[(1,[(0,0),(2,0),(7,2),(8,0),(9,0)],[])],res:=[]}
def Yq:Hints:={ops:=[((2,3),{outer:=true}),((2,4),{cell:=true,outer:=true}),((2,6),{take:=[12]}),((2,8),{outer:=true}),((2,9),{take:=[14],outer:=true})]}
def Yr:Hints:={ops:=[((2,3),{outer:=true}),((2,4),{cell:=true,outer:=true}),((2,7),{take:=[11]}),((2,9),{outer:=true}),((2,10),{take:=[14],outer:=true})]}
def Ys:Hints:={}
def Ku:Hints:={cuts:=[(4,[(2,0),(4,0)],[(2,0),(3,0)])],res:=[(2,0),(3,0)]}
def Yt:Hints:={}
def Yu:Hints:={}
def Yv:Hints:={}
def Yw:Hints:={ops:=[((7,6),{freeze:=[28]}),((11,5),{freeze:=[38]}),((17,2),{outer:=true}),((17,3),{outer:=true}),((17,6),{outer:=true}),((17,7),{outer:=true}),((18,7),{freeze:=[66]}),((24,2),{outer:=true}),((24,3),{outer:=true}),((24,6),{outer:=true}),((24,7),{outer:=true}),((25,9),{freeze:=[96]})],live:=[(21,[(0,0),(1,0),(9,0)],[])],cuts:=[(20,[(0,0),(1,0)],[(4,0)]),(24,[(0,0),(1,0),(9,0),(10,0)],[(0,0),(1,0),(9,0)])],res:=[(4,0)]}
def Yx:Hints:={live:=[(2,[(0,2),(1,0),(7,0),(8,0)],[])],res:=[(4,0)]}
def Yy:Hints:={ops:=[((1,0),{arr:=true}),((1,1),{take:=[8]}),((4,5),{take:=[25]}),((7,2),{take:=[6]}),((7,4),{take:=[31]}),((11,3),{outer:=true}),((11,4),{outer:=true}),((11,9),{outer:=true}),((11,10),{outer:=true}),((13,0),{take:=[4]}),((13,2),{arr:=true}),((13,3),{take:=[65]}),((14,1),{take:=[4]}),((14,2),{take:=[67],push:=true}),((14,3),{take:=[68]})],live:=[(3,[(0,0),(4,0),(5,0)],[(4,0),(5,0)])],cuts:=[(10,[(0,0),(4,0),(5,0)],[(0,0),(4,0),(5,0)])],res:=[(2,2),(3,0)]}
def Kv:Hints:={live:=[(2,[(0,0),(1,0),(5,0)],[(5,0)])],res:=[(4,0)]}
def Kw:Hints:={live:=[(3,[(0,0),(3,0),(4,0)],[(3,0)])],res:=[(2,0)]}
def Kx:Hints:={live:=[(1,[(0,0)],[(0,0)])],res:=[(2,0)]}
def Yz:Hints:={}
def Ky:Hints:={live:=[(1,[(0,0)],[(0,0)])],res:=[(2,0)]}
def YA:Hints:={}
def wE:Hints:={cuts:=[(4,[(0,0)],[(0,0)]),(5,[(0,0)],[(2,0)])],res:=[(2,0)]}
def Kz:Hints:={live:=[(3,[(0,0),(3,0),(4,0)],[(3,0)])],res:=[(2,0)]}
def YB:Hints:={}
def mN:Hints:={ops:=[((2,3),{outer:=true}),((2,4),{outer:=true}),((2,10),{outer:=true}),((2,11),{outer:=true}),((4,3),{outer:=true}),((4,4),{outer:=true}),((7,3),{outer:=true}),((7,4),{cell:=true,outer:=true}),((7,7),{take:=[42]}),((7,10),{outer:=true}),((7,11),{take:=[45],outer:=true})],live:=[(2,[(0,0),(2,0),(3,0),(6,0)],[(0,0),(2,0),(3,0),(6,0)])],cuts:=[(6,[(0,0),(2,0),(3,0),(6,0)],[(0,0),(2,0),(3,0),(6,0)])],res:=[(2,0),(3,0),(6,0)],pan:=[(2,0),(3,0),(6,0)],dfr:=some 6}
def YC:Hints:={}
def YD:Hints:={ops:=[((1,2),{outer:=true}),((1,3),{outer:=true}),((1,6),{outer:=true}),((1,7),{outer:=true}),((3,2),{outer:=true}),((3,3),{outer:=true}),((3,6),{outer:=true}),((3,7),{outer:=true}),((4,2),{outer:=true}),((4,3),{outer:=true}),((4,6),{outer:=true}),((4,7),{outer:=true}),((6,6),{freeze:=[43]}),((8,5),{cell:=true}),((10,4),{freeze:=[65]}),((19,5),{freeze:=[92]}),((21,4),{freeze:=[98]})],cuts:=[(3,[(0,0)],[(2,0)]),(13,[(0,0)],[(2,0)]),(18,[(0,0),(4,0),(5,0)],[(0,0),(4,0)]),(20,[(0,0),(4,0)],[(2,0)])],res:=[(2,0)]}
def YE:Hints:={ops:=[((3,2),{outer:=true}),((3,3),{outer:=true}),((3,6),{outer:=true}),((3,7),{outer:=true})],cuts:=[(3,[(0,0)],[(4,0)])],res:=[(4,0)]}
def CB:Hints:={live:=[(2,[(0,0),(1,0),(8,0),(9,0)],[])],res:=[(4,0),(5,0)]}
def YF:Hints:={ops:=[((1,2),{outer:=true}),((1,3),{outer:=true}),((1,6),{outer:=true}),((1,7),{outer:=true}),((1,13),{outer:=true}),((1,14),{outer:=true}),((1,17),{outer:=true}),((1,18),{outer:=true}),((2,2),{outer:=true}),((2,3),{outer:=true}),((2,6),{outer:=true}),((2,7),{outer:=true})]}
def YG:Hints:={ops:=[((3,5),{freeze:=[13]}),((5,5),{freeze:=[20]})],cuts:=[(4,[(0,0),(1,0)],[(0,0),(1,0)])],res:=[(4,0)]}
def YH:Hints:={}
def YI:Hints:={ops:=[((5,2),{outer:=true})]}
def e7:Hints:={ops:=[((1,2),{outer:=true}),((1,3),{outer:=true})],cuts:=[(6,[(0,0),(1,0),(4,0),(6,0)],[(4,0),(5,0)]),(18,[(4,0),(14,0),(15,0)],[(0,0),(1,0),(4,0)]),(23,[(0,0),(1,0),(4,0)],[(4,0),(5,0)])],res:=[(4,0),(5,0)]}
def YJ:Hints:={}
def YK:Hints:={ops:=[((2,0),{take:=[3]}),((2,4),{take:=[4]}),((2,5),{take:=[8]}),((5,0),{take:=[3]}),((5,1),{take:=[14]})],live:=[(2,[(0,0),(3,1)],[(0,0),(3,1)])],res:=[(2,2)]}
def YL:Hints:={}
def YM:Hints:={}
def wF:Hints:={ops:=[((1,2),{outer:=true}),((1,3),{outer:=true}),((3,2),{outer:=true}),((3,3),{outer:=true}),((5,2),{outer:=true}),((5,3),{outer:=true}),((5,6),{outer:=true}),((5,7),{outer:=true}),((6,7),{take:=[31]})],cuts:=[(3,[(0,0)],[(2,0)]),(5,[(0,0)],[(2,0)])],res:=[(2,0)]}
def nv:Hints:={ops:=[((6,5),{outer:=true}),((6,6),{outer:=true}),((9,2),{outer:=true}),((9,3),{outer:=true})],cuts:=[(6,[(0,0),(4,0),(10,0),(11,0)],[(4,0),(5,0),(6,0)]),(8,[(0,0),(4,0),(10,0),(11,0)],[(4,0),(5,0),(6,0)])],res:=[(4,0),(5,0),(6,0)]}
def KA:Hints:={ops:=[((2,3),{outer:=true}),((2,4),{outer:=true}),((4,2),{outer:=true}),((4,3),{outer:=true})],cuts:=[(4,[(0,0),(1,0)],[(4,0),(5,0)])],res:=[(4,0),(5,0)]}
def wG:Hints:={ops:=[((4,0),{take:=[8]}),((5,0),{take:=[8]}),((5,3),{take:=[28]}),((5,5),{take:=[31]})],live:=[(2,[(0,0),(1,0),(2,0),(8,1)],[])],cuts:=[(5,[(0,0),(2,0),(8,1),(9,0),(10,0)],[(0,0),(1,0),(2,0),(8,1)])],res:=[(6,0),(7,0)]}
def YN:Hints:={}
def cY:Hints:={cuts:=[(9,[(0,0),(1,0),(4,0),(6,0),(7,0),(8,0)],[(4,0),(5,0)]),(12,[(1,0),(4,0),(6,0),(7,0),(14,0),(15,0),(16,0),(17,0)],[(4,0),(5,0)]),(14,[(1,0),(4,0),(6,0),(7,0),(14,0),(15,0),(17,0)],[(4,0),(5,0)]),(16,[(1,0),(4,0),(6,0),(7,0),(14,0),(15,0),(17,0)],[(4,0),(5,0)]),(21,[(1,0),(4,0),(14,0),(17,0),(18,0),(19,0)],[(4,0),(5,0)]),(23,[(1,0),(4,0),(18,0),(19,0)],[(4,0),(5,0)])],res:=[(4,0),(5,0)]}
def KB:Hints:={ops:=[((7,2),{take:=[38]})],cuts:=[(4,[(0,0),(8,0)],[(4,0),(5,0),(6,0)])],res:=[(4,0),(5,0),(6,0)]}
def kl:Hints:={ops:=[((1,2),{outer:=true}),((1,3),{outer:=true}),((6,2),{outer:=true}),((6,3),{outer:=true}),((9,3),{outer:=true}),((9,4),{outer:=true}),((11,2),{outer:=true}),((11,3),{outer:=true})],live:=[(6,[(0,0),(1,0),(4,0),(6,0),(7,0),(8,0)],[(0,0),(1,0),(4,0),(7,0),(8,0)])],cuts:=[(9,[(0,0),(1,0),(4,0),(6,0),(7,0),(8,0),(9,0)],[(0,0),(1,0),(4,0),(6,0),(7,0),(8,0)]),(15,[(0,0),(1,0),(4,0),(7,0),(8,0)],[(4,0),(5,0)])],res:=[(4,0),(5,0)]}
def jy:Hints:={ops:=[((7,5),{take:=[45]}),((13,2),{take:=[65]})],cuts:=[(7,[(4,0),(6,0),(7,0),(8,0),(9,0),(10,0)],[(4,0),(5,0)]),(9,[(4,0),(6,0),(7,0)],[(4,0),(5,0)]),(13,[(4,0),(7,0),(13,0)],[(4,0),(5,0)])],res:=[(4,0),(5,0)]}
def YO:Hints:={ops:=[((3,1),{push:=true}),((4,1),{push:=true}),((6,0),{push:=true}),((8,1),{push:=true}),((9,1),{push:=true}),((10,0),{cell:=true}),((10,2),{push:=true,hide:=some 3}),((10,4),{take:=[23]}),((10,5),{take:=[27]}),((11,0),{cell:=true}),((11,2),{take:=[28]}),((11,3),{take:=[30]}),((12,3),{freeze:=[33]})],cuts:=[(4,[(1,0),(3,0),(4,0)],[(2,0)]),(5,[(1,0),(3,0),(4,0),(10,0)],[(1,0),(3,0),(4,0)]),(7,[(3,0)],[(1,0),(3,0),(4,0)]),(8,[(1,0),(3,0),(4,0)],[(2,0)]),(9,[(1,0),(3,0)],[(2,0)]),(10,[(1,0),(3,0),(22,0)],[(3,0)]),(12,[(3,0)],[(2,0)])],objs:=[(4,[(0,[3]),(1,[1])]),(5,[(0,[3]),(1,[1])]),(7,[(0,[3]),(1,[1])]),(9,[(0,[3]),(1,[1])]),(10,[(0,[3]),(1,[1])]),(12,[(0,[3])])],res:=[(2,0)]}
def KC:Hints:={ops:=[((3,3),{outer:=true}),((3,4),{cell:=true,outer:=true}),((3,7),{take:=[17]}),((3,9),{outer:=true}),((3,10),{take:=[20],outer:=true})],live:=[(1,[(0,0),(2,0),(6,0)],[])],res:=[]}
def YP:Hints:={}
def KD:Hints:={ops:=[((1,2),{outer:=true}),((1,3),{outer:=true}),((1,8),{outer:=true}),((1,9),{outer:=true}),((1,16),{outer:=true}),((1,17),{outer:=true})],live:=[(1,[(0,0),(1,0)],[(1,0)])],res:=[(4,0)]}
def mO:Hints:={cuts:=[(5,[(0,0),(4,0),(9,0)],[(4,0),(5,0),(6,0),(7,0)]),(11,[(0,0),(4,0),(9,0),(10,0)],[(4,0),(5,0),(6,0),(7,0)])],res:=[(4,0),(5,0),(6,0),(7,0)]}
def YQ:Hints:={}
def YR:Hints:={}
def YS:Hints:={}
def YT:Hints:={ops:=[((1,8),{freeze:=[2]})]}
def YU:Hints:={ops:=[((0,0),{outer:=true}),((1,0),{cell:=true,outer:=true}),((1,2),{take:=[4]}),((1,3),{take:=[6],outer:=true}),((2,0),{cell:=true,outer:=true}),((2,1),{outer:=true}),((2,2),{hide:=some 1}),((2,4),{take:=[7]}),((2,5),{take:=[11],outer:=true})]}
def YV:Hints:={ops:=[((1,3),{take:=[3]})]}
def TN:FuncId→Hints
 |3=>H3
 |4=>H4
 |5=>H5
 |6=>H6
 |7=>H7
 |8=>H8
 |9=>H9
 |10=>H10
 |11=>H11
 |12=>H12
 |13=>H13
 |14=>H14
 |15=>H15
 |16=>H16
 |17=>H17
 |18=>H18
 |19=>H19
 |20=>H20
 |21=>H21
 |22=>H22
 |23=>H23
 |24=>H24
 |25=>H25
 |26=>H26
 |27=>H27
 |28=>H28
 |29=>H29
 |30=>H30
 |31=>H31
 |32=>H32
 |33=>H33
 |34=>H34
 |35=>H35
 |36=>H36
 |37=>H37
 |38=>H38
 |40=>H40
 |41=>H41
 |42=>H42
 |43=>H43
 |44=>H44
 |45=>H45
 |46=>H46
 |47=>H47
 |48=>H48
 |49=>H49
 |51=>H51
 |52=>H52
 |53=>H53
 |54=>H54
 |55=>H55
 |56=>H56
 |57=>H57
 |58=>H58
 |59=>H59
 |60=>H60
 |61=>H61
 |62=>H62
 |63=>H63
 |64=>H64
 |65=>H65
 |67=>H67
 |68=>H68
 |69=>H69
 |70=>H70
 |71=>H71
 |72=>H72
 |73=>H73
 |74=>H74
 |75=>H75
 |76=>H76
 |77=>H77
 |78=>H78
 |79=>H79
 |80=>H80
 |81=>H81
 |82=>H82
 |83=>H83
 |84=>H84
 |85=>H85
 |86=>H86
 |87=>H87
 |88=>H88
 |90=>H90
 |91=>H91
 |92=>H92
 |93=>H93
 |94=>H94
 |95=>H95
 |96=>H96
 |97=>H97
 |98=>H98
 |99=>H99
 |100=>X7
 |101=>X8
 |102=>X9
 |103=>Ya
 |104=>sw
 |105=>Yb
 |106=>Yc
 |107=>Kt
 |108=>bw
 |109=>Yd
 |110=>Ye
 |111=>iH
 |112=>Yf
 |113=>Yg
 |114=>wC
 |115=>Yh
 |116=>Yi
 |118=>Yj
 |119=>Yk
 |120=>wD
 |121=>Yl
 |122=>kh
 |123=>Ym
 |124=>Yn
 |125=>Yo
 |126=>CA
 |127=>jx
 |128=>Yp
 |129=>Yq
 |130=>Yr
 |132=>Ys
 |134=>Ku
 |135=>Yt
 |137=>Yu
 |138=>Yv
 |139=>Yw
 |140=>Yx
 |141=>Yy
 |142=>Kv
 |143=>Kw
 |144=>Kx
 |145=>Yz
 |146=>Ky
 |147=>YA
 |148=>wE
 |149=>Kz
 |151=>YB
 |152=>mN
 |160=>YC
 |161=>YD
 |162=>YE
 |163=>CB
 |164=>YF
 |165=>YG
 |167=>YH
 |168=>YI
 |169=>e7
 |183=>YJ
 |184=>YK
 |185=>YL
 |186=>YM
 |187=>wF
 |188=>nv
 |189=>KA
 |190=>wG
 |191=>YN
 |192=>cY
 |193=>KB
 |194=>kl
 |195=>jy
 |204=>YO
 |205=>KC
 |206=>YP
 |207=>KD
 |208=>mO
 |209=>YQ
 |210=>YR
 |212=>YS
 |215=>YT
 |222=>YU
 |223=>YV
 |_=>{}
def mK:FuncId→Option (UInt8→Bool)
 |186=>some fun b=>decide (b.toNat<32)||decide (126<b.toNat)
 |132=>some fun b=>decide (b.toNat<48)||decide (57<b.toNat)
 |137=>some fun b=> !((decide (97≤b.toNat)&&decide (b.toNat≤122))||(decide (65≤b.toNat)&&decide (b.toNat≤90))||(decide (48≤b.toNat)&&decide (b.toNat≤57))||decide (b.toNat=95))
 |_=>none
def Mt:FuncId→Option d9
 |136=>some (rN)
 |133=>some (Ci 201)
 |199=>some (zl)
 |214=>some (nc)
 |211=>some (l0)
 |225=>some (o5)
 |226=>some (nd)
 |213=>some (zk)
 |224=>some (lZ)
 |131=>some (io mK)
 |117=>some (mE)
 |153=>some (rM 130)
 |89=>some (AD 130)
 |_=>none
noncomputable def E:Env:={P:=Tryz.prog,hints:=TN,prim:=Mt}
def ig {β:Type}(v:LV)(k:Int→Int→List UInt8→Option β):Option β:=opt (cU v) fun cs=>opt (aw cs) fun q0=>opt (aC .i64 (.cv q0.1)) fun x0=>opt (aw q0.2) fun q1=>opt (aC .i64 (.cv q1.1)) fun x1=>opt (aw q1.2) fun q2=>opt (aN (.cv q2.1)) fun x2=>opt (aO q2.2) fun _=>k x0 x1 x2
def eS {β:Type}(v:LV)(k:Int→Int→List UInt8→List CV→Option β):Option β:=opt (cU v) fun cs=>opt (aw cs) fun q0=>opt (aC .i64 (.cv q0.1)) fun x0=>opt (aw q0.2) fun q1=>opt (aC .i64 (.cv q1.1)) fun x1=>opt (aw q1.2) fun q2=>opt (aN (.cv q2.1)) fun x2=>opt (aw q2.2) fun q3=>opt (bp (.cv q3.1)) fun x3=>opt (aO q3.2) fun _=>k x0 x1 x2 x3
def zp {β:Type}(v:LV)(k:Int→Int→List UInt8→Int→Int→Option β):Option β:=opt (cU v) fun cs=>opt (aw cs) fun q0=>opt (aC .i64 (.cv q0.1)) fun x0=>opt (aw q0.2) fun q1=>opt (aC .i64 (.cv q1.1)) fun x1=>opt (aw q1.2) fun q2=>opt (aN (.cv q2.1)) fun x2=>opt (aw q2.2) fun q3=>opt (aC .i64 (.cv q3.1)) fun x3=>opt (aw q3.2) fun q4=>opt (aC .i64 (.cv q4.1)) fun x4=>opt (aO q4.2) fun _=>k x0 x1 x2 x3 x4
def dm {β:Type}(v:LV)(k:Int→Int→Int→List CV→List UInt8→Option β):Option β:=opt (cU v) fun cs=>opt (aw cs) fun q0=>opt (aC .i64 (.cv q0.1)) fun x0=>opt (aw q0.2) fun q1=>opt (aC .i64 (.cv q1.1)) fun x1=>opt (aw q1.2) fun q2=>opt (aC .i64 (.cv q2.1)) fun x2=>opt (aw q2.2) fun q3=>opt (bp (.cv q3.1)) fun x3=>opt (aw q3.2) fun q4=>opt (aN (.cv q4.1)) fun x4=>opt (aO q4.2) fun _=>k x0 x1 x2 x3 x4
def Tf {β:Type}(v:LV)(k:List UInt8→List UInt8→Option β):Option β:=opt (cU v) fun cs=>opt (aw cs) fun q0=>opt (aN (.cv q0.1)) fun x0=>opt (aw q0.2) fun q1=>opt (aN (.cv q1.1)) fun x1=>opt (aO q1.2) fun _=>k x0 x1
noncomputable section
def cA (f:FuncId)(p:List Nat):Code:=U9 E.P f p
def mS (fr:List (Nat×LV))(lam:Lam)(p:Bool:=false):S:={fr:=dR fr,lam:=lam,pushed:=p}
def kS (ρ:Rho)(H:Hints)(ks:List Kont)(lv:List (Nat×Nat))(st:St):Option St:=jz E.P ρ H ks st (Wr H lv)
def kB (ρ:Rho)(f:FuncId)(H:Hints)(ks:List Kont)(st:St):Option Out:=jz E.P ρ H ks st (Tx E.P (Cl E.P f))
def kR (ρ:Rho)(H:Hints)(ks:List Kont)(lv:List (Nat×Nat))(c:Code)(st:St):Option St:=jz E.P ρ H ks st (Sj E.P ρ H lv c)
abbrev pX (f:CV→Mu→St)(v:CV)(μ:Mu):Option St:=some (f v μ)
abbrev pP (v:CV)(μ:Mu):Option Out:=ax (below μ.length v) (some (.panic v μ))
abbrev pN {α:Type}(_:CV)(_:Mu):Option α:=none
structure SegD where
 H:Hints
 lv:List (Nat×Nat)
 c:Code
 s:S
def SegD.seg (d:SegD)(ρ:Rho)(μ:Mu):Option St:=ρ.seg d.H d.lv d.c d.s μ
def SegD.loop (d:SegD)(ρ:Rho)(μ:Mu):Option St:=ρ.loop d.H d.lv d.c d.s μ
def SegD.sK (d:SegD)(ρ:Rho)(μ:Mu):Option St:=uV E.P ρ d.H d.lv d.c d.s μ
def SegD.rK (d:SegD)(ρ:Rho)(μ:Mu):Option St:=mI E.P ρ d.H d.lv d.c d.s μ
theorem aR {d:SegD}{μ:Mu}{st:St}(h:d.sK (ev E) μ=some st):d.seg (ev E) μ=some st:=Ox h
theorem aW {d:SegD}{μ:Mu}{st:St}(h:d.rK (ev E) μ=some st):d.loop (ev E) μ=some st:=JH h
end
end Go.Abs
namespace Go.Proofs
open Go.Shelf
def Tryz.lays169_ren:Go.Shelf.Ren:=⟨fun|169=>89|n=>n,fun|70=>127|9=>9|0=>0|72=>130|37=>128|127=>170|3=>3|5=>5|n=>n,fun|n=>n⟩
theorem Tryz.Builder_Extra_169 : Builder.Extra Tryz.prog Tryz.lays169_ren := {
 sizeBuilder:=by kernel_rfl
 liesBuilder:=by kernel_rfl
 t5:=Tryz.underlying5
 a5:=Tryz.isAgg5
 z5:=Tryz.sizeOf5
 v5:=Tryz.zeroValue5
 infoByte:=by kernel_rfl
 cellsByte:=by kernel_rfl
 sizeByte:=by kernel_rfl
 neB5:=by decide}
def Tryz.lays158_ren:Go.Shelf.Ren:=⟨fun|158=>136|165=>157|166=>129|167=>130|169=>89|230=>158|203=>159|240=>153|241=>177|197=>178|118=>179|168=>180|270=>181|262=>182|276=>170|277=>200|260=>201|242=>202|313=>203|278=>219|274=>220|275=>221|n=>n,fun|9=>9|4=>4|3=>3|5=>5|72=>130|0=>0|76=>166|75=>165|107=>187|70=>127|20=>20|37=>128|127=>170|21=>21|105=>204|164=>195|162=>231|203=>229|119=>247|46=>223|139=>250|138=>249|51=>251|160=>252|208=>260|206=>258|80=>133|n=>n,fun|13=>2|3=>4|4=>5|n=>n⟩
theorem Tryz.lays158 : Go.Proofs.Lays.n158 Tryz.prog Tryz.lays158_ren := {
 mixed:=by kernel_rfl
 f118:=Tryz.func179.trans (congrArg some (by kernel_rfl))
 f158:=Tryz.func136.trans (congrArg some (by kernel_rfl))
 f165:=Tryz.func157.trans (congrArg some (by kernel_rfl))
 f166:=Tryz.func129.trans (congrArg some (by kernel_rfl))
 f167:=Tryz.func130.trans (congrArg some (by kernel_rfl))
 f168:=Tryz.func180.trans (congrArg some (by kernel_rfl))
 f169:=Tryz.func89.trans (congrArg some (by kernel_rfl))
 f197:=Tryz.func178.trans (congrArg some (by kernel_rfl))
 f203:=Tryz.func159.trans (congrArg some (by kernel_rfl))
 f230:=Tryz.func158.trans (congrArg some (by kernel_rfl))
 f240:=Tryz.func153.trans (congrArg some (by kernel_rfl))
 f241:=Tryz.func177.trans (congrArg some (by kernel_rfl))
 f242:=Tryz.func202.trans (congrArg some (by kernel_rfl))
 f260:=Tryz.func201.trans (congrArg some (by kernel_rfl))
 f262:=Tryz.func182.trans (congrArg some (by kernel_rfl))
 f270:=Tryz.func181.trans (congrArg some (by kernel_rfl))
 f274:=Tryz.func220.trans (congrArg some (by kernel_rfl))
 f275:=Tryz.func221.trans (congrArg some (by kernel_rfl))
 f276:=Tryz.func170.trans (congrArg some (by kernel_rfl))
 f277:=Tryz.func200.trans (congrArg some (by kernel_rfl))
 f278:=Tryz.func219.trans (congrArg some (by kernel_rfl))
 f313:=Tryz.func203.trans (congrArg some (by kernel_rfl))
 t0:=Tryz.underlying0
 a0:=Tryz.isAgg0
 z0:=Tryz.sizeOf0
 v0:=Tryz.zeroValue0
 t3:=Tryz.underlying3
 a3:=Tryz.isAgg3
 z3:=Tryz.sizeOf3
 v3:=Tryz.zeroValue3
 t4:=Tryz.underlying4
 a4:=Tryz.isAgg4
 z4:=Tryz.sizeOf4
 v4:=Tryz.zeroValue4
 t5:=Tryz.underlying5
 a5:=Tryz.isAgg5
 z5:=Tryz.sizeOf5
 v5:=Tryz.zeroValue5
 t9:=Tryz.underlying9
 a9:=Tryz.isAgg9
 z9:=Tryz.sizeOf9
 v9:=Tryz.zeroValue9
 t20:=Tryz.underlying20
 a20:=Tryz.isAgg20
 z20:=Tryz.sizeOf20
 v20:=Tryz.zeroValue20
 t21:=Tryz.underlying21
 a21:=Tryz.isAgg21
 z21:=Tryz.sizeOf21
 v21:=Tryz.zeroValue21
 t37:=Tryz.underlying128
 a37:=Tryz.isAgg128
 z37:=Tryz.sizeOf128
 v37:=Tryz.zeroValue128
 t46:=Tryz.underlying223
 a46:=Tryz.isAgg223
 z46:=Tryz.sizeOf223
 v46:=Tryz.zeroValue223
 t51:=Tryz.underlying251
 a51:=Tryz.isAgg251
 z51:=Tryz.sizeOf251
 v51:=Tryz.zeroValue251
 t70:=Tryz.underlying127
 a70:=Tryz.isAgg127
 z70:=Tryz.sizeOf127
 v70:=Tryz.zeroValue127
 t72:=Tryz.underlying130
 a72:=Tryz.isAgg130
 z72:=Tryz.sizeOf130
 v72:=Tryz.zeroValue130
 t75:=Tryz.underlying165
 a75:=Tryz.isAgg165
 z75:=Tryz.sizeOf165
 v75:=Tryz.zeroValue165
 t76:=Tryz.underlying166
 a76:=Tryz.isAgg166
 z76:=Tryz.sizeOf166
 v76:=Tryz.zeroValue166
 t105:=Tryz.underlying204
 a105:=Tryz.isAgg204
 z105:=Tryz.sizeOf204
 v105:=Tryz.zeroValue204
 t107:=Tryz.underlying187
 a107:=Tryz.isAgg187
 z107:=Tryz.sizeOf187
 v107:=Tryz.zeroValue187
 t119:=Tryz.underlying247
 a119:=Tryz.isAgg247
 z119:=Tryz.sizeOf247
 t127:=Tryz.underlying170
 a127:=Tryz.isAgg170
 z127:=Tryz.sizeOf170
 v127:=Tryz.zeroValue170
 t138:=Tryz.underlying249
 a138:=Tryz.isAgg249
 z138:=Tryz.sizeOf249
 v138:=Tryz.zeroValue249
 t139:=Tryz.underlying250
 a139:=Tryz.isAgg250
 z139:=Tryz.sizeOf250
 v139:=Tryz.zeroValue250
 t160:=Tryz.underlying252
 a160:=Tryz.isAgg252
 z160:=Tryz.sizeOf252
 v160:=Tryz.zeroValue252
 t162:=Tryz.underlying231
 a162:=Tryz.isAgg231
 z162:=Tryz.sizeOf231
 v162:=Tryz.zeroValue231
 t164:=Tryz.underlying195
 a164:=Tryz.isAgg195
 z164:=Tryz.sizeOf195
 v164:=Tryz.zeroValue195
 t203:=Tryz.underlying229
 a203:=Tryz.isAgg229
 z203:=Tryz.sizeOf229
 v203:=Tryz.zeroValue229
 t206:=Tryz.underlying258
 a206:=Tryz.isAgg258
 z206:=Tryz.sizeOf258
 v206:=Tryz.zeroValue258
 t208:=Tryz.underlying260
 a208:=Tryz.isAgg260
 z208:=Tryz.sizeOf260
 v208:=Tryz.zeroValue260
 g3:=by kernel_rfl
 g4:=by kernel_rfl
 g13:=by kernel_rfl}
theorem Tryz.Builder_Extra_158 : Builder.Extra Tryz.prog Tryz.lays158_ren := {
 sizeBuilder:=by kernel_rfl
 liesBuilder:=by kernel_rfl
 t5:=Tryz.underlying5
 a5:=Tryz.isAgg5
 z5:=Tryz.sizeOf5
 v5:=Tryz.zeroValue5
 infoByte:=by kernel_rfl
 cellsByte:=by kernel_rfl
 sizeByte:=by kernel_rfl
 neB5:=by decide}
def Tryz.lays161_ren:Go.Shelf.Ren:=⟨fun|161=>225|231=>232|227=>233|233=>234|235=>235|228=>248|197=>178|151=>249|260=>201|152=>260|137=>264|119=>265|224=>241|225=>240|217=>239|266=>251|n=>n,fun|9=>9|4=>4|3=>3|5=>5|117=>265|116=>264|0=>0|124=>268|105=>204|21=>21|119=>247|46=>223|139=>250|138=>249|n=>n,fun|3=>4|4=>5|n=>n⟩
theorem Tryz.lays161 : Go.Proofs.Lays.n161 Tryz.prog Tryz.lays161_ren := {
 mixed:=by kernel_rfl
 f119:=Tryz.func265.trans (congrArg some (by kernel_rfl))
 f137:=Tryz.func264.trans (congrArg some (by kernel_rfl))
 f151:=Tryz.func249.trans (congrArg some (by kernel_rfl))
 f152:=Tryz.func260.trans (congrArg some (by kernel_rfl))
 f161:=Tryz.func225.trans (congrArg some (by kernel_rfl))
 f197:=Tryz.func178.trans (congrArg some (by kernel_rfl))
 f217:=Tryz.func239.trans (congrArg some (by kernel_rfl))
 f224:=Tryz.func241.trans (congrArg some (by kernel_rfl))
 f225:=Tryz.func240.trans (congrArg some (by kernel_rfl))
 f227:=Tryz.func233.trans (congrArg some (by kernel_rfl))
 f228:=Tryz.func248.trans (congrArg some (by kernel_rfl))
 f231:=Tryz.func232.trans (congrArg some (by kernel_rfl))
 f233:=Tryz.func234.trans (congrArg some (by kernel_rfl))
 f235:=Tryz.func235.trans (congrArg some (by kernel_rfl))
 f260:=Tryz.func201.trans (congrArg some (by kernel_rfl))
 f266:=Tryz.func251.trans (congrArg some (by kernel_rfl))
 t0:=Tryz.underlying0
 a0:=Tryz.isAgg0
 z0:=Tryz.sizeOf0
 v0:=Tryz.zeroValue0
 t3:=Tryz.underlying3
 a3:=Tryz.isAgg3
 z3:=Tryz.sizeOf3
 v3:=Tryz.zeroValue3
 t4:=Tryz.underlying4
 a4:=Tryz.isAgg4
 z4:=Tryz.sizeOf4
 v4:=Tryz.zeroValue4
 t5:=Tryz.underlying5
 a5:=Tryz.isAgg5
 z5:=Tryz.sizeOf5
 v5:=Tryz.zeroValue5
 t9:=Tryz.underlying9
 a9:=Tryz.isAgg9
 z9:=Tryz.sizeOf9
 v9:=Tryz.zeroValue9
 t21:=Tryz.underlying21
 a21:=Tryz.isAgg21
 z21:=Tryz.sizeOf21
 v21:=Tryz.zeroValue21
 t46:=Tryz.underlying223
 a46:=Tryz.isAgg223
 z46:=Tryz.sizeOf223
 v46:=Tryz.zeroValue223
 t105:=Tryz.underlying204
 a105:=Tryz.isAgg204
 z105:=Tryz.sizeOf204
 v105:=Tryz.zeroValue204
 t116:=Tryz.underlying264
 a116:=Tryz.isAgg264
 z116:=Tryz.sizeOf264
 t117:=Tryz.underlying265
 a117:=Tryz.isAgg265
 z117:=Tryz.sizeOf265
 v117:=Tryz.zeroValue265
 t119:=Tryz.underlying247
 a119:=Tryz.isAgg247
 z119:=Tryz.sizeOf247
 t124:=Tryz.underlying268
 a124:=Tryz.isAgg268
 z124:=Tryz.sizeOf268
 v124:=Tryz.zeroValue268
 t138:=Tryz.underlying249
 a138:=Tryz.isAgg249
 z138:=Tryz.sizeOf249
 v138:=Tryz.zeroValue249
 t139:=Tryz.underlying250
 a139:=Tryz.isAgg250
 z139:=Tryz.sizeOf250
 v139:=Tryz.zeroValue250
 g3:=by kernel_rfl
 g4:=by kernel_rfl}
open Go.RowKit in
theorem Tryz.strings_TrimLeft_one (s:ByteArray)(c:UInt8)(hc:c.toNat<128)(w:World):
  Calls Tryz.prog 225 #[.string s,.string ⟨#[c]⟩] w fun e w'=>e= .returned (.string ⟨(Lib.trimLeftB s.data.toList c).toArray⟩)∧w'=w:=Any.strings_TrimLeft_one Tryz.lays161 s c hc w
def Tryz.lays162_ren:Go.Shelf.Ren:=⟨fun|162=>226|232=>236|227=>233|234=>237|236=>238|228=>248|271=>250|151=>249|120=>261|197=>178|152=>260|260=>201|137=>264|119=>265|224=>241|225=>240|217=>239|266=>251|n=>n,fun|9=>9|4=>4|3=>3|5=>5|117=>265|116=>264|0=>0|124=>268|21=>21|105=>204|46=>223|119=>247|139=>250|138=>249|n=>n,fun|3=>4|4=>5|n=>n⟩
theorem Tryz.lays162 : Go.Proofs.Lays.n162 Tryz.prog Tryz.lays162_ren := {
 mixed:=by kernel_rfl
 f119:=Tryz.func265.trans (congrArg some (by kernel_rfl))
 f120:=Tryz.func261.trans (congrArg some (by kernel_rfl))
 f137:=Tryz.func264.trans (congrArg some (by kernel_rfl))
 f151:=Tryz.func249.trans (congrArg some (by kernel_rfl))
 f152:=Tryz.func260.trans (congrArg some (by kernel_rfl))
 f162:=Tryz.func226.trans (congrArg some (by kernel_rfl))
 f197:=Tryz.func178.trans (congrArg some (by kernel_rfl))
 f217:=Tryz.func239.trans (congrArg some (by kernel_rfl))
 f224:=Tryz.func241.trans (congrArg some (by kernel_rfl))
 f225:=Tryz.func240.trans (congrArg some (by kernel_rfl))
 f227:=Tryz.func233.trans (congrArg some (by kernel_rfl))
 f228:=Tryz.func248.trans (congrArg some (by kernel_rfl))
 f232:=Tryz.func236.trans (congrArg some (by kernel_rfl))
 f234:=Tryz.func237.trans (congrArg some (by kernel_rfl))
 f236:=Tryz.func238.trans (congrArg some (by kernel_rfl))
 f260:=Tryz.func201.trans (congrArg some (by kernel_rfl))
 f266:=Tryz.func251.trans (congrArg some (by kernel_rfl))
 f271:=Tryz.func250.trans (congrArg some (by kernel_rfl))
 t0:=Tryz.underlying0
 a0:=Tryz.isAgg0
 z0:=Tryz.sizeOf0
 v0:=Tryz.zeroValue0
 t3:=Tryz.underlying3
 a3:=Tryz.isAgg3
 z3:=Tryz.sizeOf3
 v3:=Tryz.zeroValue3
 t4:=Tryz.underlying4
 a4:=Tryz.isAgg4
 z4:=Tryz.sizeOf4
 v4:=Tryz.zeroValue4
 t5:=Tryz.underlying5
 a5:=Tryz.isAgg5
 z5:=Tryz.sizeOf5
 v5:=Tryz.zeroValue5
 t9:=Tryz.underlying9
 a9:=Tryz.isAgg9
 z9:=Tryz.sizeOf9
 v9:=Tryz.zeroValue9
 t21:=Tryz.underlying21
 a21:=Tryz.isAgg21
 z21:=Tryz.sizeOf21
 v21:=Tryz.zeroValue21
 t46:=Tryz.underlying223
 a46:=Tryz.isAgg223
 z46:=Tryz.sizeOf223
 v46:=Tryz.zeroValue223
 t105:=Tryz.underlying204
 a105:=Tryz.isAgg204
 z105:=Tryz.sizeOf204
 v105:=Tryz.zeroValue204
 t116:=Tryz.underlying264
 a116:=Tryz.isAgg264
 z116:=Tryz.sizeOf264
 t117:=Tryz.underlying265
 a117:=Tryz.isAgg265
 z117:=Tryz.sizeOf265
 v117:=Tryz.zeroValue265
 t119:=Tryz.underlying247
 a119:=Tryz.isAgg247
 z119:=Tryz.sizeOf247
 t124:=Tryz.underlying268
 a124:=Tryz.isAgg268
 z124:=Tryz.sizeOf268
 v124:=Tryz.zeroValue268
 t138:=Tryz.underlying249
 a138:=Tryz.isAgg249
 z138:=Tryz.sizeOf249
 v138:=Tryz.zeroValue249
 t139:=Tryz.underlying250
 a139:=Tryz.isAgg250
 z139:=Tryz.sizeOf250
 v139:=Tryz.zeroValue250
 g3:=by kernel_rfl
 g4:=by kernel_rfl}
open Go.RowKit in
theorem Tryz.strings_TrimRight_one (s:ByteArray)(c:UInt8)(hc:c.toNat<128)(w:World)(hs:s.size≤9223372036854775807):
  Calls Tryz.prog 226 #[.string s,.string ⟨#[c]⟩] w fun e w'=>e= .returned (.string ⟨(Lib.trimRightB s.data.toList c).toArray⟩)∧w'=w:=Any.strings_TrimRight_one Tryz.lays162 s c hc w hs
def Tryz.laysM171_ren:Go.Shelf.Ren:=⟨fun|171=>199|243=>218|246=>230|283=>243|284=>244|285=>245|286=>246|129=>254|317=>253|318=>255|319=>256|320=>257|337=>262|338=>263|n=>n,fun|3=>3|9=>9|2=>2|4=>4|171=>270|0=>0|53=>220|37=>128|5=>5|173=>273|212=>278|51=>251|20=>20|213=>279|46=>223|232=>283|233=>284|n=>n,fun|17=>6|18=>7|19=>8|n=>n⟩
theorem Tryz.laysM171 : Go.Proofs.LaysM.n171 Tryz.prog Tryz.laysM171_ren := {
 mixed:=by kernel_rfl
 f129:=Tryz.func254.trans (congrArg some (by kernel_rfl))
 f171:=Tryz.func199.trans (congrArg some (by kernel_rfl))
 f243:=Tryz.func218.trans (congrArg some (by kernel_rfl))
 f246:=Tryz.func230.trans (congrArg some (by kernel_rfl))
 f283:=Tryz.func243.trans (congrArg some (by kernel_rfl))
 f284:=Tryz.func244.trans (congrArg some (by kernel_rfl))
 f285:=Tryz.func245.trans (congrArg some (by kernel_rfl))
 f286:=Tryz.func246.trans (congrArg some (by kernel_rfl))
 f317:=Tryz.func253.trans (congrArg some (by kernel_rfl))
 f318:=Tryz.func255.trans (congrArg some (by kernel_rfl))
 f319:=Tryz.func256.trans (congrArg some (by kernel_rfl))
 f320:=Tryz.func257.trans (congrArg some (by kernel_rfl))
 f337:=Tryz.func262.trans (congrArg some (by kernel_rfl))
 f338:=Tryz.func263.trans (congrArg some (by kernel_rfl))
 t0:=Tryz.underlying0
 a0:=Tryz.isAgg0
 z0:=Tryz.sizeOf0
 v0:=Tryz.zeroValue0
 t2:=Tryz.underlying2
 a2:=Tryz.isAgg2
 z2:=Tryz.sizeOf2
 v2:=Tryz.zeroValue2
 t3:=Tryz.underlying3
 a3:=Tryz.isAgg3
 z3:=Tryz.sizeOf3
 v3:=Tryz.zeroValue3
 t4:=Tryz.underlying4
 a4:=Tryz.isAgg4
 z4:=Tryz.sizeOf4
 v4:=Tryz.zeroValue4
 t5:=Tryz.underlying5
 a5:=Tryz.isAgg5
 z5:=Tryz.sizeOf5
 v5:=Tryz.zeroValue5
 t9:=Tryz.underlying9
 a9:=Tryz.isAgg9
 z9:=Tryz.sizeOf9
 v9:=Tryz.zeroValue9
 t20:=Tryz.underlying20
 a20:=Tryz.isAgg20
 z20:=Tryz.sizeOf20
 v20:=Tryz.zeroValue20
 t37:=Tryz.underlying128
 a37:=Tryz.isAgg128
 z37:=Tryz.sizeOf128
 v37:=Tryz.zeroValue128
 t46:=Tryz.underlying223
 a46:=Tryz.isAgg223
 z46:=Tryz.sizeOf223
 v46:=Tryz.zeroValue223
 t51:=Tryz.underlying251
 a51:=Tryz.isAgg251
 z51:=Tryz.sizeOf251
 v51:=Tryz.zeroValue251
 t53:=Tryz.underlying220
 a53:=Tryz.isAgg220
 z53:=Tryz.sizeOf220
 v53:=Tryz.zeroValue220
 t171:=Tryz.underlying270
 a171:=Tryz.isAgg270
 z171:=Tryz.sizeOf270
 v171:=Tryz.zeroValue270
 t173:=Tryz.underlying273
 a173:=Tryz.isAgg273
 z173:=Tryz.sizeOf273
 v173:=Tryz.zeroValue273
 t212:=Tryz.underlying278
 a212:=Tryz.isAgg278
 z212:=Tryz.sizeOf278
 v212:=Tryz.zeroValue278
 t213:=Tryz.underlying279
 a213:=Tryz.isAgg279
 z213:=Tryz.sizeOf279
 t232:=Tryz.underlying283
 a232:=Tryz.isAgg283
 z232:=Tryz.sizeOf283
 v232:=Tryz.zeroValue283
 t233:=Tryz.underlying284
 a233:=Tryz.isAgg284
 z233:=Tryz.sizeOf284
 v233:=Tryz.zeroValue284
 g17:=by kernel_rfl
 g18:=by kernel_rfl
 g19:=by kernel_rfl
 i0:=by kernel_rfl
 i2:=by kernel_rfl
 i3:=by kernel_rfl
 i4:=by kernel_rfl
 i5:=by kernel_rfl
 i9:=by kernel_rfl
 i20:=by kernel_rfl
 i37:=by kernel_rfl
 i46:=by kernel_rfl
 i51:=by kernel_rfl
 i53:=by kernel_rfl
 i171:=by kernel_rfl
 i173:=by kernel_rfl
 i212:=by kernel_rfl
 i232:=by kernel_rfl
 i233:=by kernel_rfl
 m17:=by kernel_rfl
 m18:=by kernel_rfl
 m19:=by kernel_rfl}
open Go.RowKit Go.Sort Go.Lib in
theorem Tryz.strconv_Itoa (n:Int)(h0: -9223372036854775808≤n)(h1:n≤9223372036854775807)(w:World)(htab:Lib.TabIs Tryz.prog w "internal/strconv.uint64pow10" .u64 Lib.pow10Tab):
  Calls Tryz.prog 199 #[.int .i64 n] w fun e w'=>e= .returned (.string ⟨(Lib.itoa n).toArray⟩)∧ ∃k os,w'=grow (w.drewN k) os:=Any.strconv_Itoa Tryz.laysM171 n h0 h1 w htab
def Tryz.laysC172_ren:Go.Shelf.Ren:=⟨fun|172=>133|244=>155|245=>156|247=>172|279=>173|280=>174|281=>175|282=>176|287=>196|316=>197|171=>199|205=>198|321=>216|322=>217|243=>218|246=>230|283=>243|284=>244|285=>245|286=>246|129=>254|317=>253|318=>255|319=>256|320=>257|337=>262|338=>263|n=>n,fun|9=>9|3=>3|75=>165|76=>166|4=>4|5=>5|167=>198|37=>128|0=>0|85=>199|2=>2|168=>201|53=>220|175=>221|46=>223|210=>225|127=>170|145=>246|143=>244|21=>21|171=>270|173=>273|212=>278|51=>251|20=>20|213=>279|232=>283|233=>284|80=>133|n=>n,fun|15=>0|16=>1|17=>6|18=>7|19=>8|n=>n⟩
theorem Tryz.laysC172 : Go.Proofs.LaysC.n172 Tryz.prog Tryz.laysC172_ren := {
 mixed:=by kernel_rfl
 f129:=Tryz.func254.trans (congrArg some (by kernel_rfl))
 f171:=Tryz.func199.trans (congrArg some (by kernel_rfl))
 f172:=Tryz.func133.trans (congrArg some (by kernel_rfl))
 f205:=Tryz.func198.trans (congrArg some (by kernel_rfl))
 f243:=Tryz.func218.trans (congrArg some (by kernel_rfl))
 f244:=Tryz.func155.trans (congrArg some (by kernel_rfl))
 f245:=Tryz.func156.trans (congrArg some (by kernel_rfl))
 f246:=Tryz.func230.trans (congrArg some (by kernel_rfl))
 f247:=Tryz.func172.trans (congrArg some (by kernel_rfl))
 f279:=Tryz.func173.trans (congrArg some (by kernel_rfl))
 f280:=Tryz.func174.trans (congrArg some (by kernel_rfl))
 f281:=Tryz.func175.trans (congrArg some (by kernel_rfl))
 f282:=Tryz.func176.trans (congrArg some (by kernel_rfl))
 f283:=Tryz.func243.trans (congrArg some (by kernel_rfl))
 f284:=Tryz.func244.trans (congrArg some (by kernel_rfl))
 f285:=Tryz.func245.trans (congrArg some (by kernel_rfl))
 f286:=Tryz.func246.trans (congrArg some (by kernel_rfl))
 f287:=Tryz.func196.trans (congrArg some (by kernel_rfl))
 f316:=Tryz.func197.trans (congrArg some (by kernel_rfl))
 f317:=Tryz.func253.trans (congrArg some (by kernel_rfl))
 f318:=Tryz.func255.trans (congrArg some (by kernel_rfl))
 f319:=Tryz.func256.trans (congrArg some (by kernel_rfl))
 f320:=Tryz.func257.trans (congrArg some (by kernel_rfl))
 f321:=Tryz.func216.trans (congrArg some (by kernel_rfl))
 f322:=Tryz.func217.trans (congrArg some (by kernel_rfl))
 f337:=Tryz.func262.trans (congrArg some (by kernel_rfl))
 f338:=Tryz.func263.trans (congrArg some (by kernel_rfl))
 t0:=Tryz.underlying0
 a0:=Tryz.isAgg0
 z0:=Tryz.sizeOf0
 v0:=Tryz.zeroValue0
 t2:=Tryz.underlying2
 a2:=Tryz.isAgg2
 z2:=Tryz.sizeOf2
 v2:=Tryz.zeroValue2
 t3:=Tryz.underlying3
 a3:=Tryz.isAgg3
 z3:=Tryz.sizeOf3
 v3:=Tryz.zeroValue3
 t4:=Tryz.underlying4
 a4:=Tryz.isAgg4
 z4:=Tryz.sizeOf4
 v4:=Tryz.zeroValue4
 t5:=Tryz.underlying5
 a5:=Tryz.isAgg5
 z5:=Tryz.sizeOf5
 v5:=Tryz.zeroValue5
 t9:=Tryz.underlying9
 a9:=Tryz.isAgg9
 z9:=Tryz.sizeOf9
 v9:=Tryz.zeroValue9
 t20:=Tryz.underlying20
 a20:=Tryz.isAgg20
 z20:=Tryz.sizeOf20
 v20:=Tryz.zeroValue20
 t21:=Tryz.underlying21
 a21:=Tryz.isAgg21
 z21:=Tryz.sizeOf21
 v21:=Tryz.zeroValue21
 t37:=Tryz.underlying128
 a37:=Tryz.isAgg128
 z37:=Tryz.sizeOf128
 v37:=Tryz.zeroValue128
 t46:=Tryz.underlying223
 a46:=Tryz.isAgg223
 z46:=Tryz.sizeOf223
 v46:=Tryz.zeroValue223
 t51:=Tryz.underlying251
 a51:=Tryz.isAgg251
 z51:=Tryz.sizeOf251
 v51:=Tryz.zeroValue251
 t53:=Tryz.underlying220
 a53:=Tryz.isAgg220
 z53:=Tryz.sizeOf220
 v53:=Tryz.zeroValue220
 t75:=Tryz.underlying165
 a75:=Tryz.isAgg165
 z75:=Tryz.sizeOf165
 v75:=Tryz.zeroValue165
 t76:=Tryz.underlying166
 a76:=Tryz.isAgg166
 z76:=Tryz.sizeOf166
 v76:=Tryz.zeroValue166
 t85:=Tryz.underlying199
 a85:=Tryz.isAgg199
 z85:=Tryz.sizeOf199
 v85:=Tryz.zeroValue199
 t127:=Tryz.underlying170
 a127:=Tryz.isAgg170
 z127:=Tryz.sizeOf170
 v127:=Tryz.zeroValue170
 t143:=Tryz.underlying244
 a143:=Tryz.isAgg244
 z143:=Tryz.sizeOf244
 v143:=Tryz.zeroValue244
 t145:=Tryz.underlying246
 a145:=Tryz.isAgg246
 z145:=Tryz.sizeOf246
 v145:=Tryz.zeroValue246
 t167:=Tryz.underlying198
 a167:=Tryz.isAgg198
 z167:=Tryz.sizeOf198
 v167:=Tryz.zeroValue198
 t168:=Tryz.underlying201
 a168:=Tryz.isAgg201
 z168:=Tryz.sizeOf201
 v168:=Tryz.zeroValue201
 t171:=Tryz.underlying270
 a171:=Tryz.isAgg270
 z171:=Tryz.sizeOf270
 v171:=Tryz.zeroValue270
 t173:=Tryz.underlying273
 a173:=Tryz.isAgg273
 z173:=Tryz.sizeOf273
 v173:=Tryz.zeroValue273
 t175:=Tryz.underlying221
 a175:=Tryz.isAgg221
 z175:=Tryz.sizeOf221
 v175:=Tryz.zeroValue221
 t210:=Tryz.underlying225
 a210:=Tryz.isAgg225
 z210:=Tryz.sizeOf225
 v210:=Tryz.zeroValue225
 t212:=Tryz.underlying278
 a212:=Tryz.isAgg278
 z212:=Tryz.sizeOf278
 v212:=Tryz.zeroValue278
 t213:=Tryz.underlying279
 a213:=Tryz.isAgg279
 z213:=Tryz.sizeOf279
 t232:=Tryz.underlying283
 a232:=Tryz.isAgg283
 z232:=Tryz.sizeOf283
 v232:=Tryz.zeroValue283
 t233:=Tryz.underlying284
 a233:=Tryz.isAgg284
 z233:=Tryz.sizeOf284
 v233:=Tryz.zeroValue284
 g15:=by kernel_rfl
 g16:=by kernel_rfl
 g17:=by kernel_rfl
 g18:=by kernel_rfl
 g19:=by kernel_rfl
 t80:=Tryz.underlying133
 a80:=Tryz.isAgg133
 z80:=Tryz.sizeOf133
 v80:=Tryz.zeroValue133
 i0:=by kernel_rfl
 i2:=by kernel_rfl
 i3:=by kernel_rfl
 i4:=by kernel_rfl
 i5:=by kernel_rfl
 i9:=by kernel_rfl
 i20:=by kernel_rfl
 i21:=by kernel_rfl
 i37:=by kernel_rfl
 i46:=by kernel_rfl
 i51:=by kernel_rfl
 i53:=by kernel_rfl
 i75:=by kernel_rfl
 i76:=by kernel_rfl
 i80:=by kernel_rfl
 i85:=by kernel_rfl
 i127:=by kernel_rfl
 i143:=by kernel_rfl
 i145:=by kernel_rfl
 i167:=by kernel_rfl
 i168:=by kernel_rfl
 i171:=by kernel_rfl
 i173:=by kernel_rfl
 i175:=by kernel_rfl
 i210:=by kernel_rfl
 i212:=by kernel_rfl
 i232:=by kernel_rfl
 i233:=by kernel_rfl
 m15:=by kernel_rfl
 m16:=by kernel_rfl
 m17:=by kernel_rfl
 m18:=by kernel_rfl
 m19:=by kernel_rfl
 c0:=by kernel_rfl
 c2:=by kernel_rfl
 c3:=by kernel_rfl
 c4:=by kernel_rfl
 c5:=by kernel_rfl
 c9:=by kernel_rfl
 c20:=by kernel_rfl
 c21:=by kernel_rfl
 c37:=by kernel_rfl
 c46:=by kernel_rfl
 c51:=by kernel_rfl
 c53:=by kernel_rfl
 c75:=by kernel_rfl
 c76:=by kernel_rfl
 c80:=by kernel_rfl
 c85:=by kernel_rfl
 c127:=by kernel_rfl
 c143:=by kernel_rfl
 c145:=by kernel_rfl
 c167:=by kernel_rfl
 c168:=by kernel_rfl
 c171:=by kernel_rfl
 c173:=by kernel_rfl
 c175:=by kernel_rfl
 c210:=by kernel_rfl
 c212:=by kernel_rfl
 c213:=by kernel_rfl
 c232:=by kernel_rfl
 c233:=by kernel_rfl}
open Go.RowKit in
theorem Tryz.strconv_Atoi_ok (s:ByteArray)(hmax:s.size≤9223372036854775806)(v:Int)(h:Lib.atoiAll s.data.toList= .ok v)(w:World):
  Calls Tryz.prog 133 #[.string s] w fun e w'=>e= .returned (.tuple #[.int .i64 v,.nilIface])∧(w'=w∨ ∃t,w'=Lib.bytesWorld w 5 t):=Any.strconv_Atoi_ok Tryz.laysC172 s hmax v h w
open Go.RowKit in
theorem Tryz.strconv_Atoi_syntax_var (s:ByteArray)(hlim:s.size≤281474976710656)(h1: ∀v,Lib.atoiAll s.data.toList≠ .ok v)(h2:Lib.atoiAll s.data.toList≠ .range)(tp:TypeId)(p:Value)(w:World)(hvar:w.var? Tryz.prog "strconv.ErrSyntax" =some #[.iface tp p]):
  Calls Tryz.prog 133 #[.string s] w fun e w'=> ∃N,e= .returned (.tuple #[.int .i64 0,.iface 201 (.pointer (some ⟨N,0,none⟩))])∧w.heap.size≤N∧w'.heap[N]? =some (.cells #[.string ⟨#[65,116,111,105]⟩,.string s,.iface tp p] 225 (0,0))∧Below w.heap.size w w':=Any.strconv_Atoi_syntax_var Tryz.laysC172 s hlim (by cases hx:Lib.atoiAll s.data.toList<;>first|rfl|exact absurd hx (h1 _)|exact absurd hx h2) tp p w hvar
open Go.RowKit in
theorem Tryz.strconv_Atoi_range_var (s:ByteArray)(hlim:s.size≤281474976710656)(h:Lib.atoiAll s.data.toList= .range)(tp:TypeId)(p:Value)(w:World)(hvar:w.var? Tryz.prog "strconv.ErrRange" =some #[.iface tp p]):
  Calls Tryz.prog 133 #[.string s] w fun e w'=> ∃N,e= .returned (.tuple #[.int .i64 (Lib.atoiSat s.data.toList),.iface 201 (.pointer (some ⟨N,0,none⟩))])∧w.heap.size≤N∧w'.heap[N]? =some (.cells #[.string ⟨#[65,116,111,105]⟩,.string s,.iface tp p] 225 (0,0))∧Below w.heap.size w w':=Any.strconv_Atoi_range_var Tryz.laysC172 s hlim h tp p w hvar
def Tryz.lays143_ren:Go.Shelf.Ren:=⟨fun|143=>213|219=>228|217=>239|225=>240|224=>241|267=>242|266=>251|314=>252|n=>n,fun|9=>9|3=>3|4=>4|5=>5|46=>223|146=>276|51=>251|n=>n,fun|1=>3|n=>n⟩
theorem Tryz.lays143 : Go.Proofs.Lays.n143 Tryz.prog Tryz.lays143_ren := {
 mixed:=by kernel_rfl
 f143:=Tryz.func213.trans (congrArg some (by kernel_rfl))
 f217:=Tryz.func239.trans (congrArg some (by kernel_rfl))
 f219:=Tryz.func228.trans (congrArg some (by kernel_rfl))
 f224:=Tryz.func241.trans (congrArg some (by kernel_rfl))
 f225:=Tryz.func240.trans (congrArg some (by kernel_rfl))
 f266:=Tryz.func251.trans (congrArg some (by kernel_rfl))
 f267:=Tryz.func242.trans (congrArg some (by kernel_rfl))
 f314:=Tryz.func252.trans (congrArg some (by kernel_rfl))
 t3:=Tryz.underlying3
 a3:=Tryz.isAgg3
 z3:=Tryz.sizeOf3
 v3:=Tryz.zeroValue3
 t4:=Tryz.underlying4
 a4:=Tryz.isAgg4
 z4:=Tryz.sizeOf4
 v4:=Tryz.zeroValue4
 t5:=Tryz.underlying5
 a5:=Tryz.isAgg5
 z5:=Tryz.sizeOf5
 v5:=Tryz.zeroValue5
 t9:=Tryz.underlying9
 a9:=Tryz.isAgg9
 z9:=Tryz.sizeOf9
 v9:=Tryz.zeroValue9
 t46:=Tryz.underlying223
 a46:=Tryz.isAgg223
 z46:=Tryz.sizeOf223
 v46:=Tryz.zeroValue223
 t51:=Tryz.underlying251
 a51:=Tryz.isAgg251
 z51:=Tryz.sizeOf251
 v51:=Tryz.zeroValue251
 t146:=Tryz.underlying276
 a146:=Tryz.isAgg276
 z146:=Tryz.sizeOf276
 v146:=Tryz.zeroValue276
 g1:=by kernel_rfl}
open Go.RowKit Go.Lib in
theorem Tryz.strings_Index (s sub:ByteArray)(m:Int)(w:World)(hs:s.size<4294967281)(hm:w.cell? ⟨3,0,none⟩=some (.int .i64 m)):
  Calls Tryz.prog 213 #[.string s,.string sub] w fun e w'=>e= .returned (.int .i64 (Lib.index s.data.toList sub.data.toList))∧w'=w:=Any.strings_Index Tryz.lays143 s sub m w hs hm
def Tryz.laysGw17_ren:Go.Shelf.Ren:=⟨fun|17=>131|15=>154|20=>171|n=>n,fun|9=>9|23=>172|4=>4|3=>3|0=>0|21=>21|n=>n,fun|n=>n⟩
theorem Tryz.laysGw17 : Go.Proofs.LaysGw.n17 Tryz.prog Tryz.laysGw17_ren := {
 mixed:=by kernel_rfl
 f15:=Tryz.func154.trans (congrArg some (by kernel_rfl))
 f17:=Tryz.func131.trans (congrArg some (by kernel_rfl))
 f20:=Tryz.func171.trans (congrArg some (by kernel_rfl))
 t0:=Tryz.underlying0
 a0:=Tryz.isAgg0
 z0:=Tryz.sizeOf0
 v0:=Tryz.zeroValue0
 i0:=by kernel_rfl
 t3:=Tryz.underlying3
 a3:=Tryz.isAgg3
 z3:=Tryz.sizeOf3
 v3:=Tryz.zeroValue3
 i3:=by kernel_rfl
 t4:=Tryz.underlying4
 a4:=Tryz.isAgg4
 z4:=Tryz.sizeOf4
 v4:=Tryz.zeroValue4
 i4:=by kernel_rfl
 t9:=Tryz.underlying9
 a9:=Tryz.isAgg9
 z9:=Tryz.sizeOf9
 v9:=Tryz.zeroValue9
 i9:=by kernel_rfl
 t21:=Tryz.underlying21
 a21:=Tryz.isAgg21
 z21:=Tryz.sizeOf21
 v21:=Tryz.zeroValue21
 i21:=by kernel_rfl
 t23:=Tryz.underlying172
 a23:=Tryz.isAgg172
 z23:=Tryz.sizeOf172
 v23:=Tryz.zeroValue172
 i23:=by kernel_rfl}
def Tryz.lays99_ren:Go.Shelf.Ren:=⟨fun|99=>214|206=>229|n=>n,fun|9=>9|4=>4|3=>3|n=>n,fun|n=>n⟩
theorem Tryz.lays99 : Go.Proofs.Lays.n99 Tryz.prog Tryz.lays99_ren := {
 mixed:=by kernel_rfl
 f99:=Tryz.func214.trans (congrArg some (by kernel_rfl))
 f206:=Tryz.func229.trans (congrArg some (by kernel_rfl))
 t3:=Tryz.underlying3
 a3:=Tryz.isAgg3
 z3:=Tryz.sizeOf3
 v3:=Tryz.zeroValue3
 t4:=Tryz.underlying4
 a4:=Tryz.isAgg4
 z4:=Tryz.sizeOf4
 v4:=Tryz.zeroValue4
 t9:=Tryz.underlying9
 a9:=Tryz.isAgg9
 z9:=Tryz.sizeOf9
 v9:=Tryz.zeroValue9}
open Go.RowKit Go.Lib in
theorem Tryz.strings_HasPrefix (s p:ByteArray)(w:World):
  Calls Tryz.prog 214 #[.string s,.string p] w fun e w'=>e= .returned (.bool (Lib.hasPrefix s.data.toList p.data.toList))∧w'=w:=Any.strings_HasPrefix Tryz.lays99 s p w
def Tryz.lays101_ren:Go.Shelf.Ren:=⟨fun|101=>211|208=>227|206=>229|n=>n,fun|9=>9|4=>4|3=>3|n=>n,fun|n=>n⟩
theorem Tryz.lays101 : Go.Proofs.Lays.n101 Tryz.prog Tryz.lays101_ren := {
 mixed:=by kernel_rfl
 f101:=Tryz.func211.trans (congrArg some (by kernel_rfl))
 f206:=Tryz.func229.trans (congrArg some (by kernel_rfl))
 f208:=Tryz.func227.trans (congrArg some (by kernel_rfl))
 t3:=Tryz.underlying3
 a3:=Tryz.isAgg3
 z3:=Tryz.sizeOf3
 v3:=Tryz.zeroValue3
 t4:=Tryz.underlying4
 a4:=Tryz.isAgg4
 z4:=Tryz.sizeOf4
 v4:=Tryz.zeroValue4
 t9:=Tryz.underlying9
 a9:=Tryz.isAgg9
 z9:=Tryz.sizeOf9
 v9:=Tryz.zeroValue9}
open Go.RowKit Go.Lib in
theorem Tryz.strings_TrimPrefix (s p:ByteArray)(w:World):
  Calls Tryz.prog 211 #[.string s,.string p] w fun e w'=>e= .returned (.string ⟨(Lib.trimPrefix s.data.toList p.data.toList).toArray⟩)∧w'=w:=Any.strings_TrimPrefix Tryz.lays101 s p w
def Tryz.lays155_ren:Go.Shelf.Ren:=⟨fun|155=>224|154=>231|138=>247|165=>157|143=>213|166=>129|197=>178|169=>89|195=>258|218=>259|240=>153|241=>177|219=>228|260=>201|276=>170|277=>200|217=>239|225=>240|224=>241|267=>242|266=>251|314=>252|n=>n,fun|9=>9|3=>3|4=>4|72=>130|0=>0|76=>166|105=>204|21=>21|5=>5|70=>127|20=>20|37=>128|75=>165|127=>170|164=>195|46=>223|119=>247|139=>250|138=>249|146=>276|51=>251|80=>133|n=>n,fun|1=>3|3=>4|4=>5|n=>n⟩
theorem Tryz.lays155 : Go.Proofs.Lays.n155 Tryz.prog Tryz.lays155_ren := {
 mixed:=by kernel_rfl
 f138:=Tryz.func247.trans (congrArg some (by kernel_rfl))
 f143:=Tryz.func213.trans (congrArg some (by kernel_rfl))
 f154:=Tryz.func231.trans (congrArg some (by kernel_rfl))
 f155:=Tryz.func224.trans (congrArg some (by kernel_rfl))
 f165:=Tryz.func157.trans (congrArg some (by kernel_rfl))
 f166:=Tryz.func129.trans (congrArg some (by kernel_rfl))
 f169:=Tryz.func89.trans (congrArg some (by kernel_rfl))
 f195:=Tryz.func258.trans (congrArg some (by kernel_rfl))
 f197:=Tryz.func178.trans (congrArg some (by kernel_rfl))
 f217:=Tryz.func239.trans (congrArg some (by kernel_rfl))
 f218:=Tryz.func259.trans (congrArg some (by kernel_rfl))
 f219:=Tryz.func228.trans (congrArg some (by kernel_rfl))
 f224:=Tryz.func241.trans (congrArg some (by kernel_rfl))
 f225:=Tryz.func240.trans (congrArg some (by kernel_rfl))
 f240:=Tryz.func153.trans (congrArg some (by kernel_rfl))
 f241:=Tryz.func177.trans (congrArg some (by kernel_rfl))
 f260:=Tryz.func201.trans (congrArg some (by kernel_rfl))
 f266:=Tryz.func251.trans (congrArg some (by kernel_rfl))
 f267:=Tryz.func242.trans (congrArg some (by kernel_rfl))
 f276:=Tryz.func170.trans (congrArg some (by kernel_rfl))
 f277:=Tryz.func200.trans (congrArg some (by kernel_rfl))
 f314:=Tryz.func252.trans (congrArg some (by kernel_rfl))
 t0:=Tryz.underlying0
 a0:=Tryz.isAgg0
 z0:=Tryz.sizeOf0
 v0:=Tryz.zeroValue0
 t3:=Tryz.underlying3
 a3:=Tryz.isAgg3
 z3:=Tryz.sizeOf3
 v3:=Tryz.zeroValue3
 t4:=Tryz.underlying4
 a4:=Tryz.isAgg4
 z4:=Tryz.sizeOf4
 v4:=Tryz.zeroValue4
 t5:=Tryz.underlying5
 a5:=Tryz.isAgg5
 z5:=Tryz.sizeOf5
 v5:=Tryz.zeroValue5
 t9:=Tryz.underlying9
 a9:=Tryz.isAgg9
 z9:=Tryz.sizeOf9
 v9:=Tryz.zeroValue9
 t20:=Tryz.underlying20
 a20:=Tryz.isAgg20
 z20:=Tryz.sizeOf20
 v20:=Tryz.zeroValue20
 t21:=Tryz.underlying21
 a21:=Tryz.isAgg21
 z21:=Tryz.sizeOf21
 v21:=Tryz.zeroValue21
 t37:=Tryz.underlying128
 a37:=Tryz.isAgg128
 z37:=Tryz.sizeOf128
 v37:=Tryz.zeroValue128
 t46:=Tryz.underlying223
 a46:=Tryz.isAgg223
 z46:=Tryz.sizeOf223
 v46:=Tryz.zeroValue223
 t51:=Tryz.underlying251
 a51:=Tryz.isAgg251
 z51:=Tryz.sizeOf251
 v51:=Tryz.zeroValue251
 t70:=Tryz.underlying127
 a70:=Tryz.isAgg127
 z70:=Tryz.sizeOf127
 v70:=Tryz.zeroValue127
 t72:=Tryz.underlying130
 a72:=Tryz.isAgg130
 z72:=Tryz.sizeOf130
 v72:=Tryz.zeroValue130
 t75:=Tryz.underlying165
 a75:=Tryz.isAgg165
 z75:=Tryz.sizeOf165
 v75:=Tryz.zeroValue165
 t76:=Tryz.underlying166
 a76:=Tryz.isAgg166
 z76:=Tryz.sizeOf166
 v76:=Tryz.zeroValue166
 t105:=Tryz.underlying204
 a105:=Tryz.isAgg204
 z105:=Tryz.sizeOf204
 v105:=Tryz.zeroValue204
 t119:=Tryz.underlying247
 a119:=Tryz.isAgg247
 z119:=Tryz.sizeOf247
 t127:=Tryz.underlying170
 a127:=Tryz.isAgg170
 z127:=Tryz.sizeOf170
 v127:=Tryz.zeroValue170
 t138:=Tryz.underlying249
 a138:=Tryz.isAgg249
 z138:=Tryz.sizeOf249
 v138:=Tryz.zeroValue249
 t139:=Tryz.underlying250
 a139:=Tryz.isAgg250
 z139:=Tryz.sizeOf250
 v139:=Tryz.zeroValue250
 t146:=Tryz.underlying276
 a146:=Tryz.isAgg276
 z146:=Tryz.sizeOf276
 v146:=Tryz.zeroValue276
 t164:=Tryz.underlying195
 a164:=Tryz.isAgg195
 z164:=Tryz.sizeOf195
 v164:=Tryz.zeroValue195
 g1:=by kernel_rfl
 g3:=by kernel_rfl
 g4:=by kernel_rfl}
theorem Tryz.Builder_Extra_155 : Builder.Extra Tryz.prog Tryz.lays155_ren := {
 sizeBuilder:=by kernel_rfl
 liesBuilder:=by kernel_rfl
 t5:=Tryz.underlying5
 a5:=Tryz.isAgg5
 z5:=Tryz.sizeOf5
 v5:=Tryz.zeroValue5
 infoByte:=by kernel_rfl
 cellsByte:=by kernel_rfl
 sizeByte:=by kernel_rfl
 neB5:=by decide}
open Go.RowKit Go.Lib in
theorem Tryz.strings_ReplaceAll (s old new:ByteArray)(m:Int)(w:World)(hs:s.size<4294967281)(hm:w.cell? ⟨3,0,none⟩=some (.int .i64 m))(h1:1≤old.size)(hlen:s.size+Lib.countB s old*new.size≤140737488355328):
  Calls Tryz.prog 224 #[.string s,.string old,.string new] w fun e w'=>
   e= .returned (.string ⟨(Lib.replaceAll s.data.toList old.data.toList new.data.toList).toArray⟩)∧Below w.heap.size w w':=Any.strings_ReplaceAll Tryz.lays155 Tryz.Builder_Extra_155 s old new m w hs hm h1 hlen
def Tryz.lays274_ren:Go.Shelf.Ren:=⟨fun|274=>220|n=>n,fun|21=>21|162=>231|160=>252|3=>3|4=>4|46=>223|0=>0|208=>260|51=>251|206=>258|n=>n,fun|n=>n⟩
theorem Tryz.lays274 : Go.Proofs.Lays.n274 Tryz.prog Tryz.lays274_ren := {
 mixed:=by kernel_rfl
 f274:=Tryz.func220.trans (congrArg some (by kernel_rfl))
 t0:=Tryz.underlying0
 a0:=Tryz.isAgg0
 z0:=Tryz.sizeOf0
 v0:=Tryz.zeroValue0
 t3:=Tryz.underlying3
 a3:=Tryz.isAgg3
 z3:=Tryz.sizeOf3
 v3:=Tryz.zeroValue3
 t4:=Tryz.underlying4
 a4:=Tryz.isAgg4
 z4:=Tryz.sizeOf4
 v4:=Tryz.zeroValue4
 t21:=Tryz.underlying21
 a21:=Tryz.isAgg21
 z21:=Tryz.sizeOf21
 v21:=Tryz.zeroValue21
 t46:=Tryz.underlying223
 a46:=Tryz.isAgg223
 z46:=Tryz.sizeOf223
 v46:=Tryz.zeroValue223
 t51:=Tryz.underlying251
 a51:=Tryz.isAgg251
 z51:=Tryz.sizeOf251
 v51:=Tryz.zeroValue251
 t160:=Tryz.underlying252
 a160:=Tryz.isAgg252
 z160:=Tryz.sizeOf252
 v160:=Tryz.zeroValue252
 t162:=Tryz.underlying231
 a162:=Tryz.isAgg231
 z162:=Tryz.sizeOf231
 v162:=Tryz.zeroValue231
 t208:=Tryz.underlying260
 a208:=Tryz.isAgg260
 z208:=Tryz.sizeOf260
 v208:=Tryz.zeroValue260}
open Go.RowKit Go.Lib in
theorem Tryz.strings_ToUpper_any (s:ByteArray)(w:World)(hs:s.size<35184372088832)(hV:CaseVar 2 caseA w)(hT:Lib.Utf8Tabs 4 5 w):
  Calls Tryz.prog 136 #[.string s] w fun e w'=>e= .returned (.string ⟨(Lib.toUpperD s.data.toList).toArray⟩)∧Below w.heap.size w w':=Any.strings_ToUpper_any Tryz.lays158 Tryz.Builder_Extra_158 s w hs hV hT
open Go.RowKit Go.Lib in
theorem Tryz.strings_ContainsFunc_grows (g:Nat)(lb:Array Value)(eg: ∀args w,(callFunc g args).run Tryz.prog w= .ok (.enter g args) w)(p:Nat→Bool)(s:ByteArray)(w:World)(hp:PredGrows Tryz.prog g lb p w):
  Calls Tryz.prog 131 #[.string s,.func (.func g) #[] lb] w fun e w'=>e= .returned (.bool (decide (0≤Lib.idxFunc p true s)))∧Below w.heap.size w w':=Any.strings_ContainsFunc_grows Tryz.laysGw17 g lb eg p s w hp
end Go.Proofs
set_option linter.unusedVariables false
set_option linter.unusedSimpArgs false
set_option maxRecDepth 100000
namespace Go.Abs
open Go Go.Proofs Go.RowKit
structure Base (W0:World):Prop where
 max: ∃m:Int,W0.cell? ⟨3,0,none⟩=some (.int .i64 m)
 case:Lib.CaseVar 2 Lib.caseA W0
 utf8:Lib.Utf8Tabs 4 5 W0
 pow:Lib.TabIs Tryz.prog W0 "internal/strconv.uint64pow10" .u64 Lib.pow10Tab
 esyn: ∃tp p,World.var? Tryz.prog W0 "strconv.ErrSyntax" =some #[.iface tp p]
 erng: ∃tp p,World.var? Tryz.prog W0 "strconv.ErrRange" =some #[.iface tp p]
section
variable {W0 w:World}
theorem dk (h: ∀b,b<W0.heap.size→w.heap[b]? =W0.heap[b]?){p:Addr}{v:Value}(hc:W0.cell? p=some v):w.cell? p=some v:=by
 have hp:=Ac hc
 rw[←hc]
 unfold World.cell?
 rw[h _ hp]
theorem xL (h: ∀b,b<W0.heap.size→w.heap[b]? =W0.heap[b]?){n:String}{v:Array Value}(hv:World.var? Tryz.prog W0 n=some v):World.var? Tryz.prog w n=some v:=by
 rw[←hv]
 unfold World.var? at hv ⊢
 cases hg:Tryz.prog.globalNamed n with
 |none=>rfl
 |some g=>
  rw[hg]at hv
  simp only[Option.bind_some]at hv ⊢
  have hlt:g<W0.heap.size:=by
   rcases Nat.lt_or_ge g W0.heap.size with h1|h1
   ·exact h1
   ·rw[Array.getElem?_eq_none h1]at hv;simp at hv
  rw[h g hlt]
theorem Base.kept (B:Base W0)(h: ∀b,b<W0.heap.size→w.heap[b]? =W0.heap[b]?):Base w:=by
 obtain⟨m,hm⟩:=B.max
 obtain⟨R,oR,cap,h1,h2⟩:=B.case
 obtain⟨t1,p1,e1⟩:=B.esyn
 obtain⟨t2,p2,e2⟩:=B.erng
 refine⟨⟨m,dk h hm⟩,⟨R,oR,cap,dk h h1,fun i hi=> ?_⟩,⟨fun c hc=>dk h (B.utf8.1 c hc),fun i hi=>⟨dk h (B.utf8.2 i hi).1,dk h (B.utf8.2 i hi).2⟩⟩,xL h B.pow,⟨t1,p1,xL h e1⟩,⟨t2,p2,xL h e2⟩⟩
 obtain⟨a,b,c,d,e⟩:=h2 i hi
 exact⟨dk h a,dk h b,dk h c,dk h d,dk h e⟩
theorem fY {x:LV}{s:List UInt8}(h:aN x=some s):x=LV.str s:=by
 unfold aN at h
 split at h
 ·rename_i b
  injection h with h
  subst h
  rfl
 ·cases h
theorem rq {k:IntKind}{x:LV}{n:Int}(h:aC k x=some n):x=LV.int k n:=by
 unfold aC at h
 split at h
 ·rename_i k' m
  by_cases hk:k=k'
  ·subst hk
   simp at h
   subst h
   rfl
  ·simp[hk]at h
 ·cases h
theorem aZ {α β:Type}{x:Option α}{f:α→Option β}{r:β}(h:opt x f=some r): ∃a,x=some a∧f a=some r:=by
 cases x with
 |none=>cases h
 |some a=>exact⟨a,rfl,h⟩
theorem cr {α:Type}{l:List α}{q:α×List α}(h:aw l=some q):l=q.1::q.2:=by
 cases l with
 |nil=>cases h
 |cons a r=>injection h with h;subst h;rfl
theorem eq {α:Type}{l:List α}{u:Unit}(h:aO l=some u):l=[]:=by
 cases l with
 |nil=>rfl
 |cons a r=>cases h
theorem ex {β:Type}{b:Bool}{k:Option β}{r:β}(h:ax b k=some r):b=true∧k=some r:=by
 cases b with
 |false=>cases h
 |true=>exact⟨rfl,h⟩
theorem Br {g:List UInt8→Option LV}{args:List LV}{μ:Mu}{out:Out}(h:vE g args μ=some out): ∃s v,args=[LV.str s]∧g s=some v∧out= .ret v μ:=by
 unfold vE at h
 obtain⟨q,hq,h⟩:=aZ h
 obtain⟨u,hu,h⟩:=aZ h
 obtain⟨s,hs,h⟩:=aZ h
 obtain⟨v,hv,h⟩:=aZ h
 injection h with h
 refine⟨s,v,?_,hv,h.symm⟩
 rw[cr hq,eq hu,fY hs]
theorem mF {g:List UInt8→List UInt8→Option LV}{args:List LV}{μ:Mu}{out:Out}(h:jK g args μ=some out): ∃s t v,args=[LV.str s,LV.str t]∧g s t=some v∧out= .ret v μ:=by
 unfold jK at h
 obtain⟨q,hq,h⟩:=aZ h
 obtain⟨r,hr,h⟩:=aZ h
 obtain⟨u,hu,h⟩:=aZ h
 obtain⟨s,hs,h⟩:=aZ h
 obtain⟨t,ht,h⟩:=aZ h
 obtain⟨v,hv,h⟩:=aZ h
 injection h with h
 refine⟨s,t,v,?_,hv,h.symm⟩
 rw[cr hq,cr hr,eq hu,fY hs,fY ht]
theorem P4 {g:List UInt8→List UInt8→List UInt8→Option LV}{args:List LV}{μ:Mu}{out:Out}(h:Cj g args μ=some out): ∃s t z v,args=[LV.str s,LV.str t,LV.str z]∧g s t z=some v∧out= .ret v μ:=by
 unfold Cj at h
 obtain⟨q,hq,h⟩:=aZ h
 obtain⟨r,hr,h⟩:=aZ h
 obtain⟨x,hx,h⟩:=aZ h
 obtain⟨u,hu,h⟩:=aZ h
 obtain⟨s,hs,h⟩:=aZ h
 obtain⟨t,ht,h⟩:=aZ h
 obtain⟨z,hz,h⟩:=aZ h
 obtain⟨v,hv,h⟩:=aZ h
 injection h with h
 refine⟨s,t,z,v,?_,hv,h.symm⟩
 rw[cr hq,cr hr,cr hx,eq hu,fY hs,fY ht,fY hz]
theorem dC {f:FuncId}{fn:Func}(h:Tryz.prog.funcs[f]? =some fn)(h2:fn.body.isSome=true)(h3:(fn.name == "runtime.NumGoroutine")=false): ∃fn c,E.P.funcs[f]? =some fn∧fn.body=some c∧(fn.name == "runtime.NumGoroutine")=false:=by
 obtain⟨c,hc⟩:=Option.isSome_iff_exists.1 h2
 exact⟨fn,c,h,hc,h3⟩
variable {μ:Mu}
theorem g0 {f:FuncId}{vals:List Value}{r:Value}(hf: ∃fn c,E.P.funcs[f]? =some fn∧fn.body=some c∧(fn.name == "runtime.NumGoroutine")=false)(B:Base W0)
  (hc: ∀w:World,Base w→Calls Tryz.prog f vals.toArray w fun e w'=>e= .returned r∧Below w.heap.size w w'):
  cR E.P W0 f (vals.map fun v=>LV.cv (.v v)) μ (.ret (.cv (.v r)) μ):=
 Lu hf fun w h1 h2=>hc w (B.kept h2)
theorem AK {G:Gh}{L:Nat}: ∀(rs:List Value),bT G w L 0 (rs.map fun v=>LV.cv (.v v)) rs
 |[]=>rfl
 |r::rs=>by
  exact⟨r,rs,rfl,rfl,rfl,AK rs⟩
theorem Pm {f:FuncId}{vals rs:List Value}(hf: ∃fn c,E.P.funcs[f]? =some fn∧fn.body=some c∧(fn.name == "runtime.NumGoroutine")=false)(B:Base W0)
  (hc: ∀w:World,Base w→Calls Tryz.prog f vals.toArray w fun e w'=>e= .returned (.tuple rs.toArray)∧Below w.heap.size w w'):
  cR E.P W0 f (vals.map fun v=>LV.cv (.v v)) μ (.ret (.ltup (rs.map fun v=>LV.cv (.v v))) μ):=by
 refine jk hf fun G w cargs hs hv h1 h2=> ?_
 rw[vp hs hv]
 refine(hc w (B.kept h2)).mono fun e w' ⟨h3,h4⟩=>⟨_,h3,h4,⟨rs.toArray,rfl,AK rs⟩,fun b h=>by simp[aH]at h⟩
theorem ld {w':World}(h:w'=w):Below w.heap.size w w':=by subst h;exact Below.refl _ _
theorem F4 (n:Nat):Below w.heap.size w (w.drewN n):=⟨rfl,rfl,rfl,Nat.le_refl _,fun _ _=>rfl⟩
theorem jt {s:List UInt8}(h:fh s=true):(⟨⟨s⟩⟩:ByteArray).size≤1000000:=by
 unfold fh at h
 exact of_decide_eq_true h
theorem Mm (B:Base W0){args:List LV}{out:Out}(h:rN args μ=some out):cR E.P W0 136 args μ out:=by
 obtain⟨s,v,rfl,hg,rfl⟩:=Br h
 obtain⟨h1,h2⟩:=ex hg
 injection h2 with h2
 subst h2
 have hl:=jt h1
 exact g0 (vals:=[.string ⟨⟨s⟩⟩]) (dC Tryz.func136 rfl (by kernel_rfl)) B fun w b=>Tryz.strings_ToUpper_any ⟨⟨s⟩⟩ w (by omega) b.case b.utf8
theorem Fb (B:Base W0){args:List LV}{out:Out}(h:nc args μ=some out):cR E.P W0 214 args μ out:=by
 obtain⟨s,t,v,rfl,hg,rfl⟩:=mF h
 injection hg with hg
 subst hg
 exact g0 (vals:=[.string ⟨⟨s⟩⟩,.string ⟨⟨t⟩⟩]) (dC Tryz.func214 rfl (by kernel_rfl)) B fun w b=>(Tryz.strings_HasPrefix ⟨⟨s⟩⟩ ⟨⟨t⟩⟩ w).mono fun e w' ⟨h1,h2⟩=>⟨h1,ld h2⟩
theorem BU (B:Base W0){args:List LV}{out:Out}(h:l0 args μ=some out):cR E.P W0 211 args μ out:=by
 obtain⟨s,t,v,rfl,hg,rfl⟩:=mF h
 injection hg with hg
 subst hg
 exact g0 (vals:=[.string ⟨⟨s⟩⟩,.string ⟨⟨t⟩⟩]) (dC Tryz.func211 rfl (by kernel_rfl)) B fun w b=>(Tryz.strings_TrimPrefix ⟨⟨s⟩⟩ ⟨⟨t⟩⟩ w).mono fun e w' ⟨h1,h2⟩=>⟨h1,ld h2⟩
theorem Fd {t:List UInt8}{c:UInt8}(h:Az t=some c):t=[c]:=by
 unfold Az at h
 split at h
 ·injection h with h;subst h;rfl
 ·cases h
theorem HT (B:Base W0){args:List LV}{out:Out}(h:o5 args μ=some out):cR E.P W0 225 args μ out:=by
 obtain⟨s,t,v,rfl,hg,rfl⟩:=mF h
 obtain⟨c,hc,hg⟩:=aZ hg
 obtain⟨h1,h2⟩:=ex hg
 injection h2 with h2
 subst h2
 have:=Fd hc
 subst this
 exact g0 (vals:=[.string ⟨⟨s⟩⟩,.string ⟨⟨[c]⟩⟩]) (dC Tryz.func225 rfl (by kernel_rfl)) B fun w b=>(Tryz.strings_TrimLeft_one ⟨⟨s⟩⟩ c (of_decide_eq_true h1) w).mono fun e w' ⟨h1,h2⟩=>⟨h1,ld h2⟩
theorem Fc (B:Base W0){args:List LV}{out:Out}(h:nd args μ=some out):cR E.P W0 226 args μ out:=by
 obtain⟨s,t,v,rfl,hg,rfl⟩:=mF h
 obtain⟨c,hc,hg⟩:=aZ hg
 obtain⟨h1,h2⟩:=ex hg
 injection h2 with h2
 subst h2
 have:=Fd hc
 subst this
 rw[Bool.and_eq_true]at h1
 have hl:=jt h1.2
 exact g0 (vals:=[.string ⟨⟨s⟩⟩,.string ⟨⟨[c]⟩⟩]) (dC Tryz.func226 rfl (by kernel_rfl)) B fun w b=>(Tryz.strings_TrimRight_one ⟨⟨s⟩⟩ c (of_decide_eq_true h1.1) w (by omega)).mono fun e w' ⟨h1,h2⟩=>⟨h1,ld h2⟩
theorem RY (B:Base W0){args:List LV}{out:Out}(h:zk args μ=some out):cR E.P W0 213 args μ out:=by
 obtain⟨s,t,v,rfl,hg,rfl⟩:=mF h
 obtain⟨h1,h2⟩:=ex hg
 injection h2 with h2
 subst h2
 have hl:=jt h1
 refine g0 (vals:=[.string ⟨⟨s⟩⟩,.string ⟨⟨t⟩⟩]) (dC Tryz.func213 rfl (by kernel_rfl)) B fun w b=> ?_
 obtain⟨m,hm⟩:=b.max
 exact(Tryz.strings_Index ⟨⟨s⟩⟩ ⟨⟨t⟩⟩ m w (by omega) hm).mono fun e w' ⟨h1,h2⟩=>⟨h1,ld h2⟩
theorem Uw (B:Base W0){args:List LV}{out:Out}(h:zl args μ=some out):cR E.P W0 199 args μ out:=by
 unfold zl at h
 obtain⟨q,hq,h⟩:=aZ h
 obtain⟨u,hu,h⟩:=aZ h
 obtain⟨n,hn,h⟩:=aZ h
 obtain⟨h1,h2⟩:=ex h
 injection h2 with h2
 subst h2
 have hx:q.1=LV.int .i64 n:=by
  exact rq hn
 rw[cr hq,eq hu,hx]
 rw[Bool.and_eq_true]at h1
 refine g0 (vals:=[.int .i64 n]) (dC Tryz.func199 rfl (by kernel_rfl)) B fun w b=> ?_
 refine(Tryz.strconv_Itoa n (of_decide_eq_true h1.1) (of_decide_eq_true h1.2) w b.pow).mono fun e w' ⟨h3,k,os,h4⟩=>⟨h3,?_⟩
 subst h4
 have h5:Below w.heap.size w (w.drewN k):=F4 k
 refine Below.trans h5 ⟨rfl,rfl,rfl,by simp[«Sort».grow],fun j hj=> ?_⟩
 have:j<(w.drewN k).heap.size:=Nat.lt_of_lt_of_le hj h5.size
 simp only[«Sort».grow]
 rw[Array.getElem?_append_left this]
theorem BT (B:Base W0){args:List LV}{out:Out}(h:lZ args μ=some out):cR E.P W0 224 args μ out:=by
 obtain⟨s,t,z,v,rfl,hg,rfl⟩:=P4 h
 obtain⟨h1,h2⟩:=ex hg
 injection h2 with h2
 subst h2
 simp only[Bool.and_eq_true]at h1
 obtain⟨⟨a1,a2⟩,a3⟩:=h1
 have hl:=jt a1
 have hl2:=jt a2
 have h1':1≤(⟨⟨t⟩⟩:ByteArray).size:=of_decide_eq_true a3
 refine g0 (vals:=[.string ⟨⟨s⟩⟩,.string ⟨⟨t⟩⟩,.string ⟨⟨z⟩⟩]) (dC Tryz.func224 rfl (by kernel_rfl)) B fun w b=> ?_
 obtain⟨m,hm⟩:=b.max
 have hc:=Lib.countB_le ⟨⟨t⟩⟩ h1' _ ⟨⟨s⟩⟩ (Nat.le_refl _)
 refine Tryz.strings_ReplaceAll ⟨⟨s⟩⟩ ⟨⟨t⟩⟩ ⟨⟨z⟩⟩ m w (by omega) hm h1' ?_
 have:Lib.countB ⟨⟨s⟩⟩ ⟨⟨t⟩⟩*(⟨⟨z⟩⟩:ByteArray).size≤1000000*1000000:=Nat.mul_le_mul (by omega) hl2
 omega
theorem JT {G:Gh}{L:Nat}{n:Int}{v:Value}:LVR G w L 0 (.ltup [LV.int .i64 n,.cv (.iface 201 .undef)]) (.tuple #[.int .i64 n,.iface 201 v]):=by
 exact⟨_,rfl,_,_,rfl,rfl,rfl,_,_,rfl,rfl,⟨v,rfl,trivial⟩,rfl⟩
theorem Uv (B:Base W0){args:List LV}{out:Out}(h:Ci 201 args μ=some out):cR E.P W0 133 args μ out:=by
 obtain⟨s,v,rfl,hg,rfl⟩:=Br h
 obtain⟨h1,h2⟩:=ex hg
 injection h2 with h2
 subst h2
 have hl:=jt h1
 unfold yh
 cases ha:Lib.atoiAll s
 ·rename_i n
  refine Pm (vals:=[.string ⟨⟨s⟩⟩]) (rs:=[.int .i64 n,.nilIface]) (dC Tryz.func133 rfl (by kernel_rfl)) B fun w b=> ?_
  refine(Tryz.strconv_Atoi_ok ⟨⟨s⟩⟩ (by omega) n ha w).mono fun e w' ⟨h3,h4⟩=>⟨h3,?_⟩
  rcases h4 with rfl|⟨t,rfl⟩
  ·exact Below.refl _ _
  ·exact Joins.below_bytesWorld _ _ _ _ (Nat.le_refl _)
 ·refine jk (dC Tryz.func133 rfl (by kernel_rfl)) fun G w cargs hs hv k1 k2=> ?_
  rw[vp (vals:=[.string ⟨⟨s⟩⟩]) hs hv]
  obtain⟨tp,p,hp⟩:=(B.kept k2).esyn
  refine(Tryz.strconv_Atoi_syntax_var ⟨⟨s⟩⟩ (by omega) (fun v e=>by rw[ha]at e;cases e) (fun e=>by rw[ha]at e;cases e) tp p w hp).mono fun e w' ⟨N,h3,_,_,h4⟩=>⟨_,h3,h4,JT,fun b h=>by simp[aH]at h⟩
 ·refine jk (dC Tryz.func133 rfl (by kernel_rfl)) fun G w cargs hs hv k1 k2=> ?_
  rw[vp (vals:=[.string ⟨⟨s⟩⟩]) hs hv]
  obtain⟨tp,p,hp⟩:=(B.kept k2).erng
  refine(Tryz.strconv_Atoi_range_var ⟨⟨s⟩⟩ (by omega) ha tp p w hp).mono fun e w' ⟨N,h3,_,_,h4⟩=>⟨_,h3,h4,JT,fun b h=>by simp[aH]at h⟩
theorem F2 {n b0 b1 b2 b3:Nat}(h:b0<128):Lib.decodeN n b0 b1 b2 b3=(b0,1):=by unfold Lib.decodeN;rw[if_pos h]
theorem DG {n b0 b1 b2 b3:Nat}(h: ¬b0<128):128≤(Lib.decodeN n b0 b1 b2 b3).1:=by
 unfold Lib.decodeN
 rw[if_neg h]
 repeat' split
 all_goals first|omega|(simp only;omega)
theorem JL {p:Nat→Bool}{q:UInt8→Bool}(h1: ∀b:UInt8,b.toNat<128→p b.toNat=q b)(h2: ∀x,128≤x→p x=true)(h3: ∀b:UInt8,128≤b.toNat→q b=true)(s:List UInt8):
  ∀(f pos:Nat),s.length≤f+pos→decide (0≤Lib.idxFuncFrom p true ⟨⟨s⟩⟩ f pos)=(s.drop pos).any q
 |0,pos,hf=>by
  rw[List.drop_eq_nil_of_le (by omega)]
  rfl
 |f+1,pos,hf=>by
  unfold Lib.idxFuncFrom
  have hsz:(⟨⟨s⟩⟩:ByteArray).size=s.length:=rfl
  by_cases hlt:pos<s.length
  ·rw[if_pos (by rw[hsz];exact hlt),Lib.decode_at,List.drop_eq_getElem_cons hlt,List.any_cons]
   have hg:((⟨⟨s⟩⟩:ByteArray).get! pos)=s[pos]:=by
    simp[ByteArray.get!,hlt]
   rw[hg]
   by_cases hb:s[pos].toNat<128
   ·rw[F2 hb]
    simp only
    rw[h1 _ hb]
    cases hq:q s[pos]with
    |true=>simp
    |false=>
     rw[if_neg (by simp),JL h1 h2 h3 s f (pos+1) (by omega),Bool.false_or]
   ·rw[h2 _ (DG hb),if_pos rfl,h3 _ (by omega)]
    simp
  ·rw[if_neg (by rw[hsz];exact hlt),List.drop_eq_nil_of_le (by omega)]
   rfl
noncomputable def E0:Env:={E with prim:=fun _=>none}
theorem Wo (W:World):vn E0 W:=fun f g h=>by cases h
theorem V8:E0.P.follows .mixedOrders=true:=by kernel_rfl
theorem Ms {g:FuncId}{p:Nat→Bool}(hr: ∀x:Nat,(ev E0).call g [LV.int .i32 (x:Int)] []=some (.ret (LV.bool (p x)) [])):PredGrows Tryz.prog g #[] p w:=by
 intro W x hx hb
 have hm:=DO V8 (Wo W) (hr x)
 have he:(#[encR x]++(#[]:Array Value))= #[encR x]:=rfl
 rw[he]
 obtain ⟨R, hT⟩ := Rel.top (w := W) (args := [CV.int .i32 (x : Int)]) (cargs := #[encR x]) (by
  intro j y hy
  cases j with
  |zero=>simp at hy;subst hy;simp[VR]
  |succ j=>simp at hy)
 refine(hm.2 (Gh.top W) W #[encR x] rfl R ⟨Nat.le_refl _,fun b _=>⟨rfl,hT b⟩⟩).mono fun e w' h=> ?_
 cases e with
 |returned cv=>
  simp only[fK]at h
  obtain⟨O',R',E⟩:=h
  have h0:=R'.fr 0
  simp only[ct,List.getElem?_cons_zero,Option.getD_some,LVR,VR]at h0
  have:cv= .bool (p x):=by simpa using h0
  subst this
  exact⟨rfl,E.os,E.tape,E.output,E.size,fun b hb=>(E.keep b hb (hT b)).1⟩
 |panicked ch=>exact h.elim
 |_=>exact h.elim
theorem It {β:Type}{v:LV}{k:LV→Mu→Option β}{p:CV→Mu→Option β}:callK (some (.ret v μ)) k p=k v μ:=rfl
theorem PW {α β:Type}{a:α}{k:α→Option β}:opt (some a) k=k a:=rfl
theorem dIn (a b:Nat):decide ((a:Int)<(b:Int))=decide (a<b):=by simp
theorem Zv (x:Nat):(ev E0).call 186 [LV.int .i32 (x:Int)] []=some (.ret (LV.bool (decide (x<32)||decide (126<x))) []):=by
 refine aJ ?_
 have:aD E0 (ev E0) 186 [LV.int .i32 (x:Int)] []=cond (decide ((x:Int)<32)) (some (.ret (LV.bool true) [])) (some (.ret (LV.bool (decide ((126:Int)<(x:Int)))) [])):=by kernel_rfl
 have e1:decide ((x:Int)<32)=decide (x<32):=dIn x 32
 have e2:decide ((126:Int)<(x:Int))=decide (126<x):=dIn 126 x
 rw[this,e1,e2]
 cases decide (x<32)<;>rfl
theorem p44 (x:Nat):(ev E0).call 132 [LV.int .i32 (x:Int)] []=some (.ret (LV.bool (decide (x<48)||decide (57<x))) []):=by
 refine aJ ?_
 have:aD E0 (ev E0) 132 [LV.int .i32 (x:Int)] []=cond (decide ((x:Int)<48)) (some (.ret (LV.bool true) [])) (some (.ret (LV.bool (decide ((57:Int)<(x:Int)))) [])):=by kernel_rfl
 have e1:decide ((x:Int)<48)=decide (x<48):=dIn x 48
 have e2:decide ((57:Int)<(x:Int))=decide (57<x):=dIn 57 x
 rw[this,e1,e2]
 cases decide (x<48)<;>rfl
def Ll (b:Int):Bool:=(decide ((97:Int)≤b)&&decide (b≤122))||(decide ((65:Int)≤b)&&decide (b≤90))
theorem p90 {b:Int}:(ev E0).call 135 [LV.int .u8 b] []=some (.ret (LV.bool (Ll b)) []):=by
 refine aJ ?_
 have : aD E0 (ev E0) 135 [LV.int .u8 b] [] = cond (decide ((97 : Int) ≤ b)) (
   cond (decide (b ≤ (122 : Int))) (
   some (.ret (LV.bool true) [])) (
   cond (decide ((65 : Int) ≤ b)) (
   some (.ret (LV.bool (decide (b≤(90:Int)))) [])) (
   some (.ret (LV.bool false) [])))) (
   cond (decide ((65 : Int) ≤ b)) (
   some (.ret (LV.bool (decide (b≤(90:Int)))) [])) (
   some (.ret (LV.bool false) []))):=by kernel_rfl
 rw[this]
 unfold Ll
 cases decide ((97:Int)≤b)<;>cases decide (b≤122)<;>cases decide ((65:Int)≤b)<;>rfl
theorem Zw {b:Int}:(ev E0).call 160 [LV.int .u8 b] []=some (.ret (LV.bool (decide ((48:Int)≤b)&&decide (b≤57))) []):=by
 refine aJ ?_
 have:aD E0 (ev E0) 160 [LV.int .u8 b] []=cond (decide ((48:Int)≤b)) (some (.ret (LV.bool (decide (b≤(57:Int)))) [])) (some (.ret (LV.bool false) [])):=by kernel_rfl
 rw[this]
 cases decide ((48:Int)≤b)<;>rfl
def R7 (b:Int):Bool:=Ll b||(decide ((48:Int)≤b)&&decide (b≤57))||decide (b=95)
theorem OB {b:Bool}:aM (LV.bool b)=some b:=rfl
theorem p93 {b:Int}:(ev E0).call 138 [LV.int .u8 b] []=some (.ret (LV.bool (R7 b)) []):=by
 refine aJ ?_
 have : ∀ ρ : Rho, aD E0 ρ 138 [LV.int .u8 b] [] = callK (ρ.call 135 [LV.int .u8 b] []) (fun v1 μ2 =>
   opt (aM v1) fun b5=>
   cond (b5) (
   some (.ret (LV.bool true) μ2)) (
   callK (ρ.call 160 [LV.int .u8 b] μ2) (fun v6 μ7 =>
   opt (aM v6) fun b10=>
   cond (b10) (
   some (.ret (LV.bool true) μ7)) (
   some (.ret (LV.bool (decide (b=(95:Int)))) μ7))) (fun v9 μ8=>
   ax (below (List.length μ8) v9) (some (.panic v9 μ8))))) (fun v4 μ3=>
   ax (below (List.length μ3) v4) (some (.panic v4 μ3))):=by intro ρ;kernel_rfl
 rw[this,p90,It,OB,PW]
 unfold R7
 cases Ll b with
 |true=>rfl
 |false=>
  rw[cond_false,Zw,It,OB,PW]
  cases (decide ((48:Int)≤b)&&decide (b≤57))<;>rfl
def Ce (x:Nat):Bool:=decide (126<x)|| !R7 (IntKind.wrap .u8 (x:Int))
theorem p92 (x:Nat):(ev E0).call 137 [LV.int .i32 (x:Int)] []=some (.ret (LV.bool (Ce x)) []):=by
 refine aJ ?_
 have : ∀ ρ : Rho, aD E0 ρ 137 [LV.int .i32 (x : Int)] [] = cond (decide ((126 : Int) < (x : Int))) (
   some (.ret (LV.bool true) [])) (
   callK (ρ.call 138 [LV.int .u8 (IntKind.wrap .u8 (x : Int))] []) (fun v1 μ2 =>
   opt (aM v1) fun b5=>
   some (.ret (LV.bool (!b5)) μ2)) (fun v4 μ3=>
   ax (below (List.length μ3) v4) (some (.panic v4 μ3)))):=by intro ρ;kernel_rfl
 have e2:decide ((126:Int)<(x:Int))=decide (126<x):=dIn 126 x
 rw[this,p93,e2]
 unfold Ce
 cases decide (126<x)<;>rfl
theorem Ay {g:FuncId}{p:Nat→Bool}{q:UInt8→Bool}(hr: ∀x:Nat,(ev E0).call g [LV.int .i32 (x:Int)] []=some (.ret (LV.bool (p x)) []))(hg: ∀args w,(callFunc g args).run Tryz.prog w= .ok (.enter g args) w)
  (h1: ∀b:UInt8,b.toNat<128→p b.toNat=q b) (h2: ∀x,128≤x→p x=true) (h3: ∀b:UInt8,128≤b.toNat→q b=true) {s:List UInt8}:
  cR E.P W0 131 [LV.str s,LV.cv (.clo g [])] μ (.ret (LV.bool (s.any q)) μ):=by
 refine jk (dC Tryz.func131 rfl (by kernel_rfl)) fun G w cargs hs hv k1 k2=> ?_
 have hc:cargs= #[.string ⟨⟨s⟩⟩,.func (.func g) #[] #[]]:=by
  have e0:=hv 0 _ rfl
  have e1:=hv 1 _ rfl
  simp only[LVR,VR]at e0 e1
  obtain⟨vs,e1,e2⟩:=e1
  simp only[VRL]at e2
  have:vs= #[]:=by
   apply Array.ext'
   rw[e2]
  subst this
  simp only[List.length_cons,List.length_nil]at hs
  apply Array.ext
  ·exact hs
  ·intro j hj1 hj2
   have:j=0∨j=1:=by simp at hj2;omega
   rcases this with rfl|rfl
   ·rw[Array.getD_eq_getD_getElem?,Array.getElem?_eq_getElem hj1]at e0
    simpa using e0
   ·rw[Array.getD_eq_getD_getElem?,Array.getElem?_eq_getElem hj1]at e1
    simpa using e1
 rw[hc]
 refine(Tryz.strings_ContainsFunc_grows g #[] hg p ⟨⟨s⟩⟩ w (Ms hr)).mono fun e w' ⟨h4,h5⟩=>⟨_,h4,h5,?_,fun b h=>by simp[aH]at h⟩
 have:=JL h1 h2 h3 s s.length 0 (by omega)
 rw[List.drop_zero]at this
 have e:Lib.idxFunc p true ⟨⟨s⟩⟩=Lib.idxFuncFrom p true ⟨⟨s⟩⟩ s.length 0:=rfl
 rw[e,this]
 rfl
theorem Rl: ∀i:Fin 128,Ce i.val= !((decide (97≤i.val)&&decide (i.val≤122))||(decide (65≤i.val)&&decide (i.val≤90))||(decide (48≤i.val)&&decide (i.val≤57))||decide (i.val=95)):=by decide
end
end Go.Abs
set_option linter.unusedVariables false
set_option linter.unusedSimpArgs false
set_option maxRecDepth 100000
namespace Go.Proofs.YtmemoghbijcebaaGreatDoor.Glue
open Go Go.Proofs Go.Abs Go.Shelf Go.Lib Go.ChangeShapes Go.WideShapes Go.ChangeAt Go.RowKit
def vy:List (String×DataW Unit):=[("math/bits.deBruijn32tab",Rows.laid_math_bits_deBruijn32tab),("math/bits.deBruijn64tab",Rows.laid_math_bits_deBruijn64tab),("internal/strconv.uint64pow10",Rows.laid_internal_strconv_uint64pow10),("unicode/utf8.acceptRanges",Rows.laid_unicode_utf8_acceptRanges),("strconv.ErrRange",Rows.laid_strconv_ErrRange),("strconv.ErrSyntax",Rows.laid_strconv_ErrSyntax),("unicode.CaseRanges",Rows.laid_unicode_CaseRanges),("unicode/utf8.first",Rows.laid_unicode_utf8_first)]
def TG:Go.Shelf.Ren:=⟨fun|274=>220|n=>n,fun|21=>21|162=>231|160=>252|3=>3|4=>4|46=>223|0=>0|208=>260|51=>251|206=>258|n=>n,fun|13=>2|n=>n⟩
theorem lays274 : Go.Proofs.Lays.n274 Tryz.prog TG := {
 mixed:=by kernel_rfl
 f274:=Tryz.func220.trans (congrArg some (by kernel_rfl))
 t0:=Tryz.underlying0
 a0:=Tryz.isAgg0
 z0:=Tryz.sizeOf0
 v0:=Tryz.zeroValue0
 t3:=Tryz.underlying3
 a3:=Tryz.isAgg3
 z3:=Tryz.sizeOf3
 v3:=Tryz.zeroValue3
 t4:=Tryz.underlying4
 a4:=Tryz.isAgg4
 z4:=Tryz.sizeOf4
 v4:=Tryz.zeroValue4
 t21:=Tryz.underlying21
 a21:=Tryz.isAgg21
 z21:=Tryz.sizeOf21
 v21:=Tryz.zeroValue21
 t46:=Tryz.underlying223
 a46:=Tryz.isAgg223
 z46:=Tryz.sizeOf223
 v46:=Tryz.zeroValue223
 t51:=Tryz.underlying251
 a51:=Tryz.isAgg251
 z51:=Tryz.sizeOf251
 v51:=Tryz.zeroValue251
 t160:=Tryz.underlying252
 a160:=Tryz.isAgg252
 z160:=Tryz.sizeOf252
 v160:=Tryz.zeroValue252
 t162:=Tryz.underlying231
 a162:=Tryz.isAgg231
 z162:=Tryz.sizeOf231
 v162:=Tryz.zeroValue231
 t208:=Tryz.underlying260
 a208:=Tryz.isAgg260
 z208:=Tryz.sizeOf260
 v208:=Tryz.zeroValue260}
def X5:Go.Shelf.Ren:=⟨fun n=>n,fun|5=>5|119=>247|139=>250|138=>249|n=>n,fun|3=>4|4=>5|n=>n⟩
theorem UP:U8Types Tryz.prog X5:=⟨Tryz.underlying5,Tryz.underlying247,Tryz.underlying249,Tryz.underlying250⟩
theorem Wt: "*" ++ "errors.errorString" = "*errors.errorString" :=by decide
theorem P9 (u:TypeId)(h:Tryz.prog.typeName? 3 u=some "*errors.errorString"):u=244:=
 typeName_ptr_named (nm:= "errors.errorString") (by rw[Wt];kernel_rfl) (by kernel_rfl) (by decide) u (by rw[Wt];exact h)
theorem C6 {W:World}(hL:laidMet Tryz.prog vy W)(hS:W.ShapedOpen Tryz.prog):Base W:=by
 obtain⟨a0,t0,hv0,hc0,ht0,_⟩:=laid_sentinel (g:=1) hL.tail.tail.tail.tail (by kernel_rfl) (by kernel_rfl) Tryz.underlying165 P9 Tryz.underlying244 Tryz.underlying246 rfl rfl Tryz.underlying9 (by kernel_rfl) (by kernel_rfl)
 obtain⟨a1,t1,hv1,hc1,ht1,_⟩:=laid_sentinel (g:=0) hL.tail.tail.tail.tail.tail (by kernel_rfl) (by kernel_rfl) Tryz.underlying165 P9 Tryz.underlying244 Tryz.underlying246 rfl rfl Tryz.underlying9 (by kernel_rfl) (by kernel_rfl)
 have r4:=Lib.laidMet.reads hL (.tail _ (.tail _ (.tail _ (.head _))))
 have r7:=Lib.laidMet.reads hL (.tail _ (.tail _ (.tail _ (.tail _ (.tail _ (.tail _ (.head _)))))))
 have r8:=Lib.laidMet.reads hL (.tail _ (.tail _ (.tail _ (.tail _ (.tail _ (.tail _ (.tail _ (.head _))))))))
 have r7':VarReads Tryz.prog W "unicode.CaseRanges" caseData:=by rw[←Pinned.caseRanges_eq];exact r7
 have r8':VarReads Tryz.prog W "unicode/utf8.first" firstData:=by rw[←Pinned.utf8First_eq];exact r8
 refine⟨?_,?_,?_,?_,⟨_,_,hv1⟩,⟨_,_,hv0⟩⟩
 ·exact cell_of_shapedOpen_int (zero:= #[.int .i64 0]) (t:=3) hS (of_decide_eq_true (by kernel_rfl)) (by kernel_rfl) rfl (by kernel_rfl) (by kernel_rfl) Tryz.underlying3
 ·exact caseVar_of_reads lays274 Tryz.underlying258 ⟨by kernel_rfl,by kernel_rfl,by kernel_rfl,by kernel_rfl,by kernel_rfl,by kernel_rfl⟩ r7'
 ·exact utf8Tabs_of_readsT UP ⟨by kernel_rfl,by kernel_rfl,by kernel_rfl,by kernel_rfl,by kernel_rfl,by kernel_rfl,by kernel_rfl⟩ r8' r4
 ·exact Lib.tabIs_of_head (g:=6) (t:=278) (e:=220) (n:=20) (by kernel_rfl) (by kernel_rfl) Tryz.underlying278 Tryz.underlying220 (by kernel_rfl) (by kernel_rfl) hL.tail.tail
end Go.Proofs.YtmemoghbijcebaaGreatDoor.Glue
set_option linter.unusedVariables false
set_option linter.unusedSimpArgs false
set_option maxRecDepth 1000000
namespace Go.Proofs.YtmemoghbijcebaaGreatDoor.Glue
open Go Go.Proofs Go.Shelf Go.Lib Go.Great Go.ChangeShapes Go.WideShapes Go.ChangeAt Go.RowKit
def intsOf {H:Type}:DataW H→List Value
 | .agg l=>l.flatMap fun| .lit (.int k z)=>[Value.int k z]| .agg [.lit (.int k z),.lit (.int k' z')]=>[Value.int k z,Value.int k' z']|_=>[]
 |_=>[]
def Qn (l:List UInt8):Value:= .string ⟨l.toArray⟩
noncomputable def iS (os:Os):World:=
 let N:=(World.settled Tryz.prog os).heap.size
 let w0 := World.holding Tryz.prog os ⟨#[.cells (caseT.flatMap cells5).toArray 260,
  .cells #[Qn [118,97,108,117,101,32,111,117,116,32,111,102,32,114,97,110,103,101]] 246,
  .cells #[Qn [105,110,118,97,108,105,100,32,115,121,110,116,97,120]] 246],#[],[]⟩
 let put (h:Array Obj) (g:Nat) (cs:Array Value):Array Obj:=h.modify g fun
  | .cells _ t frozen=> .cells cs t frozen
  |o=>o
 let h1:=put w0.heap 0 #[.iface 244 (.pointer (some ⟨N+2,0,none⟩))]
 let h2:=put h1 1 #[.iface 244 (.pointer (some ⟨N+1,0,none⟩))]
 let h3:=put h2 2 #[.slice (some ⟨N,0,none⟩) caseT.length caseT.length]
 let h4:=put h3 4 (Lib.firstTab.map fun z=>Value.int .u8 z).toArray
 let h5:=put h4 5 (intsOf (H:=Unit) Rows.laid_unicode_utf8_acceptRanges).toArray
 let h6:=put h5 6 (intsOf (H:=Unit) Rows.laid_internal_strconv_uint64pow10).toArray
 let h7:=put h6 7 (intsOf (H:=Unit) Rows.laid_math_bits_deBruijn32tab).toArray
 let h8:=put h7 8 (intsOf (H:=Unit) Rows.laid_math_bits_deBruijn64tab).toArray
 {w0 with heap:=h8}
noncomputable abbrev N0:Nat:=(World.settled Tryz.prog default).heap.size
theorem cty:CTypes Tryz.prog 231 260 258 251 21:=⟨by kernel_rfl,by kernel_rfl,by kernel_rfl,by kernel_rfl,by kernel_rfl,by kernel_rfl,by kernel_rfl,by kernel_rfl,by kernel_rfl⟩
theorem Wl (os:Os)(args:Array Value):LaidIn Tryz.prog ((iS os).forCall (fun _ _=>0) ⟨#[],args,[]⟩).memory (vy.take 6) [7,8,6,5,1,N0+1,0,N0+2]:=
 LaidIn.of_run [7,8,6,5,1,N0+1,0,N0+2] 8 (by kernel_rfl) (by kernel_rfl) (by kernel_rfl) (by kernel_rfl)
theorem Wm (os:Os)(args:Array Value):LaidIn Tryz.prog ((iS os).forCall (fun _ _=>0) ⟨#[],args,[]⟩).memory [("unicode.CaseRanges",Rows.laid_unicode_CaseRanges)] [2,N0]:=by
 have e:Rows.laid_unicode_CaseRanges= .slice (caseT.map rowData) []:=Pinned.caseRanges_eq
 rw[e]
 exact laidIn_case cty (g:=2) (B:=N0) (tg:=231) (tb:=260) caseT (by kernel_rfl) (by kernel_rfl) (Nat.le_of_ble_eq_true (by kernel_rfl)) (by kernel_rfl) (by kernel_rfl) (by kernel_rfl) (Nat.ne_of_beq_eq_false (by kernel_rfl))
theorem Wn (os:Os)(args:Array Value):LaidIn Tryz.prog ((iS os).forCall (fun _ _=>0) ⟨#[],args,[]⟩).memory [("unicode/utf8.first",Rows.laid_unicode_utf8_first)] [4]:=
 LaidIn.of_run [4] 8 (by kernel_rfl) (by kernel_rfl) (by kernel_rfl) (by kernel_rfl)
theorem Q7 (os:Os)(args:Array Value):laidMet Tryz.prog vy ((iS os).forCall (fun _ _=>0) ⟨#[],args,[]⟩).memory:=
 ((((Wl os args).append (Wm os args) (by kernel_rfl)).append (Wn os args) (by kernel_rfl))).met
theorem own:ownKnob Tryz.prog.godebug=none:=by kernel_rfl
end Go.Proofs.YtmemoghbijcebaaGreatDoor.Glue
set_option linter.unusedVariables false
set_option linter.unusedSimpArgs false
namespace Go.Abs.Ga
open Go Go.ChangeShapes Go.WideShapes Go.WideElems Go.RowKit Go.ChangeAt Go.Deep
inductive Sh where
 |int (k:IntKind)
 |bool
 |str
 |sl (st:Bool) (l:List Sh)
mutual
def Is:Sh→CV→Prop
 | .int k,c=> ∃n,c= .v (.int k n)∧(Lit.int k n).wf=true
 | .bool,c=> ∃b,c= .v (.bool b)
 | .str,c=> ∃s:List UInt8,c=CV.str s∧s.length≤maxLen
 | .sl st l,c=> ∃xs:List CV,c= .sl xs∧xs.length≤maxLen∧ ∀x∈xs,if st then ∃ys,x= .agg ys∧IsL l ys else IsL l [x]
def IsL:List Sh→List CV→Prop
 |[],ys=>ys=[]
 |s::l,ys=> ∃y r,ys=y::r∧Is s y∧IsL l r
end
theorem Ip: ∀{l:List Sh} {ys:List CV},IsL l ys→ys.length=l.length
 |[],ys,h=>by simp only[IsL]at h;rw[h];rfl
 |s::l,ys,h=>by
  simp only[IsL]at h
  obtain⟨y,r,rfl,_,h2⟩:=h
  simp[Ip h2]
theorem Io: ∀{l m:List Sh} {xs ys:List CV},IsL l xs→IsL m ys→IsL (l++m) (xs++ys)
 |[],m,xs,ys,h1,h2=>by simp only[IsL]at h1;rw[h1];exact h2
 |s::l,m,xs,ys,h1,h2=>by
  simp only[IsL]at h1
  obtain⟨y,r,rfl,a,b⟩:=h1
  exact⟨y,r++ys,rfl,a,Io b h2⟩
theorem CC {s:Sh}{c:CV}(h:Is s c):c.cells.length=1∧ ∀ys,c≠ .agg ys:=by
 cases s with
 |int k=>simp only[Is]at h;obtain⟨n,rfl,_⟩:=h;exact⟨rfl,fun ys e=>by cases e⟩
 |bool=>simp only[Is]at h;obtain⟨n,rfl⟩:=h;exact⟨rfl,fun ys e=>by cases e⟩
 |str=>simp only[Is]at h;obtain⟨n,rfl,_⟩:=h;exact⟨rfl,fun ys e=>by cases e⟩
 |sl st l=>simp only[Is]at h;obtain⟨n,rfl,_⟩:=h;exact⟨rfl,fun ys e=>by cases e⟩
def fieldsOf (P:Program)(f:TypeId→Option (List Sh)):Nat→List Field→Option (List Sh)
 |_,[]=>some []
 |off,x::r=>match f x.type with
  |some l=>if x.offset=off∧P.cellsOf x.type=l.length then(match fieldsOf P f (off+l.length) r with|some m=>some (l++m)|none=>none)else none
  |none=>none
def js (P:Program):Nat→TypeId→Option (List Sh)
 |0,_=>none
 |n+1,t=>match P.underlying t with
  |some .bool=>some [.bool]
  |some (.int k)=>some [.int k]
  |some .string=>some [.str]
  | some (.slice e) => (match js P n e with
   |some []=>none
   | some (x :: l) => if P.cellsOf e = (x :: l).length then (match P.underlying e with
    |some (.struct _)=>some [.sl true (x::l)]
    |_=>if l.length=0 then some [.sl false (x::l)]else none)else none
   |none=>none)
  | some (.struct fs) => (match fieldsOf P (js P n) 0 fs.toList with
   |some l=>if P.cellsOf t=l.length then some l else none
   |none=>none)
  |_=>none
section
variable {H:Type}{enc:TypeId×Value→H}{P:Program}{w:World}{base:Nat}{spare:Nat→Bool}{held:Bool}
theorem VRL_app {G:Gh}: ∀{xs ys:List CV} {cs ds:List Value},VRL G w xs cs→VRL G w ys ds→VRL G w (xs++ys) (cs++ds)
 |[],ys,cs,ds,h1,h2=>by simp only[VRL]at h1;rw[h1];exact h2
 |x::xs,ys,cs,ds,h1,h2=>by
  simp only[VRL]at h1
  obtain⟨v,r,rfl,a,b⟩:=h1
  exact⟨v,r++ds,rfl,a,VRL_app b h2⟩
theorem Tn {b:Nat}{off:Nat}{v:Value}(h:w.cell? ⟨b,off,none⟩=some v):off<(Gh.top w).O b:=by
 unfold World.cell? at h
 simp only[Gh.top]
 split at h
 ·rename_i c e fz hb
  rw[hb]
  simp only
  by_cases hl:off<c.size
  ·exact hl
  ·have h':c[off]? =some v:=by simpa using h
   rw[Array.getElem?_eq_none (by omega)]at h'
   cases h'
 ·cases h
theorem CL_of: ∀{xs:List CV} {cs:List Value} {b off:Nat},VRL (Gh.top w) w xs cs→(∀i,i<cs.length→w.cell? ⟨b,off+i,none⟩=cs[i]?)→CL (Gh.top w) w b off xs
 |[],cs,b,off,_,_=>by simp only[CL]
 |x::xs,cs,b,off,h1,h2=>by
  simp only[VRL]at h1
  obtain⟨v,r,rfl,a,c⟩:=h1
  have h0:=h2 0 (by simp)
  simp only[Nat.add_zero,List.getElem?_cons_zero]at h0
  simp only[CL]
  refine⟨⟨v,h0,Tn h0,a⟩,CL_of c fun i hi=> ?_⟩
  have:=h2 (i+1) (by simp;omega)
  simpa[Nat.add_assoc,Nat.add_comm 1 i]using this
theorem QQ: ∀{n:Nat} {a:Addr} {cs:List Value},w.cells? base a n=some cs→cs.length=n∧ ∀i,i<n→w.cell? (a.add i)=cs[i]? :=by
 intro n a cs h
 obtain⟨_,h1,h2⟩:=World.cells?_some h
 exact⟨h1,h2⟩
theorem Tr (a:Addr)(i j:Nat):(a.add i).add j=a.add (i+j):=by
 unfold Addr.add
 by_cases hi:i=0
 ·subst hi
  by_cases hj:j=0
  ·subst hj;simp
  ·simp[hj]
 ·by_cases hj:j=0
  ·subst hj;simp[hi]
  ·have:i+j≠0:=by omega
   simp only[if_neg hi,if_neg hj,if_neg this,Nat.add_assoc]
theorem add_lit (b o i:Nat):(⟨b,o,none⟩:Addr).add i=⟨b,o+i,none⟩:=by
 unfold Addr.add
 split
 ·rename_i h;subst h;rfl
 ·rfl
theorem Qh {a:Addr}{v:Value}(h:w.cell? a=some v):a.spot=none:=by
 unfold World.cell? at h
 split at h
 ·split at h
  ·cases h
  ·rename_i hs
   cases hq:a.spot with
   |none=>rfl
   |some k=>exact absurd (by rw[hq];rfl) hs
 ·cases h
def SV (enc:TypeId×Value→H)(P:Program)(w:World)(base:Nat)(spare:Nat→Bool)(held:Bool)(f:TypeId→Option (List Sh)):Prop:=
 ∀(fuel:Nat) (t:TypeId) (cs:List Value) (x:DataW H×List MemPlace) (l:List Sh),DataW.trod enc P w base spare held fuel t cs=some x→f t=some l→ ∃xs,IsL l xs∧VRL (Gh.top w) w xs cs
theorem VRL_len {G:Gh}: ∀{xs:List CV} {cs:List Value},VRL G w xs cs→xs.length=cs.length
 |[],cs,h=>by simp only[VRL]at h;rw[h];rfl
 |x::xs,cs,h=>by
  simp only[VRL]at h
  obtain⟨v,r,rfl,_,b⟩:=h
  simp[VRL_len b]
theorem wt {f:TypeId→Option (List Sh)}(hf:SV enc P w base spare held f){fuel:Nat}: ∀(fs:List Field) (off:Nat) (cs:List Value) (l:List Sh),fieldsOf P f off fs=some l→cs.length=off+l.length→
  (∀x∈fs,∃y,DataW.trod enc P w base spare held fuel x.type ((cs.drop x.offset).take (P.cellsOf x.type))=some y)→ ∃xs,IsL l xs∧VRL (Gh.top w) w xs (cs.drop off)
 |[],off,cs,l,h,hl,_=>by
  simp only[fieldsOf]at h
  injection h with h
  subst h
  refine⟨[],rfl,?_⟩
  rw[List.drop_eq_nil_of_le (by simp at hl;omega)]
  rfl
 |x::r,off,cs,l,h,hl,ha=>by
  simp only[fieldsOf]at h
  split at h
  ·rename_i l1 h1
   split at h
   ·rename_i hc
    split at h
    ·rename_i m h2
     injection h with h
     subst h
     obtain⟨y,hy⟩:=ha x (by simp)
     obtain⟨xs,a1,a2⟩:=hf fuel x.type _ y l1 hy h1
     obtain⟨ys,b1,b2⟩:=wt hf r (off+l1.length) cs m h2 (by rw[hl,List.length_append];omega) fun z hz=>ha z (List.mem_cons_of_mem _ hz)
     refine⟨xs++ys,Io a1 b1,?_⟩
     rw[hc.1,hc.2]at a2
     have:cs.drop off=(cs.drop off).take l1.length++cs.drop (off+l1.length):=by
      rw[←List.drop_drop,List.take_append_drop]
     rw[this]
     exact VRL_app a2 b2
    ·cases h
   ·cases h
  ·cases h
theorem EL_of {b s:Nat}{st:Bool}{l:List Sh}: ∀(xs:List CV) (off:Nat),(∀x∈xs,if st then ∃ys,x= .agg ys∧IsL l ys else IsL l [x])→
  (∀j x,xs[j]? =some x→ ∃cs,VRL (Gh.top w) w x.cells cs∧cs.length=s∧ ∀i,i<s→w.cell? ⟨b,off+j*s+i,none⟩=cs[i]?)→(st=false→s=1)→EL (Gh.top w) w b s off xs
 |[],off,_,_,_=>by simp only[EL]
 |x::r,off,h,hc,hs=>by
  obtain⟨cs,c1,c2,c3⟩:=hc 0 x rfl
  have hr := EL_of (b := b) (s := s) (st := st) (l := l) r (off + s) (fun y hy => h y (List.mem_cons_of_mem _ hy)) (fun j y hy => by
   obtain⟨ds,d1,d2,d3⟩:=hc (j+1) y (by simpa using hy)
   refine⟨ds,d1,d2,fun i hi=> ?_⟩
   have:=d3 i hi
   rw[Nat.add_mul,Nat.one_mul]at this
   rw[←this]
   congr 2
   omega) hs
  have h0:=h x (by simp)
  simp only[Nat.zero_mul,Nat.add_zero]at c3
  cases st with
  |true=>
   simp only[if_true]at h0
   obtain⟨ys,rfl,_⟩:=h0
   simp only[EL]
   refine⟨CL_of (cs:=cs) c1 (fun i hi=>c3 i (by omega)),hr⟩
  |false=>
   simp only[Bool.false_eq_true,if_false]at h0
   have hp: ∀ys,x≠ .agg ys:=by
    match l,h0 with
    |s::l',h0=>
     simp only[IsL]at h0
     obtain⟨y,r',e,h1,_⟩:=h0
     injection e with e _
     subst e
     exact(CC h1).2
    |[],h0=>simp only[IsL]at h0;cases h0
   have hx:x.cells=[x]:=by cases x<;>first|rfl|exact absurd rfl (hp _)
   rw[hx]at c1
   simp only[VRL]at c1
   obtain⟨v,r',rfl,c1,rfl⟩:=c1
   have h1:=c3 0 (by rw[hs rfl];omega)
   simp only[Nat.add_zero,List.getElem?_cons_zero]at h1
   cases x<;>first|exact absurd rfl (hp _)|(simp only[EL];exact⟨⟨v,h1,Tn h1,c1⟩,hr⟩)
theorem Mo: ∀n,SV enc P w base spare held (js P n):=by
 intro n
 induction n with
 |zero=>intro fuel t cs x l _ h;simp[js]at h
 |succ n ih=>
  intro fuel t cs x l ht h
  unfold js at h
  split at h
  ·rename_i hu
   injection h with h;subst h
   obtain⟨b,rfl,_⟩:=DataW.trod_bool hu ht
   exact⟨[.v (.bool b)],⟨_,_,rfl,⟨b,rfl⟩,rfl⟩,⟨_,_,rfl,rfl,rfl⟩⟩
  ·rename_i k hu
   injection h with h;subst h
   obtain⟨m,rfl,_,hw⟩:=DataW.trod_int hu ht
   exact⟨[.v (.int k m)],⟨_,_,rfl,⟨m,rfl,hw⟩,rfl⟩,⟨_,_,rfl,rfl,rfl⟩⟩
  ·rename_i hu
   injection h with h;subst h
   obtain⟨s,rfl,_,hs⟩:=DataW.trod_string hu ht
   refine⟨[CV.str s.data.toList],⟨_,_,rfl,⟨s.data.toList,rfl,hs⟩,rfl⟩,⟨_,_,rfl,?_,rfl⟩⟩
   cases s
   rfl
  ·rename_i e hu
   have key: ∀(st:Bool) (sh:List Sh),l=[.sl st sh]→js P n e=some sh→P.cellsOf e=sh.length→sh≠[]→(st=false→sh.length=1)→(st=true→ ∃fs,P.underlying e=some (.struct fs))→ ∃xs,IsL l xs∧VRL (Gh.top w) w xs cs:=by
    intro st sh hl h1 h2 h3 h4 _
    subst hl
    rcases open_slice hu ht with⟨rfl,_⟩|⟨a,len,cap,m,k,D,Pl,rfl,hb,hle,hm,hmm,_,hx⟩
    ·exact⟨[.sl []],⟨_,_,rfl,⟨[],rfl,by simp,fun x hx=>absurd hx (by simp)⟩,rfl⟩,⟨_,_,rfl,⟨none,0,0,rfl,rfl,Nat.le_refl _,Or.inl rfl⟩,rfl⟩⟩
    ·have hlm:len≤m:=by rw[hmm];split<;>omega
     have hone: ∀i,i<len→ ∃x:CV,(if st then ∃ys,x= .agg ys∧IsL sh ys else IsL sh [x])∧ ∃ds,VRL (Gh.top w) w x.cells ds∧ds.length=sh.length∧ ∀j,j<sh.length→w.cell? (a.add (i*sh.length+j))=ds[j]? :=by
      intro i hi
      obtain⟨cs',c1,c2⟩:=hx i (by omega)
      obtain⟨xs,x1,x2⟩:=ih k e cs' _ sh c2 h1
      obtain⟨d1,d2⟩:=QQ c1
      rw[h2]at d1 d2
      have d2': ∀j,j<sh.length→w.cell? (a.add (i*sh.length+j))=cs'[j]? :=fun j hj=>by
       rw[←d2 j hj,Tr]
      cases st with
      |true=>exact⟨.agg xs,⟨xs,rfl,x1⟩,cs',x2,d1,d2'⟩
      |false=>
       have hl1:=Ip x1
       rw[h4 rfl]at hl1
       obtain⟨y,rfl⟩:=List.length_eq_one_iff.1 hl1
       refine⟨y,x1,cs',?_,d1,d2'⟩
       have hp: ∀ys,y≠ .agg ys:=by
        match sh,x1 with
        |s::l',x1=>
         simp only[IsL]at x1
         obtain⟨y',r',e',z1,_⟩:=x1
         injection e' with e' _
         subst e'
         exact(CC z1).2
        |[],x1=>simp only[IsL]at x1;cases x1
       have hy:y.cells=[y]:=by cases y<;>first|rfl|exact absurd rfl (hp _)
       rw[hy]
       exact x2
     obtain⟨X,hX⟩:=choose_lt hone
     have hget: ∀j x,((List.range len).map X)[j]? =some x→j<len∧x=X j:=by
      intro j x hj
      rw[List.getElem?_map]at hj
      cases hq:(List.range len)[j]? with
      |none=>rw[hq]at hj;cases hj
      |some z=>
       rw[hq]at hj
       obtain⟨h5,h6⟩:=List.getElem?_eq_some_iff.1 hq
       simp at h5 h6 hj
       subst h6
       exact⟨h5,hj.symm⟩
     refine⟨[.sl ((List.range len).map X)],⟨_,_,rfl,⟨_,rfl,by simp;omega,fun x hxm=> ?_⟩,rfl⟩,⟨_,_,rfl,⟨some a,len,cap,rfl,by simp,hle,?_⟩,rfl⟩⟩
     ·obtain⟨j,hj⟩:=List.getElem?_of_mem hxm
      obtain⟨h5,rfl⟩:=hget j x hj
      exact(hX j h5).1
     ·by_cases h0:len=0
      ·exact Or.inl h0
      ·right
       have hpos:0<sh.length:=List.length_pos_iff.2 h3
       have hsp:a.spot=none:=by
        obtain⟨_,ds,e1,e2,e3⟩:=hX 0 (by omega)
        have:=e3 0 hpos
        rw[List.getElem?_eq_getElem (by omega)]at this
        exact Qh (by simpa[Addr.add]using this)
       have ha:a=⟨a.block,a.off,none⟩:=by cases a;simp at hsp;simp[hsp]
       refine⟨a.block,a.off,sh.length,by rw[←ha],fun x hxm=> ?_,?_⟩
       ·obtain⟨j,hj⟩:=List.getElem?_of_mem hxm
        obtain⟨h5,rfl⟩:=hget j x hj
        obtain⟨_,ds,e1,e2,_⟩:=hX j h5
        rw[VRL_len e1,e2]
       ·refine EL_of (st:=st) (l:=sh) _ _ (fun x hxm=> ?_) (fun j x hj=> ?_) (fun e=>h4 e)
        ·obtain⟨j,hj⟩:=List.getElem?_of_mem hxm
         obtain⟨h5,rfl⟩:=hget j x hj
         exact(hX j h5).1
        ·obtain⟨h5,rfl⟩:=hget j x hj
         obtain⟨_,ds,e1,e2,e3⟩:=hX j h5
         refine⟨ds,e1,e2,fun i hi=> ?_⟩
         rw[←e3 i hi,ha,add_lit,Nat.add_assoc]
   split at h
   ·cases h
   ·rename_i y l' h1
    split at h
    ·rename_i h2
     split at h
     ·rename_i fs h3
      injection h with h
      exact key true _ h.symm h1 h2 (by simp) (fun e=>by cases e) (fun _=>⟨fs,h3⟩)
     ·split at h
      ·rename_i h4
       injection h with h
       exact key false _ h.symm h1 h2 (by simp) (fun _=>by simp only[List.length_cons];omega) (fun e=>by cases e)
      ·cases h
    ·cases h
   ·cases h
  ·rename_i fs hu
   split at h
   ·rename_i l' h1
    split at h
    ·rename_i h2
     injection h with h
     subst h
     obtain⟨xs,m,_,_,h3,h4,h5⟩:=DataW.trod_struct hu ht
     have:=wt ih (fuel:=m) fs.toList 0 cs l' h1 (by rw[h3,h2,Nat.zero_add]) fun f hf=>by
      obtain⟨i,hi⟩:=List.getElem?_of_mem hf
      have hi':fs[i]? =some f:=by rw[←Array.getElem?_toList];exact hi
      have hlt:i<xs.length:=by
       rw[h4]
       exact(Array.getElem?_eq_some_iff.1 hi').1
      refine⟨xs[i],?_⟩
      rw[h5 i f hi',List.getElem?_eq_getElem hlt]
     rw[List.drop_zero]at this
     exact this
    ·cases h
   ·cases h
  ·cases h
def lA (P:Program)(t:TypeId):Bool:=match P.underlying t with|some (.struct _)=>true|_=>false
theorem open_arg {n:Nat}{t:TypeId}{v:Value}{l:List Sh}{d:DataW H}{ps:List MemPlace}{r:Reach}{b0:Nat}(hl:js P n t=some l)(hval:Value.okWide P w r b0 t v)(hd:DataW.Trod enc P w base spare held t v d ps):
  ∃c,VR (Gh.top w) w c v∧(if lA P t=true then ∃ys,c= .agg ys∧IsL l ys else IsL l [c]):=by
 obtain⟨fuel,hf⟩:=hd
 obtain⟨xs,h1,h2⟩:=Mo n fuel t _ _ l hf hl
 by_cases hs:lA P t=true
 ·simp only[hs,if_true]
  obtain⟨fs,hfs⟩: ∃fs,P.underlying t=some (.struct fs):=by
   unfold lA at hs
   split at hs
   ·rename_i fs h;exact⟨fs,h⟩
   ·cases hs
  obtain⟨cs,rfl,_⟩:=okWide_struct hfs hval
  exact⟨.agg xs,⟨cs,rfl,h2⟩,xs,rfl,h1⟩
 ·simp only[hs,if_false,Bool.false_eq_true]
  have hv:v.cells.toList=[v]:=by
   cases n with
   |zero=>simp[js]at hl
   |succ n=>
    unfold js at hl
    split at hl
    ·rename_i hu
     obtain⟨_,rfl⟩:=okWide_bool hu hval
     rfl
    ·rename_i k hu
     obtain⟨_,rfl⟩:=okWide_int hu hval
     rfl
    ·rename_i hu
     obtain⟨_,rfl⟩:=okWide_string hu hval
     rfl
    ·rename_i e hu
     obtain⟨_,_,_,rfl⟩:=okWide_slice hu hval
     rfl
    ·rename_i fs hu
     exact absurd (by unfold lA;rw[hu]) hs
    ·cases hl
  rw[hv]at h2
  have hlen:=VRL_len h2
  obtain⟨c,rfl⟩:=List.length_eq_one_iff.1 hlen
  simp only[VRL]at h2
  obtain⟨v',r',e,h3,_⟩:=h2
  injection e with e _
  subst e
  exact⟨c,h3,h1⟩
theorem Qa {W W':World}(h:z6 W W'){p:MemPlace}(hp:p.block<W.heap.size):W.sameAt W' p:=by
 cases p with
 |cell b o=>exact World.cell?_of_block (w:=W) (h.2.2.2 b hp)
 |map b=>exact h.2.2.2 b hp
def zw (P:Program)(ts:List TypeId):Bool:=ts.all fun t=>P.readableRec t&&decide (t<P.types.size)
theorem AV (hl:laidOutB P=true){W W':World}(hk:z6 W W'){sp:Nat→Bool}: ∀{ts:List TypeId} {vs:List Value} {ds:List (DataW H)} {ps:List MemPlace},zw P ts=true→
  DataW.TrodAll enc P W 0 (fun _=>true) true ts vs ds ps→(∀p∈ps,p.block<W.heap.size)→(∀p∈ps,sp p.block=true)→DataW.TrodAll enc P W' 0 sp true ts vs ds ps
 |[],[],[],ps,_,h,_,_=>h
 |t::ts,v::vs,d::ds,ps,hr,h,hlt,hsp=>by
  simp only[DataW.TrodAll]at h ⊢
  obtain⟨p,q,⟨fuel,h1⟩,h2,rfl⟩:=h
  simp only[zw,List.all_cons,Bool.and_eq_true,decide_eq_true_eq]at hr
  refine⟨p,q,⟨fuel,DataW.trod_stays (kids_book hl hr.1.1) (book_sized hr.1.1) (fun h=>by cases h) ⟨hr.1.2,book_self t⟩ h1 (fun x hx=>Qa hk (hlt x (List.mem_append_left _ hx))) (fun x hx=>hsp x (List.mem_append_left _ hx))⟩,?_,rfl⟩
  exact AV hl hk (by simpa[zw]using hr.2) h2 (fun x hx=>hlt x (List.mem_append_right _ hx)) (fun x hx=>hsp x (List.mem_append_right _ hx))
 |[],_::_,_,_,_,h,_,_=>h.elim
 |[],[],_::_,_,_,h,_,_=>h.elim
 |_::_,[],_,_,_,h,_,_=>h.elim
 |_::_,_::_,[],_,_,h,_,_=>h.elim
end
theorem post_true {H:Type}{enc:TypeId×Value→H}{P:Program}{f:Func}{s:ChangeSpec}{tb:TypeId}(hl:laidOutB P=true)(hr:zw P f.params.toList=true)(hb:P.underlying tb=some .bool)(hf:f.resultTypes= #[tb])
  (hvs:s.vars=[]) {W W':World} {args:Array Value} {ds gs:List (DataW H)} {before:List MemPlace}
  (hW:DataW.Whole enc P f.params.toList s.vars false W args.toList ds gs before) (hs1:(s.fn H ds).results=[.lit (.bool true)]) (hs2:(s.fn H ds).args=ds) (hs3:(s.fn H ds).vars=[]) (hk:z6 W W'):
  s.post enc P f false true false false W args (.bool true) W':=by
 have hW':=hW
 obtain⟨p,q,hA,hV,rfl,_,_⟩:=hW
 have hlt:=fun x hx=>hW'.lt x hx
 rw[hvs]at hV
 obtain⟨rfl,rfl⟩:=trodVars_none hV
 simp only[List.append_nil]at hW' hlt
 refine P2 (pa:=p) (pv:=[]) hW' ?_ ?_ ?_ (by simp) hk ?_
 ·intro b sp hd
  simp only[List.append_nil,hs1,hf]
  exact trodAll_cons_mk (shut_bool hb _) trodAll_mk0
 ·intro sp hsp
  simp only[List.append_nil,hs2]
  exact AV hl hk hr hA hlt hsp
 ·intro sp hsp
  simp only[List.append_nil,hs3,hvs]
  rfl
 ·exact ok_one hf rfl (okWide_bool_mk hb _)
end Go.Abs.Ga
