/-
  The statement ExprChecksCardSaid, proved; part 9 of 10 of its proof.
  Expressions: nodes, trees, and a tree's nodes in order.
  Expressions: what there is to know of a kind, in the program and in the reference.
  Which expressions are valid, in plain words: node by node, with the trees of the nodes before.
  Which expressions are valid: the program's functions.
-/
import Derived.Test.YtmemoghbijcebaaGreatDoorP7
import Derived.Test.YtmemoghbijcebaaGreatDoorP4
import Derived.KernelRfl
set_option linter.all false
set_option linter.unusedSectionVars false
set_option linter.unusedVariables false
set_option linter.unusedSimpArgs false
set_option maxRecDepth 100000
namespace Go.Abs
open Go Go.Proofs
def stN (μ:Mu)(X:Int→Int→List UInt8→Int→Int→Mu→St):Except Int (Tok×Nat)→St
 | .ok q=>X q.1.kind q.1.type q.1.text (q.2:Int) 0 μ
 | .error e=>X 0 0 [] 0 e μ
def mH:Except Int (Tok×Nat)→CV
 | .ok q=> .agg [CV.int .i64 q.1.kind,CV.int .i64 q.1.type,CV.str q.1.text,CV.int .i64 (q.2:Int),CV.int .i64 0]
 | .error e=> .agg [CV.int .i64 0,CV.int .i64 0,CV.str [],CV.int .i64 0,CV.int .i64 e]
def before (whole:List UInt8):List UInt8:=bQ (bR whole)
def after (part:List UInt8):List UInt8:=jE (bR part)
def gi (whole part:List UInt8)(kind exp:Int)(e:Nat):Except Int (Tok×Nat):=
 if 30<countR (before whole)+countR (after part)then .error 7
 else if kind=2 then .ok (⟨1,kind,before whole++[46]++after part++[68]++Lib.itoa exp⟩,e)
 else if exp≠0 then .ok (⟨1,kind,before whole++[46]++after part++[69]++Lib.itoa exp⟩,e)
 else .ok (⟨1,kind,before whole++[46]++after part⟩,e)
def cJ:List UInt8:=[50,49,52,55,52,56,51,54,52,55]
def nS (whole:List UInt8)(e:Nat):Except Int (Tok×Nat):=
 if 10<whole.length then .error 28
 else if(bQ whole).length=10∧(Op.bytesLess (bQ whole) cJ||decide (bQ whole=cJ))=false then .error 28
 else .ok (⟨1,0,bQ whole⟩,e)
def gK (s:List UInt8)(e:Nat):Int:=if atC false s (e+1)=45 then -((valD 0 (bc false s e):Nat):Int)else((valD 0 (bc false s e):Nat):Int)
def lE (s whole part:List UInt8)(point:Bool)(e:Nat):Except Int (Tok×Nat):=
 if(bg false s e).2.2.2 then(if 3<(bc false s e).length then .error 7 else gi whole part (if(bg false s e).1=68 then 2 else 1) (gK s e) (bg false s e).2.2.1)
 else if point then gi whole part 1 0 e else nS whole e
def cD:List (List UInt8):=cL++[gl,eT]
def pc (s:List UInt8)(n:Nat):Bool:=decide (0<digR s n)&&cD.any (bG s (n+digR s n))
def lF (s:List UInt8)(n:Nat):Except Int (Tok×Nat):=
 if !pc s n&&decide (s[n+digR s n]? =some 46)then
  lE s ((s.drop n).take (digR s n)) ((s.drop (n+digR s n+1)).take (digR s (n+digR s n+1))) true (n+digR s n+1+digR s (n+digR s n+1))
 else lE s ((s.drop n).take (digR s n)) [] false (n+digR s n)
section
variable {μ:Mu}{s:List UInt8}
theorem MF (l:List UInt8):(jE l).length≤l.length:=by
 unfold jE
 have:=pb l.reverse
 simpa using this
theorem Lc {x:Int}(h0: -1000000000≤x)(h1:x≤1000000000):(Lib.itoa x).length≤21:=Lib.itoa_length_le x (by omega) (by omega)
theorem Sz {e:Nat}{kind exp a b c d:Int}{t be af:List UInt8}(hb:be.length≤300000)(ha:af.length≤300000)(h0: -1000000000≤exp)(h1:exp≤1000000000):
  Ik (ev E) (e:Int) kind exp be af a b t c d μ=some (kx 1 kind (if kind=2 then be++[46]++af++[68]++Lib.itoa exp else if exp≠0 then be++[46]++af++[69]++Lib.itoa exp else be++[46]++af) (e:Int) 0 μ):=by
 refine aR ?_
 have hi:=Lc h0 h1
 rw[Py,bJ (by simp;omega),aA,bJ (by simp;omega),aA,Vw h0 h1]
 simp only[ad,ao,aa,ak,am,ah,ae,aj,aA,cond_true,cond_false,Bool.not_true,Bool.not_false,av,au,aq]
 by_cases hk:kind=2
 ·have:decide (kind=2)=true:=by simp[hk]
  rw[this,cond_true,bJ (by simp;omega),aA,bJ (by simp;omega),aA,if_pos hk]
 ·have:decide (kind=2)=false:=by simp[hk]
  rw[this,cond_false,if_neg hk]
  by_cases he:exp=0
  ·have:decide (exp=0)=true:=by simp[he]
   rw[this,Bool.not_true,cond_false,if_neg (by simp[he])]
  ·have:decide (exp=0)=false:=by simp[he]
   rw[this,Bool.not_false,cond_true,if_pos he,bJ (by simp;omega),aA,bJ (by simp;omega),aA]
theorem Fy {n w e:Nat}{kind exp a b c d:Int}{t part:List UInt8}(hs:s.length≤200000)(hw:n+w≤s.length)(hp:part.length≤200000)(h0: -1000000000≤exp)(h1:exp≤1000000000):
  zU (ev E) s (n:Int) (w:Int) (e:Int) kind exp part a b t c d μ=some (stN μ kw (gi ((s.drop n).take w) part kind exp e)):=by
 refine aR ?_
 have e1:n+w-n=w:=by omega
 have hl:((s.drop n).take w).length≤200000:=by simp;omega
 have k1:=jo ((s.drop n).take w)
 have k2:=jo part
 have k3:(before ((s.drop n).take w)).length≤200001:=by have:=pb (bR ((s.drop n).take w));unfold before;omega
 have k4:(after part).length≤200001:=by have:=MF (bR part);unfold after;omega
 rw[Px,iB (by omega),fM (by omega) hw,aa,e1,OT]
 simp only[ad,ao,aa,ak,am,ah,ae,aj,aA,cond_true,cond_false,Bool.not_true,Bool.not_false,av,au,aq]
 rw[OS (by omega)]
 simp only[ad,ao,aa,ak,am,ah,ae,aj,aA,cond_true,cond_false,Bool.not_true,Bool.not_false,av,au,aq]
 rw[OT]
 simp only[ad,ao,aa,ak,am,ah,ae,aj,aA,cond_true,cond_false,Bool.not_true,Bool.not_false,av,au,aq]
 rw[Vv (by omega)]
 simp only[ad,ao,aa,ak,am,ah,ae,aj,aA,cond_true,cond_false,Bool.not_true,Bool.not_false,av,au,aq]
 rw[OU]
 simp only[ad,ao,aa,ak,am,ah,ae,aj,aA,cond_true,cond_false,Bool.not_true,Bool.not_false,av,au,aq]
 rw[OU]
 simp only[ad,ao,aa,ak,am,ah,ae,aj,aA,cond_true,cond_false,Bool.not_true,Bool.not_false,av,au,aq]
 have hB:bQ (bR ((s.drop n).take w))=before ((s.drop n).take w):=rfl
 have hA:jE (bR part)=after part:=rfl
 have c1:countR (before ((s.drop n).take w))≤200001:=by unfold countR;split<;>omega
 have c2:countR (after part)≤200001:=by unfold countR;split<;>omega
 rw[hB,hA,iB (by omega),Sz (by omega) (by omega) h0 h1,aa,EK]
 unfold gi
 by_cases h30:30<countR (before ((s.drop n).take w))+countR (after part)
 ·have:decide ((30:Int)<((countR (before ((s.drop n).take w))+countR (after part):Nat):Int))=true:=by simp;omega
  rw[this,cond_true,if_pos h30]
  rfl
 ·have:decide ((30:Int)<((countR (before ((s.drop n).take w))+countR (after part):Nat):Int))=false:=by simp;omega
  rw[this,cond_false,if_neg h30]
  by_cases hk:kind=2
  ·rw[if_pos hk,if_pos hk];rfl
  ·rw[if_neg hk,if_neg hk]
   by_cases he:exp≠0
   ·rw[if_pos he,if_pos he];rfl
   ·rw[if_neg he,if_neg he];rfl
theorem Sy {n w e:Nat}{a b c d:Int}{t:List UInt8}(hs:s.length≤200000)(hw:n+w≤s.length)(h10:w≤10):
  Ij (ev E) s (n:Int) (w:Int) (e:Int) a b t c d μ=some (stN μ ku (nS ((s.drop n).take w) e)):=by
 refine aR ?_
 have e1:n+w-n=w:=by omega
 have hl:((s.drop n).take w).length=w:=by simp;omega
 rw[Pw,iB (by omega),fM (by omega) hw,aa,e1,OS (by omega)]
 simp only[ad,ao,aa,ak,am,ah,ae,aj,aA,cond_true,cond_false,Bool.not_true,Bool.not_false,av,au,aq]
 unfold nS
 rw[if_neg (by omega)]
 have hm:([50,49,52,55,52,56,51,54,52,55]:List UInt8)=cJ:=rfl
 rw[hm]
 by_cases hT:(bQ ((s.drop n).take w)).length=10
 ·have:decide (((bQ ((s.drop n).take w)).length:Int)=10)=true:=by simp;omega
  rw[this,cond_true]
  cases hB:(Op.bytesLess (bQ ((s.drop n).take w)) cJ||decide (bQ ((s.drop n).take w)=cJ))with
  |true=>rw[if_neg (by simp)];rfl
  |false=>rw[if_pos ⟨hT,rfl⟩];rfl
 ·have:decide (((bQ ((s.drop n).take w)).length:Int)=10)=false:=by simp;omega
  rw[this,cond_false,if_neg (by simp[hT])]
  rfl
def om (whole part:List UInt8)(point has:Bool)(kind exp:Int)(e:Nat):Except Int (Tok×Nat):=if point||has then gi whole part kind exp e else nS whole e
theorem Sx {n w e p:Nat}{kind exp a b c d:Int}{t:List UInt8}{point has:Bool}(hs:s.length≤200000)(hw:n+w≤s.length)(hp:point=true→n+w+1+p≤s.length)(h0: -1000000000≤exp)(h1:exp≤1000000000):
  nk (ev E) s (n:Int) (w:Int) (e:Int) point (p:Int) kind exp has a b t c d μ=some (stN μ ja (om ((s.drop n).take w) (if point then(s.drop (n+w+1)).take p else []) point has kind exp e)):=by
 refine aR ?_
 have h38:(opt (ve (ev E) s (n:Int) (w:Int) (e:Int) point (p:Int) kind exp a b t c d μ) (kS (ev E) bw [] [(4,0)]))=some (stN μ ja (gi ((s.drop n).take w) (if point then(s.drop (n+w+1)).take p else []) kind exp e)):=by
  have:ve (ev E) s (n:Int) (w:Int) (e:Int) point (p:Int) kind exp a b t c d μ=some (stN μ mV (gi ((s.drop n).take w) (if point then(s.drop (n+w+1)).take p else []) kind exp e)):=by
   refine aR ?_
   have hfin: ∀q,kS (ev E) bw [] [(4,0)] (stN μ kw q)=some (stN μ mV q):=by
    intro q
    cases q with
    |ok q=>exact uD _ _ _ _ _ _ _
    |error e=>exact uD _ _ _ _ _ _ _
   cases point with
   |true=>
    have hp':=hp rfl
    have e1:n+w+1+p-(n+w+1)=p:=by omega
    rw[Bm,cond_true,iB (by omega),bM (by omega),iB (by omega),fM (by omega) hp',aa,e1,Fy hs hw (by simp;omega) h0 h1,aa,hfin]
    rfl
   |false=>
    rw[Bm,cond_false,Fy hs hw (by simp) h0 h1,aa,hfin]
    rfl
  rw[this,aa]
  cases gi ((s.drop n).take w) (if point then(s.drop (n+w+1)).take p else []) kind exp e with
  |ok q=>exact uC _ _ _ _ _ _ _
  |error e=>exact uC _ _ _ _ _ _ _
 rw[Pv]
 unfold om
 cases point with
 |true=>rw[Bool.not_true,cond_false,h38];rfl
 |false=>
  rw[Bool.not_false,cond_true]
  cases has with
  |true=>rw[Bool.not_true,cond_false,h38];rfl
  |false=>
   rw[Bool.not_false,cond_true]
   have hl:((s.drop n).take w).length=w:=by simp;omega
   by_cases h10:10<w
   ·have:decide ((10:Int)<(w:Int))=true:=by simp;omega
    rw[this,cond_true]
    simp only[Bool.or_self,Bool.false_eq_true,if_false,nS,hl,if_pos h10]
    rfl
   ·have:decide ((10:Int)<(w:Int))=false:=by simp;omega
    rw[this,cond_false,Sy hs hw (by omega),aa]
    simp only[Bool.or_self,Bool.false_eq_true,if_false]
    cases nS ((s.drop n).take w) e with
    |ok q=>exact uB _ _ _ _ _ _ _
    |error e=>exact uB _ _ _ _ _ _ _
theorem Ak: ∀i:Fin 256,((UInt8.ofNat i.val &&& 223=69)↔(UInt8.ofNat i.val=69∨UInt8.ofNat i.val=101))∧((UInt8.ofNat i.val &&& 223=68)↔(UInt8.ofNat i.val=68∨UInt8.ofNat i.val=100)):=by decide
theorem rl (c:UInt8):((c &&& 223=69)↔(c=69∨c=101))∧((c &&& 223=68)↔(c=68∨c=100)):=by
 have:=Ak ⟨c.toNat,c.toNat_lt⟩
 simpa using this
theorem Kj {l:List UInt8}(h: ∀b∈l,aL b=true)(hl:l.length≤9):valD 0 l<1000000000:=by
 have:=(fq l 0 h).2
 have h2:10^l.length≤10^9:=Nat.pow_le_pow_right (by omega) hl
 omega
theorem Sw {n w e p k:Nat}{a b c d:Int}{t:List UInt8}{point:Bool}(hs:s.length≤200000)(hw:n+w≤s.length)(he:e<s.length)(hk:k≤s.length)(hk1:e+1≤k):
  cE (ev E) s (n : Int) (w : Int) (e : Int) point (p : Int) 1 0 false (k : Int) a b t c d μ = some (
   if digR s k=0 then kq s (n:Int) (w:Int) (e:Int) point (p:Int) 1 0 false a b t c d μ
   else if 3<digR s k then qx 0 0 [] 0 7 μ
   else kq s (n:Int) (w:Int) ((k+digR s k:Nat):Int) point (p:Int) (if s[e]=68∨s[e]=100 then 2 else 1) (if s[k-1]? =some 45 then -((valD 0 ((s.drop k).take (digR s k)):Nat):Int)else((valD 0 ((s.drop k).take (digR s k)):Nat):Int)) true a b t c d μ):=by
 have e68: ∀c:UInt8,decide ((c.toNat:Int)=68)=decide (c=68):=fun c=>cq (k:=68) (by omega)
 have e100: ∀c:UInt8,decide ((c.toNat:Int)=100)=decide (c=100):=fun c=>cq (k:=100) (by omega)
 have e45: ∀c:UInt8,decide ((c.toNat:Int)=45)=decide (c=45):=fun c=>cq (k:=45) (by omega)
 have hm:=pZ hk
 refine aR ?_
 rw[Ps,yT hs hk]
 simp only[ad,ao,aa,ak,am,ah,ae,aj,aA,cond_true,cond_false,Bool.not_true,Bool.not_false,av,au,aq]
 by_cases h0:digR s k=0
 ·have:decide ((0:Int)<((digR s k:Nat):Int))=false:=by simp;omega
  rw[this,cond_false,if_pos h0]
 ·have:decide ((0:Int)<((digR s k:Nat):Int))=true:=by simp;omega
  rw[this,cond_true,if_neg h0]
  by_cases h3:3<digR s k
  ·have:decide ((3:Int)<((digR s k:Nat):Int))=true:=by simp;omega
   rw[this,cond_true,if_pos h3]
  ·have:decide ((3:Int)<((digR s k:Nat):Int))=false:=by simp;omega
   rw[this,cond_false,if_neg h3]
   have hk2:k-1<s.length:=by omega
   have hdig: ∀b∈(s.drop k).take (digR s k),aL b=true:=by
    intro b hb
    have:(s.drop k).take (digR s k)=(s.drop k).takeWhile aL:=by
     unfold digR
     exact(List.prefix_iff_eq_take.1 (List.takeWhile_prefix _)).symm
    rw[this]at hb
    exact iu _ b hb
   have hlen:((s.drop k).take (digR s k)).length≤9:=by simp;omega
   have hv:=Kj hdig hlen
   have h28: ∀(x:Int),zT (ev E) s (n:Int) (w:Int) (e:Int) point (p:Int) 1 x true (k:Int) (digR s k:Nat) a b t c d μ=some (kr s (n:Int) (w:Int) ((k+digR s k:Nat):Int) point (p:Int) (if s[e]=68∨s[e]=100 then 2 else 1) x true a b t c d μ):=by
    intro x
    refine aR ?_
    rw[Pu,cl he,aa,aa,e68,e100,iB (by omega)]
    by_cases h1:s[e]=68
    ·have:decide (s[e]=68)=true:=by simp[h1]
     rw[this,cond_true,if_pos (Or.inl h1)]
    ·have:decide (s[e]=68)=false:=by simp[h1]
     rw[this,cond_false]
     by_cases h2:s[e]=100
     ·have:decide (s[e]=100)=true:=by simp[h2]
      rw[this,cond_true,if_pos (Or.inr h2)]
     ·have:decide (s[e]=100)=false:=by simp[h2]
      rw[this,cond_false,if_neg (by simp[h1,h2])]
   have h24:Ii (ev E) s (n:Int) (w:Int) (e:Int) point (p:Int) 1 (k:Int) (digR s k:Nat) a b t c d μ=some (qy s (n:Int) (w:Int) ((k+digR s k:Nat):Int) point (p:Int) (if s[e]=68∨s[e]=100 then 2 else 1) (if s[k-1]? =some 45 then -((valD 0 ((s.drop k).take (digR s k)):Nat):Int)else((valD 0 ((s.drop k).take (digR s k)):Nat):Int)) true a b t c d μ):=by
    refine aR ?_
    have e1:k+digR s k-k=digR s k:=by omega
    rw[Pt,iB (by omega),fM (by omega) hm,aa,e1,Vu hlen hdig]
    simp only[ad,ao,aa,ak,am,ah,ae,aj,aA,cond_true,cond_false,Bool.not_true,Bool.not_false,av,au,aq]
    rw[To (by omega) (by omega),cl hk2,aa,e45,List.getElem?_eq_getElem hk2]
    by_cases h45:s[k-1]=45
    ·have:decide (s[k-1]=45)=true:=by simp[h45]
     have w1:IntKind.wrap .i64 (0-((valD 0 ((s.drop k).take (digR s k)):Nat):Int))= -((valD 0 ((s.drop k).take (digR s k)):Nat):Int):=by rw[bB (by omega) (by omega)];omega
     rw[this,cond_true,w1,h28,aa,uz,if_pos (show (some s[k-1]:Option UInt8)=some 45 by rw[h45])]
    ·have:decide (s[k-1]=45)=false:=by simp[h45]
     rw[this,cond_false,h28,aa,uz,if_neg (show ¬(some s[k-1]:Option UInt8)=some 45 by simp[h45])]
   rw[h24,aa,EJ]
theorem Fx {n w e p:Nat}{a b c d:Int}{t:List UInt8}{word point:Bool}(hs:s.length≤200000)(hw:n+w≤s.length)(he:e≤s.length)(hp:point=true→n+w+1+p≤s.length)(hword:word=true→s[e]? =some 46):
  nj (ev E) s (n:Int) (w:Int) (e:Int) word point (p:Int) a b t c d μ=some (stN μ fR (lE s ((s.drop n).take w) (if point then(s.drop (n+w+1)).take p else []) point e)):=by
 have e69: ∀c:UInt8,decide ((c.toNat:Int)=69)=decide (c=69):=fun c=>cq (k:=69) (by omega)
 have e101: ∀c:UInt8,decide ((c.toNat:Int)=101)=decide (c=101):=fun c=>cq (k:=101) (by omega)
 have e68: ∀c:UInt8,decide ((c.toNat:Int)=68)=decide (c=68):=fun c=>cq (k:=68) (by omega)
 have e100: ∀c:UInt8,decide ((c.toNat:Int)=100)=decide (c=100):=fun c=>cq (k:=100) (by omega)
 have e43: ∀c:UInt8,decide ((c.toNat:Int)=43)=decide (c=43):=fun c=>cq (k:=43) (by omega)
 have e45: ∀c:UInt8,decide ((c.toNat:Int)=45)=decide (c=45):=fun c=>cq (k:=45) (by omega)
 obtain⟨whole,hwhole⟩: ∃x,x=(s.drop n).take w:=⟨_,rfl⟩
 obtain⟨part,hpart⟩: ∃x,x=(if point then(s.drop (n+w+1)).take p else []):=⟨_,rfl⟩
 have h31: ∀{kind exp:Int} {has:Bool} {e:Nat},-1000000000≤exp→exp≤1000000000→(opt (nk (ev E) s (n:Int) (w:Int) (e:Int) point (p:Int) kind exp has a b t c d μ) (kS (ev E) bw [] [(4,0)]))=some (stN μ fR (om whole part point has kind exp e)):=by
  intro kind exp has e h0 h1
  rw[Sx hs hw hp h0 h1,aa,hwhole,hpart]
  cases om ((s.drop n).take w) (if point then(s.drop (n+w+1)).take p else []) point has kind exp e with
  |ok q=>exact uA _ _ _ _ _ _ _
  |error e=>exact uA _ _ _ _ _ _ _
 have hno: ∀{kind exp:Int},om whole part point false 1 0 e=if point then gi whole part 1 0 e else nS whole e:=by
  intro kind exp
  unfold om
  rw[Bool.or_false]
 rw[←hwhole,←hpart]
 refine aR ?_
 rw[Pr,h31 (by omega) (by omega),hno (kind:=0) (exp:=0)]
 unfold lE
 cases word with
 |true=>
  have hc:atC false s e=46:=by rw[dA,hword rfl];rfl
  have hx:(bg false s e).2.2.2=false:=by
   have:dw false s e=14:=by unfold dw;rw[hc];rfl
   unfold bg
   rw[this];rfl
  rw[Bool.not_true,cond_false,hx]
  rfl
 |false=>
  rw[Bool.not_false,cond_true]
  by_cases hlt:e<s.length
  ·have hg:s[e]? =some s[e]:=List.getElem?_eq_getElem hlt
   have hc:atC false s e=s[e]:=by rw[dA,hg];rfl
   have hE:atE false s e=e+1:=by rw[fA,if_pos hlt]
   rw[cj hlt,cond_true,cl hlt]
   simp only[aa,e69,e101,e68,e100]
   by_cases hlet:s[e]=69∨s[e]=101∨s[e]=68∨s[e]=100
   ·
    have hL:dw false s e=69∨dw false s e=68:=by
     unfold dw
     rw[hc]
     have:=rl s[e]
     rcases hlet with h|h|h|h
     ·exact Or.inl (this.1.2 (Or.inl h))
     ·exact Or.inl (this.1.2 (Or.inr h))
     ·exact Or.inr (this.2.2 (Or.inl h))
     ·exact Or.inr (this.2.2 (Or.inr h))
    have hC2:atC false s (e+1)=(s[e+1]?).getD 0:=rfl
    have hst:expStart false s e≤s.length:=by
     unfold expStart
     rw[hE,fA]
     split<;>(try split)<;>omega
    have hst1:e+1≤expStart false s e:=by
     unfold expStart
     rw[hE,fA]
     split<;>(try split)<;>omega
    have hdg:bc false s e=(s.drop (expStart false s e)).take (digR s (expStart false s e)):=(no).1
    have hend:runE false aL s (expStart false s e)=expStart false s e+digR s (expStart false s e):=(no).2
    have hok:(bg false s e)=(dw false s e,dH false s e++bc false s e,runE false aL s (expStart false s e),!decide (bc false s e=[])):=by unfold bg;rw[if_pos hL]
    have hdl:(bc false s e).length=digR s (expStart false s e):=by
     rw[hdg]
     have:=pZ hst
     simp;omega
    have h20:(opt (cE (ev E) s (n:Int) (w:Int) (e:Int) point (p:Int) 1 0 false (expStart false s e:Nat) a b t c d μ) (kS (ev E) bw [.seq (cA 108 [1,1,1,1,1,1,1,1,1,1])] [(4,0)]))=
      some (stN μ fR (if(bg false s e).2.2.2 then(if 3<(bc false s e).length then .error 7 else gi whole part (if(bg false s e).1=68 then 2 else 1) (gK s e) (bg false s e).2.2.1)else if point then gi whole part 1 0 e else nS whole e)):=by
     rw[Sw hs hw hlt hst hst1,aa,hok,hdl,hend]
     simp only
     by_cases h0:digR s (expStart false s e)=0
     ·have:bc false s e=[]:=List.eq_nil_of_length_eq_zero (by omega)
      rw[if_pos h0,this,uy,h31 (by omega) (by omega),hno (kind:=0) (exp:=0)]
      rfl
     ·have:bc false s e≠[]:=by intro h;rw[h]at hdl;simp at hdl;omega
      have h1:(!decide (bc false s e=[]))=true:=by simp[this]
      rw[if_neg h0,h1,if_pos rfl]
      by_cases h3:3<digR s (expStart false s e)
      ·rw[if_pos h3,if_pos h3,EI]
       rfl
      ·have hlen:(bc false s e).length≤9:=by omega
       have hdig: ∀b∈bc false s e,aL b=true:=og
       have hv:=Kj hdig hlen
       rw[hdg]at hv
       have hsign:(if s[expStart false s e-1]? =some 45 then -((valD 0 ((s.drop (expStart false s e)).take (digR s (expStart false s e))):Nat):Int)else((valD 0 ((s.drop (expStart false s e)).take (digR s (expStart false s e))):Nat):Int))=gK s e:=by
        unfold gK
        rw[hdg]
        have hiff:s[expStart false s e-1]? =some 45↔atC false s (e+1)=45:=by
         have hstD:expStart false s e=if(s[e+1]?).getD 0=43∨(s[e+1]?).getD 0=45 then atE false s (e+1)else e+1:=by unfold expStart;rw[hE,hC2]
         rw[hC2,hstD]
         by_cases hsg:(s[e+1]?).getD 0=43∨(s[e+1]?).getD 0=45
         ·have h2:e+1<s.length:=by
           rcases Nat.lt_or_ge (e+1) s.length with h|h
           ·exact h
           ·rw[List.getElem?_eq_none h]at hsg
            rcases hsg with h|h<;>simp at h
          rw[if_pos hsg,fA,if_pos h2]
          have:e+1+1-1=e+1:=by omega
          rw[this,List.getElem?_eq_getElem h2]
          simp
         ·rw[if_neg hsg]
          have:e+1-1=e:=by omega
          rw[this,hg]
          constructor
          ·intro h
           injection h with h
           rw[h]at hlet
           exact absurd hlet (by decide)
          ·intro h
           exact absurd (Or.inr h) hsg
        by_cases h:s[expStart false s e-1]? =some 45
        ·rw[if_pos h,if_pos (hiff.1 h)]
        ·rw[if_neg h,if_neg (fun hh=>h (hiff.2 hh))]
       have hkind:(if s[e]=68∨s[e]=100 then(2:Int)else 1)=if dw false s e=68 then 2 else 1:=by
        have hL2:dw false s e=s[e] &&& 223:=by unfold dw;rw[hc]
        rw[hL2]
        have:=(rl s[e]).2
        by_cases h:s[e]=68∨s[e]=100
        ·rw[if_pos h,if_pos (this.2 h)]
        ·rw[if_neg h,if_neg (fun hh=>h (this.1 hh))]
       have hb: -1000000000≤gK s e∧gK s e≤1000000000:=by
        unfold gK
        rw[hdg]
        split<;>omega
       rw[if_neg h3,if_neg h3,hsign,hkind,uy,h31 hb.1 hb.2]
       unfold om
       rw[Bool.or_true,if_pos rfl]
    have hA : cond (decide (IntKind.wrap .i64 ((e : Int) + 1) < (s.length : Int))) (
      opt (bu s (IntKind.wrap .i64 ((e:Int)+1))) fun y25=>
      cond (decide (y25 = 43)) (
      opt (cE (ev E) s (n:Int) (w:Int) (e:Int) point (p:Int) 1 0 false (IntKind.wrap .i64 (IntKind.wrap .i64 ((e:Int)+1)+1)) a b t c d μ) (kS (ev E) bw [.seq (cA 108 [1,1,1,1,1,1,1,1,1,1])] [(4,0)])) (
      opt (bu s (IntKind.wrap .i64 ((e:Int)+1))) fun y99=>
      cond (decide (y99 = 45)) (
      opt (cE (ev E) s (n:Int) (w:Int) (e:Int) point (p:Int) 1 0 false (IntKind.wrap .i64 (IntKind.wrap .i64 ((e:Int)+1)+1)) a b t c d μ) (kS (ev E) bw [.seq (cA 108 [1,1,1,1,1,1,1,1,1,1])] [(4,0)])) (
      opt (cE (ev E) s (n:Int) (w:Int) (e:Int) point (p:Int) 1 0 false (IntKind.wrap .i64 ((e:Int)+1)) a b t c d μ) (kS (ev E) bw [.seq (cA 108 [1,1,1,1,1,1,1,1,1,1])] [(4,0)])))) (
      opt (cE (ev E) s (n:Int) (w:Int) (e:Int) point (p:Int) 1 0 false (IntKind.wrap .i64 ((e:Int)+1)) a b t c d μ) (kS (ev E) bw [.seq (cA 108 [1,1,1,1,1,1,1,1,1,1])] [(4,0)]))=
      some (stN μ fR (if(bg false s e).2.2.2 then(if 3<(bc false s e).length then .error 7 else gi whole part (if(bg false s e).1=68 then 2 else 1) (gK s e) (bg false s e).2.2.1)else if point then gi whole part 1 0 e else nS whole e)):=by
     have hstD:expStart false s e=if(s[e+1]?).getD 0=43∨(s[e+1]?).getD 0=45 then atE false s (e+1)else e+1:=by unfold expStart;rw[hE,hC2]
     rw[bM (by omega),bM (by omega)]
     by_cases h2:e+1<s.length
     ·have hg2:(s[e+1]?).getD 0=s[e+1]:=by rw[List.getElem?_eq_getElem h2];rfl
      rw[hg2,fA,if_pos h2]at hstD
      rw[cj h2,cond_true,cl h2]
      simp only[aa]
      by_cases h43:s[e+1]=43
      ·have:decide (s[e+1]=43)=true:=by simp[h43]
       rw[if_pos (Or.inl h43)]at hstD
       rw[hstD]at h20
       rw[this,cond_true,h20]
      ·have:decide (s[e+1]=43)=false:=by simp[h43]
       rw[this,cond_false]
       by_cases h45:s[e+1]=45
       ·have:decide (s[e+1]=45)=true:=by simp[h45]
        rw[if_pos (Or.inr h45)]at hstD
        rw[hstD]at h20
        rw[this,cond_true,h20]
       ·have:decide (s[e+1]=45)=false:=by simp[h45]
        rw[if_neg (by simp[h43,h45])]at hstD
        rw[hstD]at h20
        rw[this,cond_false,h20]
     ·have hg2:(s[e+1]?).getD 0=0:=by rw[List.getElem?_eq_none (by omega)];rfl
      rw[hg2,if_neg (by decide)]at hstD
      rw[hstD]at h20
      rw[cw (by omega),cond_false,h20]
    simp only[e43,e45]
    rw[hA]
    rcases hlet with h|h|h|h
    ·rw[h];rfl
    ·rw[h];rfl
    ·rw[h];rfl
    ·rw[h];rfl
   ·have hn1:s[e]≠69:=fun h=>hlet (Or.inl h)
    have hn2:s[e]≠101:=fun h=>hlet (Or.inr (Or.inl h))
    have hn3:s[e]≠68:=fun h=>hlet (Or.inr (Or.inr (Or.inl h)))
    have hn4:s[e]≠100:=fun h=>hlet (Or.inr (Or.inr (Or.inr h)))
    have d1:decide (s[e]=69)=false:=by simp[hn1]
    have d2:decide (s[e]=101)=false:=by simp[hn2]
    have d3:decide (s[e]=68)=false:=by simp[hn3]
    have d4:decide (s[e]=100)=false:=by simp[hn4]
    have hx:(bg false s e).2.2.2=false:=by
     have hL2:dw false s e=s[e] &&& 223:=by unfold dw;rw[hc]
     unfold bg
     rw[hL2,if_neg]
     intro h
     have:=rl s[e]
     rcases h with h|h
     ·rcases this.1.1 h with h|h
      ·exact hn1 h
      ·exact hn2 h
     ·rcases this.2.1 h with h|h
      ·exact hn3 h
      ·exact hn4 h
    rw[d1,d2,d3,d4,hx]
    rfl
  ·have hx:(bg false s e).2.2.2=false:=by
    have hc:atC false s e=0:=by rw[dA,List.getElem?_eq_none (by omega)];rfl
    have:dw false s e=0:=by unfold dw;rw[hc];rfl
    unfold bg
    rw[this];rfl
   rw[cw (by omega),cond_false,hx]
   rfl
theorem OM:(ev E).call 109 [] μ=some (.ret (LV.osl (bN cL)) μ):=aJ (by rw[W9];rfl)
theorem MI: ∀w∈cD,w.length≤200000:=by decide
theorem V4 {n w i:Nat}{a b c d:Int}{t:List UInt8}(hs:s.length≤200000)(hi:i≤s.length): ∀(k j:Nat) (word:Bool),j+k=cD.length→
  sx (ev E) s (n:Int) (w:Int) (i:Int) word (bN cD) (cD.length:Int) (j:Int) a b t c d μ=some (ti s (n:Int) (w:Int) (i:Int) (word||(decide (0<w)&&(cD.drop j).any (bG s i))) a b t c d μ):=by
 intro k
 induction k with
 |zero=>
  intro j word hj
  refine aW ?_
  rw[Em,cw (by omega),cond_false,List.drop_eq_nil_of_le (by omega)]
  simp
 |succ k ih=>
  intro j word hj
  have hlt:j<cD.length:=by omega
  have hj2:cD.length≤13:=by decide
  have hg:bm (bN cD) (j:Int)=some (CV.str cD[j]):=by rw[fD];simp[bN,hlt]
  refine aW ?_
  rw[Em,cj hlt,cond_true,hg,aa,j9,aa,bM (by omega),List.drop_eq_getElem_cons hlt,List.any_cons]
  cases word with
  |true=>rw[cond_true,ih (j+1) true (by omega)];rfl
  |false=>
   rw[cond_false]
   by_cases hw:0<w
   ·have:decide ((0:Int)<(w:Int))=true:=by simp;omega
    rw[this,cond_true,nU hs hi (MI _ (List.getElem_mem hlt))]
    simp only[ad,ao,aa,ak,am,ah,ae,aj,aA,cond_true,cond_false,Bool.not_true,Bool.not_false,av,au,aq]
    rw[ih (j+1) _ (by omega)]
    have:decide (0<w)=true:=by simp[hw]
    rw[this]
    simp
   ·have:decide ((0:Int)<(w:Int))=false:=by simp;omega
    have h2:decide (0<w)=false:=by simp;omega
    rw[this,cond_false,ih (j+1) false (by omega),h2]
    rfl
theorem md: ∀w∈cD,OF w:=by
 intro w hw
 simp only[cD,cL,gl,eT,List.cons_append,List.nil_append,List.mem_cons,List.not_mem_nil,or_false]at hw
 rcases hw with rfl|rfl|rfl|rfl|rfl|rfl|rfl|rfl|rfl|rfl|rfl|rfl|rfl
 ·exact⟨[76,84],rfl,by decide⟩
 ·exact⟨[76,69],rfl,by decide⟩
 ·exact⟨[69,81],rfl,by decide⟩
 ·exact⟨[78,69],rfl,by decide⟩
 ·exact⟨[71,69],rfl,by decide⟩
 ·exact⟨[71,84],rfl,by decide⟩
 ·exact⟨[78,79,84],rfl,by decide⟩
 ·exact⟨[65,78,68],rfl,by decide⟩
 ·exact⟨[79,82],rfl,by decide⟩
 ·exact⟨[69,81,86],rfl,by decide⟩
 ·exact⟨[78,69,81,86],rfl,by decide⟩
 ·exact⟨[84,82,85,69],rfl,by decide⟩
 ·exact⟨[70,65,76,83,69],rfl,by decide⟩
theorem Ts {n:Nat}(h:cD.any (bG s n)=true):s[n]? =some 46:=by
 rw[List.any_eq_true]at h
 obtain⟨w,hw,hb⟩:=h
 have:=(jJ (md w hw) hb).1
 rw[dA]at this
 cases hg:s[n]? with
 |none=>rw[hg]at this;simp at this
 |some c=>rw[hg]at this;simp at this;rw[this]
theorem Vg (hs:s.length≤200000){n:Nat}(hn:n≤s.length):(ev E).call 108 [LV.str s,LV.int .i64 (n:Int)] μ=some (.ret (.cv (mH (lF s n))) μ):=by
 have e46: ∀c:UInt8,decide ((c.toNat:Int)=46)=decide (c=46):=fun c=>cq (k:=46) (by omega)
 have hw:=pZ hn
 have hap:dQ 1 (bN cL) [CV.str ([46,84,82,85,69,46]:List UInt8),CV.str ([46,70,65,76,83,69,46]:List UInt8)]=true:=by decide
 have hwr:bN cL++[CV.str ([46,84,82,85,69,46]:List UInt8),CV.str ([46,70,65,76,83,69,46]:List UInt8)]=bN cD:=rfl
 have hwl:(bN cD).length=cD.length:=by simp[bN]
 refine aJ ?_
 rw[W8,yT hs hn]
 simp only[ad,ao,aa,ak,am,ah,ae,aj,aA,cond_true,cond_false,Bool.not_true,Bool.not_false,av,au,aq]
 rw[OM]
 simp only[ad,ao,aa,ak,am,ah,ae,aj,aA,cond_true,cond_false,Bool.not_true,Bool.not_false,av,au,aq]
 have hl:=V4 (μ:=μ) (n:=n) (w:=digR s n) (i:=n+digR s n) (a:=0) (b:=0) (c:=0) (d:=0) (t:=[]) hs hw cD.length 0 false (by omega)
 have e0:((0:Nat):Int)=0:=rfl
 rw[e0,List.drop_zero,Bool.false_or]at hl
 rw[hap,aA,hwr,hwl,iB (by omega),hl,aa,Hk]
 have hW:(decide (0<digR s n)&&cD.any (bG s (n+digR s n)))=pc s n:=rfl
 rw[hW]
 have hfin: ∀q:Except Int (Tok×Nat),kB (ev E) 108 bw [] (stN μ fR q)=some (.ret (.cv (mH q)) μ):=by
  intro q
  cases q with
  |ok q=>exact ux _ _ _ _ _ _ _
  |error e=>exact ux _ _ _ _ _ _ _
 have hword: ∀{x:Bool},pc s n=x→x=true→s[n+digR s n]? =some 46:=by
  intro x h1 h2
  rw[h2]at h1
  unfold pc at h1
  rw[Bool.and_eq_true]at h1
  exact Ts h1.2
 have hno: ∀{x:Bool},pc s n=x→(opt (nj (ev E) s (n:Int) (digR s n:Nat) ((n+digR s n:Nat):Int) x false 0 0 0 [] 0 0 μ) (kB (ev E) 108 bw []))=some (.ret (.cv (mH (lE s ((s.drop n).take (digR s n)) [] false (n+digR s n)))) μ):=by
  intro x hx
  have:=Fx (μ:=μ) (n:=n) (w:=digR s n) (e:=n+digR s n) (p:=0) (a:=0) (b:=0) (c:=0) (d:=0) (t:=[]) (word:=x) (point:=false) hs hw hw (by intro h;cases h) (hword hx)
  rw[e0]at this
  rw[this,aa,hfin]
  rfl
 unfold lF
 cases hx:pc s n with
 |true=>rw[Bool.not_true,cond_false,hno hx];rfl
 |false=>
  rw[Bool.not_false,cond_true]
  by_cases hlt:n+digR s n<s.length
  ·rw[cj hlt,cond_true,cl hlt]
   simp only[aa,e46]
   rw[List.getElem?_eq_getElem hlt]
   by_cases h46:s[n+digR s n]=46
   ·have:decide (s[n+digR s n]=46)=true:=by simp[h46]
    have hp:=pZ (s:=s) (n:=n+digR s n+1) hlt
    rw[this,cond_true,bM (by omega),yT hs hlt]
    simp only[ad,ao,aa,ak,am,ah,ae,aj,aA,cond_true,cond_false,Bool.not_true,Bool.not_false,av,au,aq]
    rw[iB (n:=n+digR s n+1) (m:=digR s (n+digR s n+1)) (by omega),Fx hs hw hp (fun _=>hp) (by intro h;cases h),aa,hfin]
    have h2:(true&&decide ((some s[n+digR s n]:Option UInt8)=some 46))=true:=by simp[h46]
    rw[h2,if_pos rfl]
    rfl
   ·have:decide (s[n+digR s n]=46)=false:=by simp[h46]
    have h2:(true&&decide ((some s[n+digR s n]:Option UInt8)=some 46))=false:=by simp[h46]
    rw[this,cond_false,hno hx,h2]
    rfl
  ·have h2:(true&&decide (s[n+digR s n]? =some 46))=false:=by rw[List.getElem?_eq_none (by omega)];rfl
   rw[cw (by omega),cond_false,hno hx,h2]
   rfl
end
end Go.Abs
set_option linter.unusedVariables false
set_option linter.unusedSimpArgs false
set_option maxRecDepth 100000
namespace Go.Abs
open Go Go.Proofs
section
variable {s:List UInt8}{n:Nat}
theorem jI:cD=cL++[gl,eT]:=rfl
theorem Ny (h:atC false s n=46):cD.any (bG s n)=(cI false s n).2.2:=by
 have hd:(cI false s n).2.2=m9 false s n:=by unfold cI;rw[if_pos h]
 rw[hd]
 apply Bool.eq_iff_iff.2
 constructor
 ·intro ha
  rw[List.any_eq_true]at ha
  obtain⟨w,hw,hb⟩:=ha
  obtain⟨_,h2,h3,_⟩:=jJ (md w hw) hb
  unfold m9
  rw[h2,h3]
  rw[jI,List.mem_append]at hw
  rcases hw with hw|hw
  ·have:cL.contains w=true:=List.contains_iff_mem.2 hw
   rw[this];rfl
  ·simp only[List.mem_cons,List.not_mem_nil,or_false]at hw
   rcases hw with rfl|rfl
   ·simp
   ·simp
 ·intro ha
  unfold m9 at ha
  simp only[Bool.and_eq_true,Bool.or_eq_true,decide_eq_true_eq]at ha
  obtain⟨h3,h4⟩:=ha
  have hm:dG false s n∈cD:=by
   rw[jI,List.mem_append]
   rcases h4 with(h4|h4)|h4
   ·exact Or.inl (List.contains_iff_mem.1 h4)
   ·rw[h4];exact Or.inr (by simp)
   ·rw[h4];exact Or.inr (by simp)
  rw[List.any_eq_true]
  exact⟨_,hm,BO h rfl h3⟩
theorem rW: ∀(l:List UInt8),l≠[]→bQ l=bR (l.dropWhile (· == 48))
 |[],h=>absurd rfl h
 |[c],_=>by
  unfold bQ bR
  by_cases hc:c=48
  ·simp[hc]
  ·simp[hc]
 |c::d::r,_=>by
  unfold bQ
  by_cases hc:c=48
  ·have:(c::d::r).dropWhile (· ==(48:UInt8))=(d::r).dropWhile (· == 48):=by
    rw[List.dropWhile_cons,hc];rfl
   rw[if_pos hc,rW (d::r) (by simp),this]
  ·rw[if_neg hc,List.dropWhile_cons]
   simp[hc,bR]
theorem AW (l:List UInt8):before l=bR (dU l):=by
 unfold before dU Lib.trimLeftB
 by_cases h:l=[]
 ·subst h;rfl
 ·have:bR l=l:=by unfold bR;rw[if_neg h]
  rw[this]
  exact rW l h
theorem Mp (l:List UInt8):(bR l).reverse=bR l.reverse:=by
 unfold bR
 by_cases h:l=[]
 ·subst h;rfl
 ·rw[if_neg h,if_neg (by simpa using h)]
theorem C1 (l:List UInt8):after l=bR (dV l):=by
 unfold after dV Lib.trimRightB jE
 by_cases h:l=[]
 ·subst h;rfl
 ·have:bR l=l:=by unfold bR;rw[if_neg h]
  rw[this,rW l.reverse (by simpa using h),Mp]
theorem yu (l:List UInt8):countR (bR (dU l))=(dU l).length:=by
 unfold countR bR
 by_cases h:dU l=[]
 ·rw[if_pos h,if_pos rfl,h];rfl
 ·rw[if_neg h,if_neg]
  intro h2
  unfold dU Lib.trimLeftB at h2
  have:=List.head_dropWhile_not (· ==(48:UInt8)) (l:=l) (by rw[h2];simp)
  simp only[h2]at this
  simp at this
theorem vU (l:List UInt8):countR (bR (dV l))=(dV l).length:=by
 unfold countR bR
 by_cases h:dV l=[]
 ·rw[if_pos h,if_pos rfl,h];rfl
 ·rw[if_neg h,if_neg]
  intro h2
  unfold dV Lib.trimRightB at h2
  have h3:l.reverse.dropWhile (· ==(48:UInt8))=[48]:=by
   have:=congrArg List.reverse h2
   simpa using this
  have:=List.head_dropWhile_not (· ==(48:UInt8)) (l:=l.reverse) (by rw[h3];simp)
  simp only[h3]at this
  simp at this
theorem nV: ∀(a b:List UInt8),a.length=b.length→(∀x∈a,aL x=true)→(∀x∈b,aL x=true)→Op.bytesLess a b=true→valD 0 a<valD 0 b
 |[],[],_,_,_,h=>by simp[Op.bytesLess]at h
 |[],_::_,hl,_,_,_=>by simp at hl
 |_::_,[],hl,_,_,_=>by simp at hl
 |x::a,y::b,hl,ha,hb,h=>by
  simp only[List.length_cons,Nat.add_right_cancel_iff]at hl
  have hx:=dJ.1 (ha x List.mem_cons_self)
  have hy:=dJ.1 (hb y List.mem_cons_self)
  have ha': ∀x∈a,aL x=true:=fun z hz=>ha z (List.mem_cons_of_mem _ hz)
  have hb': ∀x∈b,aL x=true:=fun z hz=>hb z (List.mem_cons_of_mem _ hz)
  rw[dL,dL,vL a,vL b,hl]
  have h1:=(fq a 0 ha').2
  rw[hl]at h1
  simp only[Op.bytesLess,Bool.or_eq_true,Bool.and_eq_true,decide_eq_true_eq,beq_iff_eq]at h
  rcases h with h|⟨h,h2⟩
  ·have hlt:x.toNat<y.toNat:=UInt8.lt_iff_toNat_lt.1 h
   have h3:(0*10+(x.toNat-48)+1)*10^b.length≤(0*10+(y.toNat-48))*10^b.length:=Nat.mul_le_mul_right _ (by omega)
   rw[Nat.add_mul]at h3
   omega
  ·subst h
   have:=nV a b hl ha' hb' h2
   omega
theorem ry: ∀(a b:List UInt8),a.length=b.length→Op.bytesLess a b=true∨a=b∨Op.bytesLess b a=true
 |[],[],_=>Or.inr (Or.inl rfl)
 |[],_::_,hl=>by simp at hl
 |_::_,[],hl=>by simp at hl
 |x::a,y::b,hl=>by
  simp only[List.length_cons,Nat.add_right_cancel_iff]at hl
  simp only[Op.bytesLess,Bool.or_eq_true,Bool.and_eq_true,decide_eq_true_eq,beq_iff_eq,List.cons.injEq]
  by_cases h1:x<y
  ·exact Or.inl (Or.inl h1)
  ·by_cases h2:y<x
   ·exact Or.inr (Or.inr (Or.inl h2))
   ·have:x=y:=by
     apply UInt8.toNat.inj
     rw[UInt8.lt_iff_toNat_lt]at h1 h2
     omega
    subst this
    rcases ry a b hl with h|h|h
    ·exact Or.inl (Or.inr ⟨rfl,h⟩)
    ·exact Or.inr (Or.inl ⟨rfl,h⟩)
    ·exact Or.inr (Or.inr (Or.inr ⟨rfl,h⟩))
theorem lD:valD 0 cJ=2147483647:=by decide
theorem rE: ∀x∈cJ,aL x=true:=by decide
theorem Vd {w:List UInt8}(hd: ∀b∈w,aL b=true)(h0:w≠[])(e:Nat):nS w e=(match cX w with| .ok t=> .ok (t,e)| .error x=> .error x):=by
 unfold nS cX
 by_cases h10:10<w.length
 ·rw[if_pos h10,if_pos (Or.inl h10)]
 ·rw[if_neg h10]
  have ha:=jB hd h0 (by omega)
  have hN:dh w=(valD 0 w:Nat):=by unfold dh;rw[ha]
  have hK:lO w=true:=by unfold lO;rw[ha]
  have hT:=u6 w
  have hTd: ∀b∈bQ w,aL b=true:=fun b hb=>hd b (u5 w b hb)
  have key:((bQ w).length=10∧(Op.bytesLess (bQ w) cJ||decide (bQ w=cJ))=false)↔2147483647<valD 0 w:=by
   by_cases hl:(bQ w).length=10
   ·have hlm:(bQ w).length=cJ.length:=hl
    constructor
    ·rintro⟨_,h2⟩
     rw[Bool.or_eq_false_iff]at h2
     rcases ry (bQ w) cJ hlm with h|h|h
     ·rw[h]at h2;exact absurd h2.1 (by simp)
     ·rw[h]at h2;exact absurd h2.2 (by simp)
     ·have:=nV _ _ hlm.symm rE hTd h
      rw[lD,hT]at this
      exact this
    ·intro h
     refine⟨hl,?_⟩
     rw[Bool.or_eq_false_iff]
     constructor
     ·cases hb:Op.bytesLess (bQ w) cJ with
      |false=>rfl
      |true=>
       have:=nV _ _ hlm hTd rE hb
       rw[lD,hT]at this
       omega
     ·simp only[decide_eq_false_iff_not]
      intro hb
      rw[hb,lD]at hT
      omega
   ·constructor
    ·rintro⟨h,_⟩;exact absurd h hl
    ·intro h
     exfalso
     have h1:=(fq (bQ w) 0 hTd).2
     have h2:=pb w
     have h3:(10:Nat)^(bQ w).length≤10^9:=Nat.pow_le_pow_right (by omega) (by omega)
     rw[hT]at h1
     omega
  by_cases hm:2147483647<valD 0 w
  ·rw[if_pos (key.2 hm),if_pos (Or.inr (Or.inr (by rw[hN];omega)))]
  ·rw[if_neg (fun h=>hm (key.1 h)),if_neg (by rw[hN,hK];simp;omega),hN,Q5 hd h0]
theorem OG {x:Int}:Lib.itoa x=[48]↔x=0:=by
 constructor
 ·intro h
  by_cases h0:0≤x
  ·obtain⟨m,rfl⟩: ∃m:Nat,x=(m:Int):=⟨x.toNat,by omega⟩
   rw[nT]at h
   by_cases h9:m<10
   ·rw[Lib.decDigits_one h9]at h
    injection h with h _
    have:=congrArg UInt8.toNat h
    rw[UInt8.toNat_ofNat_of_lt' (by show 48+m<256;omega)]at this
    have h48:(48:UInt8).toNat=48:=rfl
    omega
   ·have hl:=congrArg List.length h
    rw[Lib.decDigits,dif_neg h9]at hl
    have:=Lib.nDigits_pos (m / 10)
    rw[List.length_append,Lib.decDigits_length]at hl
    simp at hl
    omega
  ·obtain⟨m,rfl⟩: ∃m:Nat,x= -(m:Int):=⟨(-x).toNat,by omega⟩
   rw[D0 (by omega)]at h
   injection h with h _
   exact absurd h (by decide)
 ·intro h
  subst h
  have:(0:Int)=((0:Nat):Int):=rfl
  rw[this,nT,Lib.decDigits_one (by omega)]
  rfl
theorem wv {D:List UInt8}(hd: ∀b∈D,aL b=true):Lib.trimPrefix D [45]=D∧Lib.trimPrefix ([45]++D) [45]=D:=by
 constructor
 ·cases D with
  |nil=>rfl
  |cons c r=>
   have:c≠45:=by rintro rfl;exact absurd (hd _ List.mem_cons_self) (by decide)
   have h2:(45 == c)=false:=by simpa using fun h:45=c=>this h.symm
   simp[Lib.trimPrefix,Lib.hasPrefix,List.isPrefixOf,h2]
 ·simp[Lib.trimPrefix,Lib.hasPrefix,List.isPrefixOf]
theorem P7 {whole part digits:List UInt8}{letter:UInt8}{e:Nat}:gi whole part 1 0 e=gt whole part digits letter false e:=by
 unfold gi gt ql eG gC gu
 rw[AW,C1,yu,vU]
 by_cases h30:30<(dU whole).length+(dV part).length
 ·simp[h30]
 ·simp[h30]
theorem Bv {whole part:List UInt8}{e m:Nat}(he:(bg false s e).2.2.2=true):(if 3<(bc false s e).length then .error 7 else gi whole part (if(bg false s e).1=68 then 2 else 1) (gK s e) m)=gt whole part (bg false s e).2.1 (bg false s e).1 true m:=by
 have hL:dw false s e=69∨dw false s e=68:=by
  unfold bg at he
  split at he
  ·assumption
  ·simp at he
 have hx:bg false s e=(dw false s e,dH false s e++bc false s e,runE false aL s (expStart false s e),!decide (bc false s e=[])):=by unfold bg;rw[if_pos hL]
 have hne:bc false s e≠[]:=by
  rw[hx]at he
  simpa using he
 have hdig: ∀b∈bc false s e,aL b=true:=og
 rw[hx]
 simp only
 have hlt:e<s.length:=by
  rcases Nat.lt_or_ge e s.length with h|h
  ·exact h
  ·exfalso
   unfold dw at hL
   rw[dA,List.getElem?_eq_none h]at hL
   exact absurd hL (by decide)
 have hE:atE false s e=e+1:=by rw[fA,if_pos hlt]
 have hS:dH false s e=if atC false s (e+1)=45 then [45]else []:=by unfold dH;rw[hE]
 have hpre:Lib.trimPrefix (dH false s e++bc false s e) [45]=bc false s e:=by
  rw[hS]
  split
  ·exact(wv hdig).2
  ·exact(wv hdig).1
 unfold gt ql
 rw[hpre]
 by_cases h3:3<(bc false s e).length
 ·simp[h3]
 ·rw[if_neg h3]
  have hval:dh (dH false s e++bc false s e)=gK s e:=by
   unfold gK
   rw[hS]
   by_cases h45:atC false s (e+1)=45
   ·rw[if_pos h45,if_pos h45]
    unfold dh
    rw[List.singleton_append,KS hdig hne (by omega)]
   ·rw[if_neg h45,if_neg h45]
    unfold dh
    rw[List.nil_append,jB hdig hne (by omega)]
  unfold gi eG gC gu
  rw[AW,C1,yu,vU,hval]
  by_cases h30:30<(dU whole).length+(dV part).length
  ·simp[h30]
  ·have hz:=OG (x:=gK s e)
   have h3d:decide (3<(bc false s e).length)=false:=by simp[h3]
   have h30d:decide (30<(dU whole).length+(dV part).length)=false:=by simp[h30]
   rw[if_neg h30,h3d,h30d]
   simp only[Bool.false_and,Bool.or_self,Bool.false_eq_true,if_false,and_true,if_true]
   by_cases h68:dw false s e=68
   ·rw[if_pos h68,if_pos rfl,if_pos h68]
   ·rw[if_neg h68,if_neg (by decide),if_neg h68]
    by_cases h0:gK s e=0
    ·rw[if_neg (by simp[h0]),if_pos (hz.2 h0)]
    ·rw[if_pos h0,if_neg (fun h=>h0 (hz.1 h))]
     simp
theorem Mj {c:UInt8}(h:s[n]? =some c)(hc:aL c=true∨(c=46∧aL ((s[n+1]?).getD 0)=true)):lF s n=ez false s n:=by
 have hn:=gZ h
 have hw:=pZ (s:=s) (n:=n) (by omega)
 have hwhole:cx false s n=(s.drop n).take (digR s n):=(no).1
 have hrun:runE false aL s n=n+digR s n:=(no).2
 have hdig: ∀b∈cx false s n,aL b=true:=og
 have hwl:(cx false s n).length=digR s n:=by rw[hwhole];simp;omega
 have hdot:(!pc s n&&decide (s[n+digR s n]? =some 46))=dy false s n:=by
  unfold dy pc
  rw[hrun]
  by_cases h46:s[n+digR s n]? =some 46
  ·have ha:atC false s (n+digR s n)=46:=by rw[dA,h46];rfl
   rw[Ny ha,ha]
   have:decide (cx false s n=[])= !decide (0<digR s n):=by
    by_cases h0:0<digR s n
    ·have:cx false s n≠[]:=by intro hh;rw[hh]at hwl;simp at hwl;omega
     simp[h0,this]
    ·have:cx false s n=[]:=List.eq_nil_of_length_eq_zero (by omega)
     simp[h0,this]
   rw[this]
   simp only[h46,decide_true,Bool.and_true,Bool.true_and]
   cases decide (0<digR s n)<;>cases (cI false s (n+digR s n)).2.2<;>rfl
  ·have ha:atC false s (n+digR s n)≠46:=by
    rw[dA]
    cases hg:s[n+digR s n]? with
    |none=>decide
    |some x=>intro hh;apply h46;rw[hg];simpa using hh
   simp[h46,ha]
 have hdotne:dy false s n=false→cx false s n≠[]:=by
  intro hf hnil
  rcases hc with hc|⟨hc1,hc2⟩
  ·have:digR s n=0:=by rw[←hwl,hnil];rfl
   unfold digR at this
   rw[List.drop_eq_getElem_cons hn,List.takeWhile_cons]at this
   rw[List.getElem?_eq_getElem hn]at h
   injection h with h
   rw[h,hc]at this
   simp at this
  ·unfold dy at hf
   have h0:digR s n=0:=by rw[←hwl,hnil];rfl
   have ha:atC false s (n+digR s n)=46:=by rw[h0,Nat.add_zero,dA,h,hc1];rfl
   rw[hrun,ha,hnil]at hf
   simp at hf
 unfold lF ez
 rw[hdot,←hwhole]
 cases hD:dy false s n with
 |true=>
  have hlt:n+digR s n<s.length:=by
   have:=hdot
   rw[hD,Bool.and_eq_true,decide_eq_true_eq]at this
   exact gZ this.2
  have hE:atE false s (n+digR s n)=n+digR s n+1:=by rw[fA,if_pos hlt]
  have hend:numEnd false s n=n+digR s n+1+digR s (n+digR s n+1):=by
   unfold numEnd;rw[if_pos hD,hrun,hE];exact(no).2
  have hpart:fO false s n=(s.drop (n+digR s n+1)).take (digR s (n+digR s n+1)):=by
   unfold fO;rw[if_pos hD,hrun,hE];exact(no).1
  rw[if_pos rfl,←hend,←hpart]
  simp only[Bool.not_true,Bool.false_and,Bool.false_eq_true,if_false]
  unfold lE
  cases hq:(bg false s (numEnd false s n)).2.2.2 with
  |true=>
   rw[if_pos rfl]
   simp only[if_true]
   exact Bv hq
  |false=>
   rw[if_neg (by simp),if_pos rfl]
   exact P7
 |false=>
  have hend:numEnd false s n=n+digR s n:=by unfold numEnd;rw[if_neg (by rw[hD];simp),hrun]
  have hpart:fO false s n=[]:=by unfold fO;rw[if_neg (by rw[hD];simp)]
  rw[if_neg (by simp),←hend,hpart]
  unfold lE
  have hq1: ∀{α:Type} {x y:α},(bg false s (numEnd false s n)).2.2.2=true→(if(!false&& !(bg false s (numEnd false s n)).2.2.2)=true then x else y)=y:=by
   intro α x y h;rw[h];rfl
  have hq2: ∀{α:Type} {x y:α},(bg false s (numEnd false s n)).2.2.2=false→(if(!false&& !(bg false s (numEnd false s n)).2.2.2)=true then x else y)=x:=by
   intro α x y h;rw[h];rfl
  cases hq:(bg false s (numEnd false s n)).2.2.2 with
  |true=>
   simp only[hq,Bool.not_false,Bool.not_true,Bool.and_false,Bool.false_eq_true,if_false,if_true]
   exact Bv hq
  |false=>
   simp only[hq,Bool.not_false,Bool.and_true,Bool.false_eq_true,if_false,if_true]
   exact Vd hdig (hdotne hD) _
end
end Go.Abs
set_option linter.unusedVariables false
set_option linter.unusedSimpArgs false
set_option maxRecDepth 100000
namespace Go.Abs
open Go Go.Proofs
section
variable {μ:Mu}{s:List UInt8}
theorem FJ {x y:UInt8}:decide ((x.toNat:Int)=(y.toNat:Int))=decide (x=y):=by
 by_cases h:x=y
 ·subst h;simp
 ·have:x.toNat≠y.toNat:=fun e=>h (UInt8.toNat.inj e)
  simp[h];omega
def mt (t:List UInt8)(e:Nat):Except Int (Tok×Nat):=if 60<t.length then .error 8 else .ok (⟨1,6,ij t⟩,e)
noncomputable def yx (μ:Mu)(acc:List UInt8)(i:Nat)(a b c d:Int)(t:List UInt8):Option (List UInt8×Nat)→St
 |none=>tl a b t c d μ
 |some (x,k)=>stN μ tj (mt (acc++x) (i+k))
theorem VZ (hs:s.length≤200000){q:UInt8}{a b c d:Int}{t:List UInt8}: ∀(k i:Nat) (acc:List UInt8),s.length-i≤k→i≤s.length→acc.length≤i→
  xR (ev E) s (q.toNat:Int) acc (i:Int) a b t c d μ=some (yx μ acc i a b c d t (cV q (s.drop i))):=by
 intro k
 induction k using Nat.strongRecOn with
 |_ k ih=>
  intro i acc hk hi ha
  by_cases hlt:i<s.length
  ·have hd:=List.drop_eq_getElem_cons hlt
   refine aW ?_
   rw[En,cj hlt,cond_true,cl hlt,aa,FJ,bM (by omega),QU hlt,aa,bJ (by simp;omega),aA,hd]
   by_cases hq:s[i]=q
   ·have hq1:decide (s[i]=q)=true:=by simp[hq]
    rw[hq1,Bool.not_true,cond_false,hq]
    have h11: ∀{i:Nat},i<s.length→(opt (vf (ev E) acc (i:Int) a b t c d μ) (kS (ev E) iH [] [(0,0),(4,0),(5,0),(6,0),(7,0)]))=some (stN μ ox (mt acc (i+1))):=by
     intro i hlt
     have:vf (ev E) acc (i:Int) a b t c d μ=some (stN μ mW (mt acc (i+1))):=by
      refine aR ?_
      rw[Pz]
      unfold mt
      by_cases h60:60<acc.length
      ·have:decide ((60:Int)<(acc.length:Int))=true:=by simp;omega
       rw[this,cond_true,if_pos h60]
       rfl
      ·have:decide ((60:Int)<(acc.length:Int))=false:=by simp;omega
       have hG:Il (ev E) acc (i:Int) a b t c d μ=some (qz 1 6 (ij acc) ((i+1:Nat):Int) 0 μ):=by
        refine aR ?_
        rw[PA,Vx (by omega)]
        simp only[ad,ao,aa,ak,am,ah,ae,aj,aA,cond_true,cond_false,Bool.not_true,Bool.not_false,av,au,aq]
        rw[bM (by omega)]
       rw[this,cond_false,if_neg h60,hG,aa,EM]
       rfl
     rw[this,aa]
     cases mt acc (i+1)with
     |ok q=>exact uE _ _ _ _ _ _ _
     |error e=>exact uE _ _ _ _ _ _ _
    by_cases hlt2:i+1<s.length∧s[i+1]? =some q
    ·obtain⟨h2,h3⟩:=hlt2
     have hd2:=List.drop_eq_getElem_cons h2
     have hg2:s[i+1]=q:=by rw[List.getElem?_eq_getElem h2]at h3;simpa using h3
     have hG:Cr (ev E) s (q.toNat:Int) acc (i:Int) a b t c d μ=some (sH s (q.toNat:Int) (acc++[q]) ((i+1:Nat):Int) a b t c d μ):=by
      refine aR ?_
      have hq2:decide (q=q)=true:=by simp
      rw[Ec,bM (by omega),cj h2,cond_true,cl h2,aa,FJ,hg2,hq2,cond_true,QU hlt,aa,bJ (by simp;omega),aA,hq]
     rw[hG,aa,Gq,bM (by omega),ih (s.length-(i+1+1)) (by omega) (i+1+1) (acc++[q]) (Nat.le_refl _) (by omega) (by simp;omega),hd2,hg2,uR]
     cases cV q (s.drop (i+1+1))with
     |none=>rfl
     |some x=>
      simp only[yx,Option.map_some]
      have e1:i+1+1+x.2=i+(x.2+2):=by omega
      rw[e1]
      simp
    ·have hne: ∀d u,s.drop (i+1)=d::u→d≠q:=by
      intro d u hdu hdq
      apply hlt2
      have h2:i+1<s.length:=by
       rcases Nat.lt_or_ge (i+1) s.length with h|h
       ·exact h
       ·rw[List.drop_eq_nil_of_le h]at hdu;cases hdu
      refine⟨h2,?_⟩
      rw[List.drop_eq_getElem_cons h2]at hdu
      injection hdu with hdu _
      rw[List.getElem?_eq_getElem h2,hdu,hdq]
     have hG:Cr (ev E) s (q.toNat:Int) acc (i:Int) a b t c d μ=some (stN μ ox (mt acc (i+1))):=by
      refine aR ?_
      rw[Ec,bM (by omega)]
      by_cases h2:i+1<s.length
      ·have h3:s[i+1]≠q:=fun h=>hlt2 ⟨h2,by rw[List.getElem?_eq_getElem h2,h]⟩
       have h4:decide (s[i+1]=q)=false:=by simp[h3]
       rw[cj h2,cond_true,cl h2,aa,FJ,h4,cond_false,h11 hlt]
      ·rw[cw (by omega),cond_false,h11 hlt]
     rw[hG,aa,mG hne]
     simp only[yx,List.append_nil]
     cases mt acc (i+1)with
     |ok q=>exact wc _ _ _ _ _ _ _
     |error e=>exact wc _ _ _ _ _ _ _
   ·have hq1:decide (s[i]=q)=false:=by simp[hq]
    rw[hq1,Bool.not_false,cond_true,ih (s.length-(i+1)) (by omega) (i+1) (acc++[s[i]]) (Nat.le_refl _) (by omega) (by simp;omega),rP hq]
    cases cV q (s.drop (i+1))with
    |none=>rfl
    |some x=>
     simp only[yx,Option.map_some]
     have e1:i+1+x.2=i+(x.2+1):=by omega
     rw[e1]
     simp
  ·refine aW ?_
   rw[En,cw (by omega),cond_false,List.drop_eq_nil_of_le (by omega)]
   rfl
theorem Vh (hs:s.length≤200000){n:Nat}(hn:n<s.length):(ev E).call 111 [LV.str s,LV.int .i64 (n:Int)] μ=some (.ret (.cv (mH (eV s n))) μ):=by
 refine aJ ?_
 rw[Xb,cl hn,aa,bM (by omega),VZ hs (s.length-(n+1)) (n+1) [] (Nat.le_refl _) (by omega) (by simp),aa]
 unfold eV
 rw[List.getElem?_eq_getElem hn,Option.getD_some]
 cases hq:cV s[n] (s.drop (n+1))with
 |none=>exact Hl _ _ _ _ _ _ _
 |some x=>
  obtain⟨t,k⟩:=x
  simp only[yx,List.nil_append]
  unfold mt
  by_cases h60:60<t.length
  ·rw[if_pos h60];exact wi _ _ _ _ _ _ _
  ·rw[if_neg h60];exact wi _ _ _ _ _ _ _
theorem VX (hs:s.length≤200000){n:Nat}{a b c d:Int}{t:List UInt8}: ∀(k i:Nat),i+k=s.length→
  vh (ev E) s (n:Int) (i:Int) a b t c d μ=some (nI s (n:Int) ((i+((s.drop i).takeWhile bE).length:Nat):Int) a b t c d μ):=by
 have e95: ∀c:UInt8,decide ((c.toNat:Int)=95)=decide (c.toNat=95):=fun c=>by simp;omega
 intro k
 induction k with
 |zero=>
  intro i hi
  refine aW ?_
  rw[J4,cw (by omega),cond_false,List.drop_eq_nil_of_le (by omega)]
  rfl
 |succ k ih=>
  intro i hi
  have hlt:i<s.length:=by omega
  have hy: ∀{q:Bool},bE s[i]=q→(q=true→vh (ev E) s (n:Int) ((i+1:Nat):Int) a b t c d μ=some (nI s (n:Int) ((i+((s.drop i).takeWhile bE).length:Nat):Int) a b t c d μ))∧(q=false→i+((s.drop i).takeWhile bE).length=i):=by
   intro q hq
   rw[List.drop_eq_getElem_cons hlt,List.takeWhile_cons,hq]
   constructor
   ·intro h
    rw[ih (i+1) (by omega),h]
    simp only[if_true,List.length_cons]
    congr 3
    omega
   ·intro h;rw[h];rfl
  refine aW ?_
  rw[J4,cj hlt,cond_true,cl hlt,aa,OK]
  simp only[ad,ao,aa,ak,am,ah,ae,aj,aA,cond_true,cond_false,Bool.not_true,Bool.not_false,av,au,aq,e95]
  rw[bM (by omega)]
  have hp:bE s[i]=(bh s[i]||aL s[i]||decide (s[i].toNat=95)):=rfl
  cases h1:bh s[i]with
  |true=>
   rw[cond_true]
   exact(hy (by rw[hp,h1];rfl)).1 rfl
  |false=>
   rw[cond_false,yQ]
   simp only[ad,ao,aa,ak,am,ah,ae,aj,aA,cond_true,cond_false,Bool.not_true,Bool.not_false,av,au,aq]
   cases h2:aL s[i]with
   |true=>
    rw[cond_true]
    exact(hy (by rw[hp,h1,h2];rfl)).1 rfl
   |false=>
    rw[cond_false]
    cases h3:decide (s[i].toNat=95)with
    |true=>
     rw[cond_true]
     exact(hy (by rw[hp,h1,h2,h3];rfl)).1 rfl
    |false=>
     rw[cond_false,(hy (q:=false) (by rw[hp,h1,h2,h3];rfl)).2 rfl]
def mT:List (List UInt8×List UInt8):=[([60,61],[46,76,69,46]),([62,61],[46,71,69,46]),([61,61],[46,69,81,46]),([47,61],[46,78,69,46]),([60],[46,76,84,46]),([62],[46,71,84,46])]
def u1 (l:List (List UInt8×List UInt8)):List CV:=l.map fun x=>CV.agg [CV.str x.1,CV.str x.2]
def toE:Except Int (Tok×Nat)→Nat
 | .ok q=>q.2
 | .error _=>0
def fJ (s:List UInt8)(n:Nat):List (List UInt8×List UInt8)→Except Int (Tok×Nat)→Except Int (Tok×Nat)
 |[],r=>r
 |x::l,r=>fJ s n l (if bG s n x.1=true∧toE r<n+x.1.length then .ok (⟨2,0,x.2⟩,n+x.1.length)else r)
def stB {α:Sort _}(X:Int→Int→List UInt8→Int→Int→α):Except Int (Tok×Nat)→α
 | .ok q=>X q.1.kind q.1.type q.1.text (q.2:Int) 0
 | .error e=>X 0 0 [] 0 e
theorem Pe (hs:s.length≤200000){n:Nat}(hn:n≤s.length){a b c d:Int}{t:List UInt8}{l:List (List UInt8×List UInt8)}(hl:l.length≤100)(hw: ∀x∈l,x.1.length≤100): ∀(k j:Nat) (r:Except Int (Tok×Nat)),j+k=l.length→
  stB (fun p q u v w=>sy (ev E) s (n:Int) (u1 l) (l.length:Int) (j:Int) a b t c d p q u v w μ) r=some (stB (fun p q u v w=>tK s (n:Int) a b t c d p q u v w μ) (fJ s n (l.drop j) r)):=by
 intro k
 induction k with
 |zero=>
  intro j r hj
  rw[List.drop_eq_nil_of_le (by omega)]
  cases r with
  |ok q=>
   refine aW ?_
   rw[rH,cw (by omega),cond_false]
   rfl
  |error e=>
   refine aW ?_
   rw[rH,cw (by omega),cond_false]
   rfl
 |succ k ih=>
  intro j r hj
  have hlt:j<l.length:=by omega
  have hg:bm (u1 l) (j:Int)=some (CV.agg [CV.str l[j].1,CV.str l[j].2]):=by rw[fD];simp[u1,hlt]
  have hrd: ∀{β:Type} {k:List UInt8→List UInt8→Option β},Tf (LV.cv (CV.agg [CV.str l[j].1,CV.str l[j].2])) k=k l[j].1 l[j].2:=rfl
  have hwl:=hw _ (List.getElem_mem hlt)
  rw[List.drop_eq_getElem_cons hlt,fJ]
  have hih:=fun r=>ih (j+1) r (by omega)
  cases r with
  |ok q=>
   refine aW ?_
   rw[rH,cj hlt,cond_true,hg,aa,hrd,nU hs hn (by omega)]
   simp only[ad,ao,aa,ak,am,ah,ae,aj,aA,cond_true,cond_false,Bool.not_true,Bool.not_false,av,au,aq]
   rw[bM (by omega),iB (by omega)]
   cases hb:bG s n l[j].1 with
   |false=>
    rw[cond_false,if_neg (by simp)]
    exact hih (.ok q)
   |true=>
    rw[cond_true]
    by_cases h2:q.2<n+l[j].1.length
    ·rw[cj h2,cond_true,if_pos ⟨rfl,h2⟩]
     exact hih (.ok (⟨2,0,l[j].2⟩,n+l[j].1.length))
    ·rw[cw (by omega),cond_false,if_neg (fun h=>h2 h.2)]
     exact hih (.ok q)
  |error e=>
   refine aW ?_
   rw[rH,cj hlt,cond_true,hg,aa,hrd,nU hs hn (by omega)]
   simp only[ad,ao,aa,ak,am,ah,ae,aj,aA,cond_true,cond_false,Bool.not_true,Bool.not_false,av,au,aq]
   rw[bM (by omega),iB (by omega)]
   cases hb:bG s n l[j].1 with
   |false=>
    rw[cond_false,if_neg (by simp)]
    exact hih (.error e)
   |true=>
    rw[cond_true]
    by_cases h2:0<n+l[j].1.length
    ·have:=cj h2
     have e0:((0:Nat):Int)=0:=rfl
     rw[e0]at this
     rw[this,cond_true,if_pos ⟨rfl,h2⟩]
     exact hih (.ok (⟨2,0,l[j].2⟩,n+l[j].1.length))
    ·have:=cw (n:=0) (m:=n+l[j].1.length) (by omega)
     have e0:((0:Nat):Int)=0:=rfl
     rw[e0]at this
     rw[this,cond_false,if_neg (fun h=>h2 h.2)]
     exact hih (.error e)
def nf (l:List (List UInt8)):List (List UInt8×List UInt8):=l.map fun x=>(x,x)
theorem Pf (hs:s.length≤200000){n:Nat}(hn:n≤s.length){a b c d:Int}{t:List UInt8}{l:List (List UInt8)}(hl:l.length≤100)(hw: ∀x∈l,x.length≤100): ∀(k j:Nat) (r:Except Int (Tok×Nat)),j+k=l.length→
  stB (fun p q u v w=>pK (ev E) s (n:Int) (bN l) (l.length:Int) (j:Int) a b t c d p q u v w μ) r=some (stB (fun p q u v w=>mn a b t c d p q u v w μ) (fJ s n (nf (l.drop j)) r)):=by
 intro k
 induction k with
 |zero=>
  intro j r hj
  rw[List.drop_eq_nil_of_le (by omega)]
  cases r with
  |ok q=>
   refine aW ?_
   rw[rI,cw (by omega),cond_false]
   rfl
  |error e=>
   refine aW ?_
   rw[rI,cw (by omega),cond_false]
   rfl
 |succ k ih=>
  intro j r hj
  have hlt:j<l.length:=by omega
  have hg:bm (bN l) (j:Int)=some (CV.str l[j]):=by rw[fD];simp[bN,hlt]
  have hwl:=hw _ (List.getElem_mem hlt)
  have hsel:nf (l[j]::l.drop (j+1))=(l[j],l[j])::nf (l.drop (j+1)):=rfl
  rw[List.drop_eq_getElem_cons hlt,hsel,fJ]
  have hih:=fun r=>ih (j+1) r (by omega)
  cases r with
  |ok q=>
   refine aW ?_
   rw[rI,cj hlt,cond_true,hg,aa,j9,aa,nU hs hn (by omega)]
   simp only[ad,ao,aa,ak,am,ah,ae,aj,aA,cond_true,cond_false,Bool.not_true,Bool.not_false,av,au,aq]
   rw[bM (by omega),iB (by omega)]
   cases hb:bG s n l[j]with
   |false=>
    rw[cond_false,if_neg (by simp)]
    exact hih (.ok q)
   |true=>
    rw[cond_true]
    by_cases h2:q.2<n+l[j].length
    ·rw[cj h2,cond_true,if_pos ⟨rfl,h2⟩]
     exact hih (.ok (⟨2,0,l[j]⟩,n+l[j].length))
    ·rw[cw (by omega),cond_false,if_neg (fun h=>h2 h.2)]
     exact hih (.ok q)
  |error e=>
   refine aW ?_
   rw[rI,cj hlt,cond_true,hg,aa,j9,aa,nU hs hn (by omega)]
   simp only[ad,ao,aa,ak,am,ah,ae,aj,aA,cond_true,cond_false,Bool.not_true,Bool.not_false,av,au,aq]
   rw[bM (by omega),iB (by omega)]
   cases hb:bG s n l[j]with
   |false=>
    rw[cond_false,if_neg (by simp)]
    exact hih (.error e)
   |true=>
    rw[cond_true]
    by_cases h2:0<n+l[j].length
    ·have:=cj h2
     have e0:((0:Nat):Int)=0:=rfl
     rw[e0]at this
     rw[this,cond_true,if_pos ⟨rfl,h2⟩]
     exact hih (.ok (⟨2,0,l[j]⟩,n+l[j].length))
    ·have:=cw (n:=0) (m:=n+l[j].length) (by omega)
     have e0:((0:Nat):Int)=0:=rfl
     rw[e0]at this
     rw[this,cond_false,if_neg (fun h=>h2 h.2)]
     exact hih (.error e)
theorem ON:(ev E).call 113 [] μ=some (.ret (LV.osl (bN bV)) μ):=aJ (by rw[Xd];rfl)
theorem Vi:(ev E).call 112 [] μ=some (.ret (LV.osl (u1 mT)) μ):=aJ (by rw[Xc];rfl)
def rf (s:List UInt8)(n:Nat):Except Int (Tok×Nat):=fJ s n (nf bV) (fJ s n mT (.error 7))
theorem Sp (hs:s.length≤200000){n:Nat}(hn:n≤s.length){a b c d:Int}{t:List UInt8}:M0 (ev E) s (n:Int) a b t c d μ=some (stN μ oF (rf s n)):=by
 refine aR ?_
 rw[RS,Vi]
 simp only[ad,ao,aa,ak,am,ah,ae,aj,aA,cond_true,cond_false,Bool.not_true,Bool.not_false,av,au,aq]
 have h1:=Pe (μ:=μ) hs hn (a:=a) (b:=b) (c:=c) (d:=d) (t:=t) (l:=mT) (by decide) (by decide) mT.length 0 (.error 7) (by omega)
 have e0:((0:Nat):Int)=0:=rfl
 have e1:(u1 mT).length=mT.length:=rfl
 have e2:(bN bV).length=bV.length:=rfl
 rw[e0,List.drop_zero]at h1
 simp only[stB]at h1
 have h2: ∀r,stB (fun p q u v w=>pK (ev E) s (n:Int) (bN bV) (bV.length:Int) 0 a b t c d p q u v w μ) r=some (stB (fun p q u v w=>mn a b t c d p q u v w μ) (fJ s n (nf bV) r)):=by
  intro r
  have:=Pf (μ:=μ) hs hn (a:=a) (b:=b) (c:=c) (d:=d) (t:=t) (l:=bV) (by decide) (by decide) bV.length 0 r (by omega)
  rw[e0,List.drop_zero]at this
  exact this
 rw[e1,h1,aa]
 unfold rf
 have h3:=h2 (fJ s n mT (.error 7))
 have fin: ∀r,kS (ev E) H63 [.block 9,.seq (cA 63 [1,1,1,1,1,1])] [(4,0)] (stB (fun p q u v w=>mn a b t c d p q u v w μ) r)=some (stN μ oF r):=by
  intro r
  cases r with
  |ok q=>exact wk _ _ _ _ _ _ _ _ _ _ _ _
  |error e=>exact wk _ _ _ _ _ _ _ _ _ _ _ _
 cases hr:fJ s n mT (.error 7)with
 |ok q=>
  rw[hr]at h3
  simp only[stB]at h3 ⊢
  rw[wj,ON]
  simp only[ad,ao,aa,ak,am,ah,ae,aj,aA,cond_true,cond_false,Bool.not_true,Bool.not_false,av,au,aq]
  rw[e2,h3,aa]
  exact fin _
 |error e=>
  rw[hr]at h3
  simp only[stB]at h3 ⊢
  rw[wj,ON]
  simp only[ad,ao,aa,ak,am,ah,ae,aj,aA,cond_true,cond_false,Bool.not_true,Bool.not_false,av,au,aq]
  rw[e2,h3,aa]
  exact fin _
def B9 (s:List UInt8)(n:Nat)(l:List (List UInt8))(kind type:Int)(els:Except Int (Tok×Nat)):Except Int (Tok×Nat):=
 match l.find? (bG s n)with|some w=> .ok (⟨kind,type,w⟩,n+w.length)|none=>els
theorem Pc (hs:s.length≤200000){n:Nat}(hn:n≤s.length){a b c d:Int}{t:List UInt8}{l:List (List UInt8)}(hl:l.length≤100)(hw: ∀x∈l,x.length≤100): ∀(k j:Nat),j+k=l.length→
  CQ (ev E) s (n:Int) (bN l) (l.length:Int) (j:Int) a b t c d μ=some (match(l.drop j).find? (bG s n)with|some w=>tG 2 0 w ((n+w.length:Nat):Int) 0 μ|none=>tH s (n:Int) a b t c d μ):=by
 intro k
 induction k with
 |zero=>
  intro j hj
  refine aW ?_
  rw[EB,cw (by omega),cond_false,List.drop_eq_nil_of_le (by omega)]
  rfl
 |succ k ih=>
  intro j hj
  have hlt:j<l.length:=by omega
  have hg:bm (bN l) (j:Int)=some (CV.str l[j]):=by rw[fD];simp[bN,hlt]
  have hwl:=hw _ (List.getElem_mem hlt)
  refine aW ?_
  rw[EB,cj hlt,cond_true,hg,aa,j9,aa,nU hs hn (by omega)]
  simp only[ad,ao,aa,ak,am,ah,ae,aj,aA,cond_true,cond_false,Bool.not_true,Bool.not_false,av,au,aq]
  rw[bM (by omega),iB (by omega),ih (j+1) (by omega),List.drop_eq_getElem_cons hlt,List.find?_cons]
  cases hb:bG s n l[j]<;>rfl
theorem Pd (hs:s.length≤200000){n:Nat}(hn:n≤s.length){a b c d:Int}{t:List UInt8}{l:List (List UInt8)}(hl:l.length≤100)(hw: ∀x∈l,x.length≤100): ∀(k j:Nat),j+k=l.length→
  CR (ev E) s (n:Int) (bN l) (l.length:Int) (j:Int) a b t c d μ=some (match(l.drop j).find? (bG s n)with|some w=>tI 1 5 w ((n+w.length:Nat):Int) 0 μ|none=>tJ a b t c d μ):=by
 intro k
 induction k with
 |zero=>
  intro j hj
  refine aW ?_
  rw[EC,cw (by omega),cond_false,List.drop_eq_nil_of_le (by omega)]
  rfl
 |succ k ih=>
  intro j hj
  have hlt:j<l.length:=by omega
  have hg:bm (bN l) (j:Int)=some (CV.str l[j]):=by rw[fD];simp[bN,hlt]
  have hwl:=hw _ (List.getElem_mem hlt)
  refine aW ?_
  rw[EC,cj hlt,cond_true,hg,aa,j9,aa,nU hs hn (by omega)]
  simp only[ad,ao,aa,ak,am,ah,ae,aj,aA,cond_true,cond_false,Bool.not_true,Bool.not_false,av,au,aq]
  rw[bM (by omega),iB (by omega),ih (j+1) (by omega),List.drop_eq_getElem_cons hlt,List.find?_cons]
  cases hb:bG s n l[j]<;>rfl
def vM (s:List UInt8)(n:Nat):Except Int (Tok×Nat):=B9 s n cL 2 0 (B9 s n [gl,eT] 1 5 (.error 7))
def Cf (s:List UInt8)(n:Nat)(c:UInt8):Except Int (Tok×Nat):=
 if bh c then(if 31<((s.drop n).takeWhile bE).length then .error 4 else .ok (⟨0,0,((s.drop n).takeWhile bE).map upB⟩,n+((s.drop n).takeWhile bE).length))
 else if aL c||(decide (c=46)&&aL ((s[n+1]?).getD 0))then lF s n
 else if c=46 then vM s n
 else if c=39∨c=34 then eV s n
 else rf s n
theorem o7 {β:Type}{q:Except Int (Tok×Nat)}{k:Int→Int→List UInt8→Int→Int→Option β}:zp (.cv (mH q)) k=stB k q:=by cases q<;>rfl
theorem So (hs : s.length ≤ 200000) {n : Nat} (hn : n < s.length) {x : Bool} {a b c d : Int} {t : List UInt8} : pG (ev E) s (n : Int) (s[n].toNat : Int) x a b t c d μ = some (
  if x=true then stN μ dD (lF s n)else if s[n]=46 then stN μ dD (vM s n)else if s[n]=39∨s[n]=34 then stN μ dD (eV s n)else td s (n:Int) a b t c d μ):=by
 have e46: ∀c:UInt8,decide ((c.toNat:Int)=46)=decide (c=46):=fun c=>cq (k:=46) (by omega)
 have e39: ∀c:UInt8,decide ((c.toNat:Int)=39)=decide (c=39):=fun c=>cq (k:=39) (by omega)
 have e34: ∀c:UInt8,decide ((c.toNat:Int)=34)=decide (c=34):=fun c=>cq (k:=34) (by omega)
 have hst: ∀(q:Except Int (Tok×Nat)),stB (fun p q u v w=>some (dD p q u v w μ)) q=some (stN μ dD q):=by intro q;cases q<;>rfl
 refine aR ?_
 rw[RR,Vg hs (by omega),e46,e39,e34,Vh hs hn,ad,ad,o7,o7,hst,hst]
 cases x with
 |true=>rw[cond_true,if_pos rfl]
 |false=>
  rw[cond_false,if_neg (by simp)]
  by_cases h46:s[n]=46
  ·have:decide (s[n]=46)=true:=by simp[h46]
   rw[this,cond_true,if_pos h46,OM]
   simp only[ad,ao,aa,ak,am,ah,ae,aj,aA,cond_true,cond_false,Bool.not_true,Bool.not_false,av,au,aq]
   have e2:(bN cL).length=cL.length:=rfl
   have e0:((0:Nat):Int)=0:=rfl
   have h14:=Pc (μ:=μ) hs (Nat.le_of_lt hn) (a:=a) (b:=b) (c:=c) (d:=d) (t:=t) (l:=cL) (by decide) (by decide) cL.length 0 (by omega)
   rw[e0,List.drop_zero]at h14
   have h20:=Pd (μ:=μ) hs (Nat.le_of_lt hn) (a:=a) (b:=b) (c:=c) (d:=d) (t:=t) (l:=[gl,eT]) (by decide) (by decide) 2 0 (by simp)
   rw[e0,List.drop_zero]at h20
   rw[e2,h14,aa]
   unfold vM B9
   cases hf:cL.find? (bG s n)with
   |some w=>simp only;rw[HF];rfl
   |none=>
    simp only
    have e3:[CV.str ([46,84,82,85,69,46]:List UInt8),CV.str ([46,70,65,76,83,69,46]:List UInt8)]=bN [gl,eT]:=rfl
    have e4:(2:Int)=(([gl,eT]:List (List UInt8)).length:Int):=rfl
    rw[HG,e3]
    rw[←e4]at h20
    rw[h20,aa]
    cases hf2:([gl,eT]:List (List UInt8)).find? (bG s n)with
    |some w=>simp only;rw[HH];rfl
    |none=>simp only;rw[HI];rfl
  ·have:decide (s[n]=46)=false:=by simp[h46]
   rw[this,cond_false,if_neg h46]
   by_cases h39:s[n]=39
   ·simp[h39]
   ·by_cases h34:s[n]=34
    ·simp[h34]
    ·simp[h39,h34]
theorem S4 (hs:s.length≤200000){n:Nat}(hn:n<s.length):(ev E).call 63 [LV.str s,LV.int .i64 (n:Int)] μ=some (.ret (.cv (mH (Cf s n s[n]))) μ):=by
 have e46: ∀c:UInt8,decide ((c.toNat:Int)=46)=decide (c=46):=fun c=>cq (k:=46) (by omega)
 refine aJ ?_
 rw[Zf,cl hn,aa,OK]
 simp only[ad,ao,aa,ak,am,ah,ae,aj,aA,cond_true,cond_false,Bool.not_true,Bool.not_false,av,au,aq]
 unfold Cf
 cases hlet:bh s[n]with
 |true=>
  have htw:((s.drop n).takeWhile bE).length≤s.length-n:=by
   have:=(List.takeWhile_sublist bE (l:=s.drop n)).length_le
   rw[List.length_drop]at this
   exact this
  rw[cond_true,VX hs (s.length-n) n (by omega),aa,L8,ZH (by omega) (by omega)]
  have e1:n+((s.drop n).takeWhile bE).length-n=((s.drop n).takeWhile bE).length:=by omega
  rw[e1,if_pos rfl]
  by_cases h31:31<((s.drop n).takeWhile bE).length
  ·have:decide ((31:Int)<(((s.drop n).takeWhile bE).length:Int))=true:=by simp;omega
   rw[this,cond_true,if_pos h31]
   rfl
  ·have:decide ((31:Int)<(((s.drop n).takeWhile bE).length:Int))=false:=by simp;omega
   have hcut:(s.drop n).take ((s.drop n).takeWhile bE).length=(s.drop n).takeWhile bE:=(List.prefix_iff_eq_take.1 (List.takeWhile_prefix _)).symm
   have hG: ∀{a b c d:Int} {t:List UInt8},SO (ev E) s (n:Int) ((n+((s.drop n).takeWhile bE).length:Nat):Int) a b t c d μ=some (wP 0 0 (((s.drop n).takeWhile bE).map upB) ((n+((s.drop n).takeWhile bE).length:Nat):Int) 0 μ):=by
    intro a b c d t
    refine aR ?_
    rw[Uk,fM (by omega) (by omega),aa,e1,hcut,OL (by omega)]
    simp only[ad,ao,aa,ak,am,ah,ae,aj,aA,cond_true,cond_false,Bool.not_true,Bool.not_false,av,au,aq]
   rw[this,cond_false,if_neg h31,hG,aa,LL]
   rfl
 |false=>
  rw[cond_false,yQ]
  simp only[ad,ao,aa,ak,am,ah,ae,aj,aA,cond_true,cond_false,Bool.not_true,Bool.not_false,av,au,aq,Bool.false_eq_true,if_false,e46]
  have hfin: ∀{x:Bool} {a b c d:Int} {t:List UInt8},(aL s[n]||(decide (s[n]=46)&&aL ((s[n+1]?).getD 0)))=x→(opt (pG (ev E) s (n:Int) (s[n].toNat:Int) x a b t c d μ) (kB (ev E) 63 H63 [.block 0,.seq (cA 63 [1,1,1])]))=
    some (.ret (.cv (mH (if(aL s[n]||(decide (s[n]=46)&&aL ((s[n+1]?).getD 0)))=true then lF s n else if s[n]=46 then vM s n else if s[n]=39∨s[n]=34 then eV s n else rf s n))) μ):=by
   intro x a b c d t hx
   have f0: ∀q:Except Int (Tok×Nat),kB (ev E) 63 H63 [.block 0,.seq (cA 63 [1,1,1])] (stN μ dD q)=some (.ret (.cv (mH q)) μ):=by
    intro q
    cases q with
    |ok q=>exact wg _ _ _ _ _ _ _
    |error e=>exact wg _ _ _ _ _ _ _
   rw[So hs hn,aa,hx]
   cases x with
   |true=>rw[if_pos rfl,if_pos rfl,f0]
   |false=>
    simp only[Bool.false_eq_true,if_false]
    by_cases h46:s[n]=46
    ·rw[if_pos h46,if_pos h46,f0]
    ·rw[if_neg h46,if_neg h46]
     by_cases hq:s[n]=39∨s[n]=34
     ·rw[if_pos hq,if_pos hq,f0]
     ·rw[if_neg hq,if_neg hq,Ha,Sp hs (by omega),aa]
      cases rf s n with
      |ok q=>exact wh _ _ _ _ _ _ _
      |error e=>exact wh _ _ _ _ _ _ _
  cases hdig:aL s[n]with
  |true=>
   rw[cond_true]
   have:=hfin (x:=true) (a:=0) (b:=0) (c:=0) (d:=0) (t:=[]) (by rw[hdig];rfl)
   rw[hdig]at this
   exact this
  |false=>
   rw[cond_false]
   by_cases h46:s[n]=46
   ·have h1:decide (s[n]=46)=true:=by simp[h46]
    rw[h1,cond_true,bM (by omega)]
    by_cases h2:n+1<s.length
    ·rw[cj h2,cond_true,cl h2,aa,yQ]
     simp only[ad,ao,aa,ak,am,ah,ae,aj,aA,cond_true,cond_false,Bool.not_true,Bool.not_false,av,au,aq]
     have hg:(s[n+1]?).getD 0=s[n+1]:=by rw[List.getElem?_eq_getElem h2];rfl
     have:=hfin (x:=aL s[n+1]) (a:=0) (b:=0) (c:=0) (d:=0) (t:=[]) (by rw[hdig,h1,hg];rfl)
     rw[hdig,h1]at this
     exact this
    ·have hg:aL ((s[n+1]?).getD 0)=false:=by rw[List.getElem?_eq_none (by omega)];rfl
     rw[cw (by omega),cond_false]
     have:=hfin (x:=false) (a:=0) (b:=0) (c:=0) (d:=0) (t:=[]) (by rw[hdig,h1,hg];rfl)
     rw[hdig,h1]at this
     exact this
   ·have h1:decide (s[n]=46)=false:=by simp[h46]
    rw[h1,cond_false]
    have:=hfin (x:=false) (a:=0) (b:=0) (c:=0) (d:=0) (t:=[]) (by rw[hdig,h1];rfl)
    rw[hdig,h1]at this
    exact this
end
end Go.Abs
set_option linter.unusedVariables false
set_option linter.unusedSimpArgs false
set_option maxRecDepth 100000
namespace Go.Abs
open Go Go.Proofs
def yw:Except Int (Tok×Nat×List Nat)→Except Int (Tok×Nat)
 | .ok q=> .ok (q.1,q.2.1)
 | .error e=> .error e
section
variable {s:List UInt8}{n:Nat}
theorem DI (q:Except Int (Tok×Nat)):yw (noK q)=q:=by cases q<;>rfl
theorem DJ:yw (eF s n)=eV s n:=by
 unfold eF
 cases eV s n<;>rfl
theorem wA: ∀w∈cL,w≠gl∧w≠eT:=by decide
theorem lP {w:List UInt8}(hw:w∈cD)(hb:bG s n w=true):w=dG false s n:=((jJ (md w hw) hb).2.1).symm
theorem A3 {l:List (List UInt8)}{p:List UInt8→Bool}{w:List UInt8}(hm:w∈l)(hp:p w=true)(hu: ∀x∈l,p x=true→x=w):l.find? p=some w:=by
 cases hf:l.find? p with
 |none=>
  rw[List.find?_eq_none]at hf
  exact absurd hp (hf w hm)
 |some x=>
  have h1:=List.find?_some hf
  have h2:=List.mem_of_find?_eq_some hf
  rw[hu x h2 h1]
theorem uc {l:List (List UInt8)}{p:List UInt8→Bool}(h: ∀x∈l,p x=false):l.find? p=none:=by
 rw[List.find?_eq_none]
 intro x hx
 rw[h x hx]
 simp
theorem ut {w:List UInt8}(h:w∈cL):w∈cD:=by rw[jI];exact List.mem_append_left _ h
theorem Bg {w:List UInt8}(h:w∈([gl,eT]:List (List UInt8))):w∈cD:=by rw[jI];exact List.mem_append_right _ h
theorem UU (h:atC false s n=46):vM s n=if(cI false s n).2.2 then .ok (eN (cI false s n).1,(cI false s n).2.1)else .error 7:=by
 have e:cI false s n=(dG false s n,dotEnd false s n,m9 false s n):=by unfold cI;rw[if_pos h]
 have hany:=Ny h
 rw[e]at hany ⊢
 simp only at hany ⊢
 unfold vM B9
 cases hok:m9 false s n with
 |false=>
  rw[hok]at hany
  have hno: ∀w∈cD,bG s n w=false:=by
   intro w hw
   cases hb:bG s n w with
   |false=>rfl
   |true=>
    have:cD.any (bG s n)=true:=List.any_eq_true.2 ⟨w,hw,hb⟩
    rw[hany]at this;cases this
  rw[uc (fun x hx=>hno x (ut hx)),uc (fun x hx=>hno x (Bg hx))]
  rfl
 |true=>
  rw[hok]at hany
  rw[List.any_eq_true]at hany
  obtain⟨w,hw,hb⟩:=hany
  have hT:=lP hw hb
  have hE:=(jJ (md w hw) hb).2.2.2
  rw[←hT,hE]
  rw[jI,List.mem_append]at hw
  simp only[if_true]
  rcases hw with hw|hw
  ·rw[A3 hw hb (fun x hx hp=>by rw[lP (ut hx) hp,←hT])]
   have:=wA w hw
   unfold eN
   rw[if_neg (by intro hh;rcases hh with hh|hh;exact this.1 hh;exact this.2 hh)]
  ·rw[uc (fun x hx=> ?_),A3 hw hb (fun x hx hp=>by rw[lP (Bg hx) hp,←hT])]
   ·unfold eN
    rw[if_pos (by simpa using hw)]
   ·cases hbx:bG s n x with
    |false=>rfl
    |true=>
     have h1:=lP (ut hx) hbx
     rw[←hT]at h1
     have:=wA x hx
     rw[h1]at this
     simp only[List.mem_cons,List.not_mem_nil,or_false]at hw
     rcases hw with hw|hw
     ·exact absurd hw this.1
     ·exact absurd hw this.2
theorem vX {c:UInt8}(h:bE c=true):c.toNat<128:=by
 unfold bE at h
 simp only[Bool.or_eq_true,decide_eq_true_eq]at h
 rcases h with(h|h)|h
 ·exact lU h
 ·have:=dJ.1 h;omega
 ·omega
theorem Wx:up (cK false bE s n)=((s.drop n).takeWhile bE).map upB:=by
 rw[ke DZ]
 exact lN _ fun b hb=>vX (iu _ b hb)
def beg (c:UInt8)(d:Option UInt8):List UInt8→Bool
 |[x]=>decide (c=x)
 |[x,y]=>decide (c=x)&&decide (d=some y)
 |_=>false
theorem FL: ∀i:Fin 256,bh (UInt8.ofNat i.val)=false→upB (UInt8.ofNat i.val)=UInt8.ofNat i.val:=by decide
theorem FK {c:UInt8}(h:bh c=false):upB c=c:=by
 have:=FL ⟨c.toNat,c.toNat_lt⟩
 simpa[h]using this
theorem FM: ∀i:Fin 256,∀y∈([61,42,47,62]:List UInt8),(upB (UInt8.ofNat i.val)=y↔UInt8.ofNat i.val=y):=by decide
theorem SC {c y:UInt8}(hy:y∈([61,42,47,62]:List UInt8)):upB c=y↔c=y:=by
 have:=FM ⟨c.toNat,c.toNat_lt⟩ y hy
 simpa using this
theorem Tu {c x:UInt8}(h:s[n]? =some c)(hl:bh c=false):bG s n [x]=beg c s[n+1]? [x]:=by
 have hn:=gZ h
 rw[List.getElem?_eq_getElem hn]at h
 injection h with h
 unfold bG beg
 rw[List.drop_eq_getElem_cons hn,h]
 simp only[List.length_singleton,List.take_succ_cons,List.take_zero,List.map_cons,List.map_nil,FK hl]
 have:decide (n+1≤s.length)=true:=by simp;omega
 rw[this,Bool.true_and]
 simp
theorem Tv {c x y:UInt8}(h:s[n]? =some c)(hl:bh c=false)(hy:y∈([61,42,47,62]:List UInt8)):bG s n [x,y]=beg c s[n+1]? [x,y]:=by
 have hn:=gZ h
 rw[List.getElem?_eq_getElem hn]at h
 injection h with h
 unfold bG beg
 simp only[List.length_cons,List.length_nil]
 by_cases h2:n+1<s.length
 ·have:decide (n+(0+1+1)≤s.length)=true:=by simp;omega
  rw[this,Bool.true_and,List.drop_eq_getElem_cons hn,List.drop_eq_getElem_cons h2,List.getElem?_eq_getElem h2,h]
  simp only[List.take_succ_cons,List.take_zero,List.map_cons,List.map_nil,FK hl]
  have:=SC (c:=s[n+1]) hy
  by_cases h3:s[n+1]=y
  ·rw[this.2 h3,h3];simp
  ·have h4:upB s[n+1]≠y:=fun hh=>h3 (this.1 hh)
   simp[h3,h4]
 ·have:decide (n+(0+1+1)≤s.length)=false:=by simp;omega
  rw[this,List.getElem?_eq_none (by omega)]
  simp
def tV:List (List UInt8×List UInt8):=mT++nf bV
theorem OA (l m:List (List UInt8×List UInt8)): ∀r,fJ s n (l++m) r=fJ s n m (fJ s n l r):=by
 induction l with
 |nil=>intro r;rfl
 |cons x l ih=>intro r;rw[List.cons_append,fJ,fJ,ih]
def vw (c:UInt8)(d:Option UInt8)(n:Nat):List (List UInt8×List UInt8)→Except Int (Tok×Nat)→Except Int (Tok×Nat)
 |[],r=>r
 |x::l,r=>vw c d n l (if beg c d x.1=true∧toE r<n+x.1.length then .ok (⟨2,0,x.2⟩,n+x.1.length)else r)
def Kb (x:List UInt8):Bool:=match x with|[_]=>true|[_,y]=>([61,42,47,62]:List UInt8).contains y|_=>false
theorem DT {c:UInt8}(h:s[n]? =some c)(hl:bh c=false): ∀(l:List (List UInt8×List UInt8)) (r:Except Int (Tok×Nat)),(∀x∈l,Kb x.1=true)→fJ s n l r=vw c s[n+1]? n l r
 |[],r,_=>rfl
 |x::l,r,hs=>by
  have hx:=hs x List.mem_cons_self
  have hb:bG s n x.1=beg c s[n+1]? x.1:=by
   obtain⟨x1,x2⟩:=x
   simp only at hx ⊢
   match x1,hx with
   |[a],_=>exact Tu h hl
   |[a,y],hy=>exact Tv h hl (List.contains_iff_mem.1 hy)
  rw[fJ,vw,hb,DT h hl l _ (fun y hy=>hs y (List.mem_cons_of_mem _ hy))]
theorem C3: ∀x∈tV,Kb x.1=true:=by decide
def opC (c:UInt8)(d:Option UInt8)(n:Nat):Except Int (Tok×Nat):=
 match gD [c,d.getD 0]with
 |some w=> .ok (⟨2,0,w⟩,n+2)
 |none=>if d.getD 0≠0∧bV.contains [c,d.getD 0]then .ok (⟨2,0,[c,d.getD 0]⟩,n+2)
  else match gD [c]with
   |some w=> .ok (⟨2,0,w⟩,n+1)
   |none=>if bV.contains [c]then .ok (⟨2,0,[c]⟩,n+1)else .error 7
theorem Qg {a b:UInt8}{w:List UInt8}(h:gD [a,b]=some w):b=61:=by
 unfold gD at h
 simp only[List.cons.injEq,and_true]at h
 split at h
 ·rename_i h1;exact h1.2
 ·split at h
  ·rename_i h1;exact h1.2
  ·split at h
   ·rename_i h1;exact h1.2
   ·split at h
    ·rename_i h1;exact h1.2
    ·simp at h
theorem Wh {c:UInt8}(h:s[n]? =some c)(hc:c≠32):gd false s n=opC c s[n+1]? n:=by
 obtain⟨ha,hb⟩:=pR (fx:=false) h hc
 unfold gd opC
 simp only[ha,hb,dA,fA]
 by_cases h2:n+1<s.length
 ·rw[if_pos h2]<;>(cases gD [c,(s[n+1]?).getD 0]<;>rfl)
 ·rw[if_neg h2,List.getElem?_eq_none (by omega)]
  cases hsp:gD [c,(none:Option UInt8).getD 0]with
  |some w=>exact absurd (Qg hsp) (by decide)
  |none=>
   simp only[Option.getD_none,ne_eq,not_true_eq_false,false_and,if_false]<;>(cases gD [c]<;>rfl)
theorem TL (c:UInt8)(d:Option UInt8)(n:Nat):vw c d n tV (.error 7)=opC c d n:=by
 have hd:d=none∨d=some 61∨d=some 42∨d=some 47∨d=some 62∨ ∃x,d=some x∧x≠61∧x≠42∧x≠47∧x≠62:=by
  cases d with
  |none=>exact Or.inl rfl
  |some x=>
   by_cases h1:x=61
   ·exact Or.inr (Or.inl (by rw[h1]))
   ·by_cases h2:x=42
    ·exact Or.inr (Or.inr (Or.inl (by rw[h2])))
    ·by_cases h3:x=47
     ·exact Or.inr (Or.inr (Or.inr (Or.inl (by rw[h3]))))
     ·by_cases h4:x=62
      ·exact Or.inr (Or.inr (Or.inr (Or.inr (Or.inl (by rw[h4])))))
      ·exact Or.inr (Or.inr (Or.inr (Or.inr (Or.inr ⟨x,rfl,h1,h2,h3,h4⟩))))
 have hL: ∀(x:UInt8),x∈([60,62,61,47,42,43,45,40,41,44,58,37]:List UInt8)∨x ∉([60,62,61,47,42,43,45,40,41,44,58,37]:List UInt8):=fun x=>Classical.em _
 rcases hL c with hm|hm
 ·simp only[List.mem_cons,List.not_mem_nil,or_false]at hm
  rcases hm with rfl|rfl|rfl|rfl|rfl|rfl|rfl|rfl|rfl|rfl|rfl|rfl<;>rcases hd with rfl|rfl|rfl|rfl|rfl|⟨x,rfl,h1,h2,h3,h4⟩<;>
   simp[vw,tV,mT,nf,bV,beg,toE,opC,gD, *]
 ·simp only[List.mem_cons,List.not_mem_nil,or_false,not_or]at hm
  obtain⟨n1,n2,n3,n4,n5,n6,n7,n8,n9,n10,n11,n12⟩:=hm
  simp[vw,tV,mT,nf,bV,beg,toE,opC,gD,n1,n2,n3,n4,n5,n6,n7,n8,n9,n10,n11,n12]
theorem Tw {c:UInt8}(h:s[n]? =some c)(hc:c≠32)(hl:bh c=false):rf s n=gd false s n:=by
 have e:rf s n=fJ s n tV (.error 7):=(OA mT (nf bV) _).symm
 rw[e,DT h hl _ _ C3,TL,Wh h hc]
theorem T7 {c:UInt8}(h:s[n]? =some c)(hc:c≠32):Cf s n c=yw (gk false s n c):=by
 obtain⟨ha,hb⟩:=pR (fx:=false) h hc
 unfold Cf gk
 by_cases hl:bh c=true
 ·rw[if_pos hl,if_pos hl,Wx,ke DZ,mJ DZ]
  split<;>rfl
 ·rw[if_neg hl,if_neg hl]
  have hl':bh c=false:=by simpa using hl
  have e2:atC false s (n+1)=(s[n+1]?).getD 0:=rfl
  rw[e2]
  by_cases hd:(aL c||(decide (c=46)&&aL ((s[n+1]?).getD 0)))=true
  ·rw[if_pos hd,if_pos hd,DI]
   refine Mj h ?_
   rw[Bool.or_eq_true,Bool.and_eq_true,decide_eq_true_eq]at hd
   exact hd
  ·rw[if_neg hd,if_neg hd]
   by_cases h46:c=46
   ·rw[if_pos h46,if_pos h46,UU (by rw[ha,h46])]
    split<;>rfl
   ·rw[if_neg h46,if_neg h46]
    by_cases hq:c=39∨c=34
    ·rw[if_pos hq,if_pos hq,DJ]
    ·rw[if_neg hq,if_neg hq,DI,Tw h hc hl']
def rk {α:Type}:Except Int α→Prop
 | .ok _=>True
 | .error e=>e=4∨e=7∨e=8∨e=28
theorem DN {q:Except Int (Tok×Nat)}(h:rk q):rk (noK q):=by cases q<;>exact h
theorem Mv:rk (eV s n):=by
 unfold eV
 split
 ·exact Or.inr (Or.inl rfl)
 ·split
  ·exact Or.inr (Or.inr (Or.inl rfl))
  ·trivial
theorem Sg {whole part digits:List UInt8}{letter:UInt8}{ok:Bool}{e:Nat}:rk (gt whole part digits letter ok e):=by
 unfold gt
 split
 ·exact Or.inr (Or.inl rfl)
 ·trivial
theorem Mk {fx:Bool}:rk (ez fx s n):=by
 unfold ez
 simp only
 split
 ·unfold cX
  split
  ·exact trivial
  ·rename_i e he
   split at he
   ·injection he with he
    subst he
    exact Or.inr (Or.inr (Or.inr rfl))
   ·cases he
 ·exact Sg
theorem Wi {fx:Bool}:rk (gd fx s n):=by
 unfold gd
 simp only
 split
 ·trivial
 ·split
  ·trivial
  ·split
   ·trivial
   ·split
    ·trivial
    ·exact Or.inr (Or.inl rfl)
theorem BJ {fx:Bool}{out:List Tok}:rk (eW fx s out n):=by
 unfold eW
 split
 ·unfold pm
  split
  ·exact Or.inr (Or.inl rfl)
  ·trivial
 ·unfold gk
  split
  ·split
   ·exact Or.inl rfl
   ·trivial
  ·split
   ·exact DN Mk
   ·split
    ·split
     ·trivial
     ·exact Or.inr (Or.inl rfl)
    ·split
     ·have:=Mv (s:=s) (n:=n)
      unfold eF
      cases hq:eV s n with
      |ok q=>trivial
      |error e=>rw[hq]at this;exact this
     ·exact DN Wi
end
end Go.Abs
set_option linter.unusedVariables false
set_option maxRecDepth 100000
namespace Go.Abs
open Go Go.Proofs
end Go.Abs
set_option linter.unusedVariables false
set_option linter.unusedSimpArgs false
set_option maxRecDepth 100000
namespace Go.Abs
open Go Go.Proofs
section
variable {μ:Mu}{s:List UInt8}
theorem zH {out:List Tok}{n:Nat}:eW false s out n=gk false s n ((s[n]?).getD 0):=by
 unfold eW xo
 rfl
noncomputable def K4 (μ:Mu):Option (Nat×Int)×List Tok×List Nat→St
 |(none,out,_)=>wV (aV out) μ
 |(some (n,e),_,_)=>wU [] (n:Int) e μ
theorem Ws (hs:s.length≤200000){out:List Tok}{st:St}: ∀(k n:Nat),bq (s.drop n)=k→n≤s.length→vg (ev E) s (aV out) ((n+k:Nat):Int) μ=some st→vg (ev E) s (aV out) (n:Int) μ=some st:=by
 have e32: ∀c:UInt8,decide ((c.toNat:Int)=32)=decide (c=32):=fun c=>cq (k:=32) (by omega)
 intro k
 induction k with
 |zero=>intro n hb hn h;exact h
 |succ k ih=>
  intro n hb hn h
  have hlt:n<s.length:=by
   rcases Nat.lt_or_ge n s.length with h1|h1
   ·exact h1
   ·rw[List.drop_eq_nil_of_le h1]at hb;simp[bq]at hb
  rw[List.drop_eq_getElem_cons hlt,bq]at hb
  by_cases hc:s[n]=32
  ·rw[if_pos hc]at hb
   refine aW ?_
   have:decide (s[n]=32)=true:=by simp[hc]
   rw[Aw,cj hlt,cond_true,cl hlt,aa,e32,this,cond_true,bM (by omega)]
   refine ih (n+1) (by omega) hlt ?_
   have:n+1+k=n+(k+1):=by omega
   rw[this]
   exact h
  ·rw[if_neg hc]at hb;cases hb
theorem VQ (hs:s.length≤200000): ∀(k n:Nat) (out:List Tok) (kept:List Nat),s.length<n+k→n≤s.length→out.length≤n→
  vg (ev E) s (aV out) (n:Int) μ=some (K4 μ (dz false s k n out kept)):=by
 have e32: ∀c:UInt8,decide ((c.toNat:Int)=32)=decide (c=32):=fun c=>cq (k:=32) (by omega)
 intro k
 induction k with
 |zero=>intro n out kept hk hn ho;omega
 |succ k ih=>
  intro n out kept hk hn ho
  have hb:=oO (s.drop n)
  rw[List.length_drop]at hb
  refine Ws hs _ n rfl hn ?_
  unfold dz
  by_cases hm:s.length≤n+bq (s.drop n)
  ·rw[if_pos hm]
   refine aW ?_
   rw[Aw,cw hm,cond_false]
   rfl
  ·rw[if_neg hm]
   have hlt:n+bq (s.drop n)<s.length:=by omega
   obtain⟨c,hc1,hc2⟩:=yk hlt
   obtain⟨m,hmd⟩: ∃m,m=n+bq (s.drop n):=⟨_,rfl⟩
   rw[←hmd]at hlt hc1 ⊢
   have hg:s[m]=c:=by rw[List.getElem?_eq_getElem hlt]at hc1;simpa using hc1
   have hf:=zG (fx:=false) (out:=out) hc1 hc2
   have he:=BJ (s:=s) (n:=m) (fx:=false) (out:=out)
   have hT:eW false s out m=gk false s m c:=by rw[zH,hc1];rfl
   have hN:=T7 hc1 hc2
   rw[←hT]at hN
   refine aW ?_
   have h32:decide (c=32)=false:=by simp[hc2]
   rw[Aw,cj hlt,cond_true,cl hlt,aa,e32,hg,h32,cond_false]
   cases ht:eW false s out m with
   |error e=>
    rw[ht]at he hN
    have hG:Ko (ev E) s (aV out) (m:Int) μ=some (wL [] (m:Int) e μ):=by
     refine aR ?_
     rw[JU,S4 hs hlt,hg,hN,ad,o7]
     simp only[yw,stB]
     have:decide (e=0)=false:=by
      simp only[decide_eq_false_iff_not]
      rcases he with h|h|h|h<;>rw[h]<;>decide
     rw[this]
     rfl
    rw[hG,aa,LA]
    rfl
   |ok q=>
    rw[ht]at hf hN
    obtain⟨f1,f2,f3⟩:=hf
    have ha:[CV.agg [CV.int .i64 q.1.kind,CV.int .i64 q.1.type,CV.str q.1.text]]=aV [q.1]:=rfl
    have happ:aV out++aV [q.1]=aV (out++[q.1]):=by simp[aV]
    have hG:Ko (ev E) s (aV out) (m:Int) μ=some (wM s (aV (out++[q.1])) (q.2.1:Int) μ):=by
     refine aR ?_
     have hG12:MX (ev E) s (aV out) q.1.kind q.1.type q.1.text (q.2.1:Int) 0 μ=some (sZ s (aV (out++[q.1])) (q.2.1:Int) μ):=by
      refine aR ?_
      rw[RM,ha,ye (by simp;omega),aA,happ]
     rw[JU,S4 hs hlt,hg,hN,ad,o7]
     simp only[yw,stB]
     rw[decide_true,Bool.not_true,cond_false,hG12,aa,GY]
    rw[hG,aa,LB]
    exact ih q.2.1 _ _ (by omega) f2 (by simp;omega)
theorem BE {fx:Bool}: ∀(k n:Nat) (out:List Tok) (kept:List Nat) (m:Nat) (e:Int),(dz fx s k n out kept).1=some (m,e)→e≠0
 |0,n,out,kept,m,e,h=>by simp[dz]at h
 |k+1,n,out,kept,m,e,h=>by
  unfold dz at h
  split at h
  ·cases h
  ·have he:=BJ (s:=s) (n:=n+bq (s.drop n)) (fx:=fx) (out:=out)
   cases ht:eW fx s out (n+bq (s.drop n))with
   |error x=>
    rw[ht]at h he
    simp only[Option.some.injEq,Prod.mk.injEq]at h
    obtain⟨_,rfl⟩:=h
    rcases he with h|h|h|h<;>rw[h]<;>decide
   |ok q=>
    rw[ht]at h
    exact BE k _ _ _ m e h
theorem WK (hs:s.length≤200000):(ev E).call 25 [LV.str s] μ=some (.ret (.ltup [if bZ s=0 then LV.cv (CV.sl (aV (eI false s)))else E5,LV.int .i64 ((bx false s).n:Int),LV.int .i64 (bx false s).e]) μ):=by
 refine aJ ?_
 rw[Y4,S3 hs]
 simp only[ad,ao,aa,ak,am,ah,ae,aj,aA,cond_true,cond_false,Bool.not_true,Bool.not_false,av,au,aq]
 by_cases ht:bZ s=0
 ·have h1:decide (bZ s=0)=true:=by simp[ht]
  rw[h1,Bool.not_true,cond_false,if_pos ht]
  have hl:=VQ (μ:=μ) hs (s.length+1) 0 [] [] (by omega) (by omega) (by simp)
  have e0:((0:Nat):Int)=0:=rfl
  have et:aV []=[]:=rfl
  rw[e0,et]at hl
  have hne:=BE (s:=s) (fx:=false) (s.length+1) 0 [] []
  obtain⟨r,hr⟩: ∃r,dz false s (s.length+1) 0 [] []=r:=⟨_,rfl⟩
  rw[hr]at hl hne
  have hsc:bx false s=if(cz r.1).2=0 then(if 300<r.2.1.length then⟨r.2.1,r.2.2,0,8⟩else⟨r.2.1,r.2.2,r.2.1.length,0⟩)else⟨r.2.1,r.2.2,(cz r.1).1,(cz r.1).2⟩:=by
   unfold bx;rw[if_pos ht,hr]
  have hG:SI (ev E) s μ=some (nC (aV (eI false s)) ((bx false s).n:Int) (bx false s).e μ):=by
   refine aR ?_
   rw[Ud,hl,aa]
   unfold eI
   rw[hsc]
   obtain⟨x,o,q⟩:=r
   have hlen:(aV o).length=o.length:=by simp[aV]
   cases x with
   |none=>
    have hz:(cz (none:Option (Nat×Int))).2=0:=rfl
    rw[if_pos hz]
    simp only[K4]
    rw[L0,hlen]
    by_cases h3:300<o.length
    ·have:decide ((300:Int)<(o.length:Int))=true:=by simp;omega
     rw[this,cond_true,if_pos h3]
     rfl
    ·have:decide ((300:Int)<(o.length:Int))=false:=by simp;omega
     rw[this,cond_false,if_neg h3]
     rfl
   |some w=>
    obtain⟨m,e⟩:=w
    have he:=hne m e rfl
    have hz: ¬(cz (some (m,e))).2=0:=he
    rw[if_neg hz]
    simp only[K4]
    rw[LZ]
    have hz2:(if(cz (some (m,e))).2=0 then o else [])=[]:=if_neg hz
    simp only[hz2]
    rfl
  rw[hG,aa,Lz]
 ·have h1:decide (bZ s=0)=false:=by simp[ht]
  have hsc:bx false s=⟨[],[],0,bZ s⟩:=by unfold bx;rw[if_neg ht]
  rw[h1,Bool.not_false,cond_true,if_neg ht,hsc]
  rfl
end
end Go.Abs
set_option linter.unusedVariables false
set_option linter.unusedSimpArgs false
set_option maxRecDepth 100000
namespace Go.Abs
open Go Go.Proofs
section
variable {μ:Mu}{s:List UInt8}
theorem R5: ∀i:Fin 256,(decide ((97:Int)≤IntKind.wrap .i64 (IntKind.wrap .u8 ((BitVec.ofInt (IntKind.bits .u8) (i.val:Int) ||| BitVec.ofInt (IntKind.bits .u8) (32:Int)).toNat:Int)))&&decide (IntKind.wrap .i64 (IntKind.wrap .u8 ((BitVec.ofInt (IntKind.bits .u8) (i.val:Int) ||| BitVec.ofInt (IntKind.bits .u8) (32:Int)).toNat:Int))≤(122:Int)))=bh (UInt8.ofNat i.val):=by decide
theorem OQ {c:UInt8}:(ev E).call 124 [LV.int .u8 (c.toNat:Int)] μ=some (.ret (LV.bool (bh c)) μ):=by
 refine aJ ?_
 have h:=R5 ⟨c.toNat,UInt8.toNat_lt c⟩
 have e:UInt8.ofNat c.toNat=c:=by simp
 rw[e]at h
 rw[Xn,kV]
 simp only[ad,ao,aa,ak,am,ah,ae,aj,aA,cond_true,cond_false,Bool.not_true,Bool.not_false,av,au,aq]
 rw[←h]
theorem Vq {c:UInt8}:(ev E).call 125 [LV.int .u8 (c.toNat:Int)] μ=some (.ret (LV.bool (aL c)) μ):=by
 refine aJ ?_
 have hc:=UInt8.toNat_lt c
 rw[Xo,bB (by omega) (by omega),kV]
 simp only[ad,ao,aa,ak,am,ah,ae,aj,aA,cond_true,cond_false,Bool.not_true,Bool.not_false,av,au,aq]
 have h1:decide ((48:Int)≤(c.toNat:Int))=decide (48≤c.toNat):=by simp;omega
 have h2:decide ((c.toNat:Int)≤(57:Int))=decide (c.toNat≤57):=by simp;omega
 rw[h1,h2]
 rfl
theorem V2 (hs:s.length≤200000): ∀(k n:Nat),n+k=s.length→xY (ev E) s (s.length:Int) (n:Int) μ=some (if(s.drop n).all bE then xd μ else xc false μ):=by
 intro k
 induction k with
 |zero=>
  intro n hn
  refine aW ?_
  rw[J9,cw (by omega),cond_false]
  have:s.drop n=[]:=List.drop_eq_nil_of_le (by omega)
  rw[this]
  rfl
 |succ k ih=>
  intro n hn
  refine aW ?_
  have hlt:n<s.length:=by omega
  have hd:s.drop n=s[n]::s.drop (n+1):=List.drop_eq_getElem_cons hlt
  rw[J9,cj hlt,cond_true,cl hlt,aa,OQ,bM (by omega),ih (n+1) (by omega),hd,List.all_cons]
  simp only[ad,ao,aa,ak,am,ah,ae,aj,aA,cond_true,cond_false,Bool.not_true,Bool.not_false,av,au,aq,Vq]
  rw[ih (n+1) (by omega)]
  have h1:decide ((s[n].toNat:Int)=95)=decide (s[n].toNat=95):=by simp;omega
  rw[h1]
  unfold bE
  cases bh s[n]<;>cases aL s[n]<;>cases decide (s[n].toNat=95)<;>simp
def my (p:UInt8→Bool)(s:List UInt8):Bool:=match s with|[]=>false|c::_=>p c
def y0 (s:List UInt8):Bool:=decide (s.length≤31)&&my bh s&&s.all bE
theorem WZ (hs:s.length≤200000):(ev E).call 81 [LV.str s] μ=some (.ret (LV.bool (y0 s)) μ):=by
 refine aJ ?_
 rw[Zo]
 cases s with
 |nil=>rfl
 |cons c r=>
  have h0:decide (c::r=[])=false:=by simp
  have h1:bu (c::r) 0=some c:=rfl
  rw[h0,cond_false,h1,aa,OQ]
  simp only[ad,ao,aa,ak,am,ah,ae,aj,aA,cond_true,cond_false,Bool.not_true,Bool.not_false,av,au,aq]
  have hG:SS (ev E) (c::r) μ=some (qQ ((c::r).all bE) μ):=by
   refine aR ?_
   have:=V2 (μ:=μ) hs (c::r).length 0 (by omega)
   have e0:((0:Nat):Int)=0:=rfl
   rw[e0,List.drop_zero]at this
   rw[Up,this,aa]
   cases (c::r).all bE with
   |true=>rw[if_pos rfl,Mh]
   |false=>rw[if_neg (by simp),Mg]
  rw[hG,aa,LQ]
  unfold y0
  rw[show my bh (c::r)=bh c from rfl]
  have h2:decide ((31:Int)<((c::r).length:Int))= !decide ((c::r).length≤31):=by
   by_cases h:(c::r).length≤31
   ·rw[decide_eq_true h];exact decide_eq_false (by omega)
   ·rw[decide_eq_false h];exact decide_eq_true (by omega)
  rw[h2]
  generalize(c::r).all bE=y
  cases decide ((c::r).length≤31)<;>cases bh c<;>rfl
def nX (c:UInt8):Bool:=decide (97≤c.toNat)&&decide (c.toNat≤122)
theorem VW (hs:s.length≤200000): ∀(k n:Nat),n+k=s.length→B2 (ev E) s (n:Int) μ=some (if(s.drop n).any nX then wZ false μ else w6 μ):=by
 intro k
 induction k with
 |zero=>
  intro n hn
  refine aW ?_
  rw[J3,cw (by omega),cond_false]
  have:s.drop n=[]:=List.drop_eq_nil_of_le (by omega)
  rw[this]
  rfl
 |succ k ih=>
  intro n hn
  refine aW ?_
  have hlt:n<s.length:=by omega
  have hd:s.drop n=s[n]::s.drop (n+1):=List.drop_eq_getElem_cons hlt
  rw[J3,cj hlt,cond_true,cl hlt,aa,aa,bM (by omega),ih (n+1) (by omega),hd,List.any_cons]
  have h1:decide ((97:Int)≤(s[n].toNat:Int))=decide (97≤s[n].toNat):=by simp;omega
  have h2:decide ((s[n].toNat:Int)≤122)=decide (s[n].toNat≤122):=by simp;omega
  rw[h1,h2]
  unfold nX
  cases decide (97≤s[n].toNat)<;>cases decide (s[n].toNat≤122)<;>simp
def hP (s:List UInt8):Bool:=y0 s&& !s.any nX
theorem WO (hs:s.length≤200000):(ev E).call 44 [LV.str s] μ=some (.ret (LV.bool (hP s)) μ):=by
 refine aJ ?_
 rw[Za,WZ hs]
 simp only[ad,ao,aa,ak,am,ah,ae,aj,aA,cond_true,cond_false,Bool.not_true,Bool.not_false,av,au,aq]
 have hG:SM (ev E) s μ=some (qL (!s.any nX) μ):=by
  refine aR ?_
  have:=VW (μ:=μ) hs s.length 0 (by omega)
  have e0:((0:Nat):Int)=0:=rfl
  rw[e0,List.drop_zero]at this
  rw[Ui,this,aa]
  cases s.any nX with
  |true=>rw[if_pos rfl,L6];rfl
  |false=>rw[if_neg (by simp),L7];rfl
 rw[hG,aa,LH]
 unfold hP
 cases y0 s<;>rfl
def E9 (b:UInt8):Bool:= !((decide (97≤b.toNat)&&decide (b.toNat≤122))||(decide (65≤b.toNat)&&decide (b.toNat≤90))||(decide (48≤b.toNat)&&decide (b.toNat≤57))||decide (b.toNat=95))
theorem PP:E9=fun b=> !bE b:=by
 funext b
 unfold E9 bE bh aL
 rfl
theorem z8 {p:UInt8→Bool}: ∀(l:List UInt8),(!l.any fun b=> !p b)=l.all p
 |[]=>rfl
 |c::r=>by rw[List.any_cons,List.all_cons,Bool.not_or,z8 r,Bool.not_not]
theorem Id: ∀i:Fin 256,(upB (UInt8.ofNat i.val)=UInt8.ofNat i.val)↔nX (UInt8.ofNat i.val)=false:=by decide
theorem US (c:UInt8):upB c=c↔nX c=false:=by
 have:=Id ⟨c.toNat,UInt8.toNat_lt c⟩
 simpa using this
theorem pp: ∀(l:List UInt8),l.map upB=l↔l.any nX=false
 |[]=>by simp
 |c::r=>by
  rw[List.map_cons,List.any_cons,List.cons.injEq,US,pp r,Bool.or_eq_false_iff]
theorem W2 (hs:s.length≤200000):(ev E).call 91 [LV.str s] μ=some (.ret (LV.bool (hP s)) μ):=by
 refine aJ ?_
 rw[Zs]
 cases s with
 |nil=>rfl
 |cons c r=>
  have h0:decide (c::r=[])=false:=by simp
  have h1:bu (c::r) 0=some c:=rfl
  rw[h0,Bool.not_false,cond_true,h1,aa,yS]
  simp only[ad,ao,aa,ak,am,ah,ae,aj,aA,cond_true,cond_false,Bool.not_true,Bool.not_false,av,au,aq]
  rw[D3 (s:=c::r) (by omega)]
  simp only[ad,ao,aa,ak,am,ah,ae,aj,aA,cond_true,cond_false,Bool.not_true,Bool.not_false,av,au,aq]
  rw[D2 (g:=137) (p:=E9) rfl]
  simp only[ad,ao,aa,ak,am,ah,ae,aj,aA,cond_true,cond_false,Bool.not_true,Bool.not_false,av,au,aq]
  unfold hP y0
  rw[show my bh (c::r)=bh c from rfl,PP,z8]
  have h2:decide (((c::r).length:Int)≤31)=decide ((c::r).length≤31):=by
   by_cases h:(c::r).length≤31
   ·rw[decide_eq_true h];simp only[decide_eq_true_eq];omega
   ·rw[decide_eq_false h];simp only[decide_eq_false_iff_not];omega
  rw[h2]
  cases hp:(c::r).all bE with
  |false=>cases decide ((c::r).length≤31)<;>cases bh c<;>cases decide (Lib.toUpperD (c::r)=c::r)<;>simp
  |true=>
   have hu:Lib.toUpperD (c::r)=(c::r).map upB:=lN _ fun b hb=>vX (List.all_eq_true.1 hp b hb)
   have h3:decide (Lib.toUpperD (c::r)=c::r)= !(c::r).any nX:=by
    rw[hu]
    cases hl:(c::r).any nX with
    |false=>rw[decide_eq_true ((pp _).2 hl)];rfl
    |true=>rw[decide_eq_false (fun e=>by rw[(pp _).1 e]at hl;cases hl)];rfl
   rw[h3]
   cases decide ((c::r).length≤31)<;>cases bh c<;>cases (c::r).any nX<;>simp
def E8 (b:UInt8):Bool:=decide (b.toNat<48)||decide (57<b.toNat)
theorem PO:E8=fun b=> !aL b:=by
 funext b
 unfold E8 aL
 rw[Bool.not_and]
 congr 1
 ·by_cases h:48≤b.toNat
  ·rw[decide_eq_true h,decide_eq_false (by omega)];rfl
  ·rw[decide_eq_false h,decide_eq_true (by omega)];rfl
 ·by_cases h:b.toNat≤57
  ·rw[decide_eq_true h,decide_eq_false (by omega)];rfl
  ·rw[decide_eq_false h,decide_eq_true (by omega)];rfl
def ka (t:List UInt8):Bool:=decide (t.length≤10)&&t.all aL&&my (fun c=> !decide (c=48)||decide (t=[48])) t
def gH (k:Int)(t:List UInt8):Int:=
 if k=0 then(if ka t then(if 2147483647<valD 0 t then 28 else 0)else 3)
 else if k=1∨k=2∨k=5∨k=6 then(if iq t=some ⟨1,k,t⟩then 0 else 3)else 15
theorem rS {k:Int}(hs:s.length≤200000){b:Bool}(hb:b=decide (k=1∨k=2∨k=5∨k=6))(hk:k≠0):
  (opt (nu (ev E) k s b μ) (kB (ev E) 90 H90 [.block 0,.seq (cA 90 [1,1])]))=some (.ret (LV.int .i64 (gH k s)) μ):=by
 subst hb
 by_cases h:k=1∨k=2∨k=5∨k=6
 ·have:nu (ev E) k s (decide (k=1∨k=2∨k=5∨k=6)) μ=some (iL (gH k s) μ):=by
   refine aR ?_
   rw[Eh,decide_eq_true h,cond_true,Vs hs]
   unfold gH
   rw[if_neg hk,if_pos h]
   simp only[ad,ao,aa,ak,am,ah,ae,aj,aA,cond_true,cond_false,Bool.not_true,Bool.not_false,av,au,aq]
   cases hq:iq s with
   |none=>rfl
   |some t=>
    simp only[Wj,ad,ao,aa,ak,am,ah,ae,aj,aA,cond_true,cond_false,Bool.not_true,Bool.not_false,av,au,aq,ef]
    obtain⟨a,b,c⟩:=t
    simp only
    by_cases h1:a=1
    ·by_cases h2:b=k
     ·by_cases h3:c=s
      ·subst h1;subst h2;subst h3
       simp
      ·have: ¬(some (Tok.mk a b c)=some (Tok.mk 1 k s)):=fun e=>h3 (by injection e with e;injection e)
       rw[if_neg this,decide_eq_true h1,decide_eq_true h2,decide_eq_false h3];rfl
     ·have: ¬(some (Tok.mk a b c)=some (Tok.mk 1 k s)):=fun e=>h2 (by injection e with e;injection e)
      rw[if_neg this,decide_eq_true h1,decide_eq_false h2];rfl
    ·have: ¬(some (Tok.mk a b c)=some (Tok.mk 1 k s)):=fun e=>h1 (by injection e with e;injection e)
     rw[if_neg this,decide_eq_false h1];rfl
  rw[this,aa,Hf]
 ·have:nu (ev E) k s (decide (k=1∨k=2∨k=5∨k=6)) μ=some (te μ):=by
   refine aR ?_
   rw[Eh,decide_eq_false h,cond_false]
  rw[this,aa,Hg]
  unfold gH
  rw[if_neg hk,if_neg h]
theorem YW {t:List UInt8}(h1:t.length≤10)(h2:t.all aL=true)(h3:t≠[]):dh t=(valD 0 t:Nat):=by
 unfold dh
 rw[jB (fun b hb=>List.all_eq_true.1 h2 b hb) h3 h1]
theorem UD {t:List UInt8}(h1:t.length≤10)(h2:t.all aL=true)(h3:t≠[]):
  (opt (B1 (ev E) t μ) (kB (ev E) 90 H90 [.block 0,.seq (cA 90 [1,1])]))=some (.ret (LV.int .i64 (if 2147483647<valD 0 t then 28 else 0)) μ):=by
 have:B1 (ev E) t μ=some (qR (if 2147483647<valD 0 t then 28 else 0) μ):=by
  refine aR ?_
  rw[Us,yR (by omega),re,YW h1 h2 h3]
  simp only[ad,ao,aa,ak,am,ah,ae,aj,aA,cond_true,cond_false,Bool.not_true,Bool.not_false,av,au,aq,j8]
  by_cases h:2147483647<valD 0 t
  ·rw[if_pos h,show decide ((2147483647:Int)<((valD 0 t:Nat):Int))=true by simp;omega];rfl
  ·rw[if_neg h,show decide ((2147483647:Int)<((valD 0 t:Nat):Int))=false by simp;omega];rfl
 rw[this,aa,LS]
theorem S5 {k:Int}(hs:s.length≤200000):(ev E).call 90 [LV.int .i64 k,LV.str s] μ=some (.ret (LV.int .i64 (gH k s)) μ):=by
 refine aJ ?_
 rw[Zr]
 by_cases h0:k=0
 ·subst h0
  rw[decide_eq_true rfl,cond_true]
  unfold gH ka
  rw[if_pos rfl]
  cases s with
  |nil=>rfl
  |cons c r=>
   have e0:decide (c::r=[])=false:=by simp
   have e1:bu (c::r) 0=some c:=rfl
   have e2:decide ((10:Int)<((c::r).length:Int))= !decide ((c::r).length≤10):=by
    by_cases h:(c::r).length≤10
    ·rw[decide_eq_true h];exact decide_eq_false (by omega)
    ·rw[decide_eq_false h];exact decide_eq_true (by omega)
   have e3:decide ((c.toNat:Int)=48)=decide (c=48):=cq (k:=48) (by omega)
   rw[e0,cond_false,e1,e2,D2 (g:=132) (p:=E8) rfl,PO]
   simp only[ad,ao,aa,ak,am,ah,ae,aj,aA,cond_true,cond_false,Bool.not_true,Bool.not_false,av,au,aq]
   rw[e3]
   have e4:((c::r).any fun b=> !aL b)= !(c::r).all aL:=by rw[←z8 (p:=aL),Bool.not_not]
   rw[e4]
   show _=some (Out.ret (LV.int .i64 (if(decide ((c::r).length≤10)&&(c::r).all aL&&(!decide (c=48)||decide (c::r=[48])))=true then(if 2147483647<valD 0 (c::r)then 28 else 0)else 3)) μ)
   by_cases h1:(c::r).length≤10
   ·cases h2:(c::r).all aL with
    |false=>rw[decide_eq_true h1];rfl
    |true=>
     rw[UD h1 h2 (by simp),decide_eq_true h1]
     cases decide (c=48)<;>cases decide (c::r=[48])<;>simp
   ·rw[decide_eq_false h1];rfl
 ·rw[decide_eq_false h0,cond_false]
  by_cases h1:k=1
  ·rw[decide_eq_true h1,cond_true]
   exact rS hs (by rw[decide_eq_true (Or.inl h1)]) h0
  ·rw[decide_eq_false h1,cond_false]
   by_cases h2:k=2
   ·rw[decide_eq_true h2,cond_true]
    exact rS hs (by rw[decide_eq_true (Or.inr (Or.inl h2))]) h0
   ·rw[decide_eq_false h2,cond_false]
    by_cases h5:k=5
    ·rw[decide_eq_true h5,cond_true]
     exact rS hs (by rw[decide_eq_true (Or.inr (Or.inr (Or.inl h5)))]) h0
    ·rw[decide_eq_false h5,cond_false]
     exact rS hs (by simp[h1,h2,h5]) h0
def Dg (t:Tok):Int:=
 if t.kind=1 then gH t.type t.text
 else if t.kind=0∨t.kind=2 then
  if t.type=0 then(if t.kind=0 then(if hP t.text then 0 else 4)else(if cL.contains t.text||bV.contains t.text then 0 else 7))else 3
 else 15
theorem Sl {a b:Int}(ha:a=0∨a=2):Cz (ev E) a b s μ=some (j0 (if a=0 then 0 else(if cL.contains s||bV.contains s then 0 else 7)) μ):=by
 refine aR ?_
 rw[RQ]
 rcases ha with rfl|rfl
 ·rfl
 ·rw[decide_eq_true rfl,cond_true,S6,ad,au,aa,yU (by decide)]
  simp only[ad,ao,aa,ak,am,ah,ae,aj,aA,cond_true,cond_false,Bool.not_true,Bool.not_false,av,au,aq]
  rw[Lh,ad,au,aa,yU (by decide)]
  simp only[ad,ao,aa,ak,am,ah,ae,aj,aA,cond_true,cond_false,Bool.not_true,Bool.not_false,av,au,aq]
  rw[if_neg (by decide)]
  cases cL.contains s<;>cases bV.contains s<;>rfl
theorem UH {a b:Int}(hs:s.length≤200000)(ha:a=0∨a=2):SN (ev E) a b s μ=some (qN (if a=0 then(if hP s then 0 else 4)else(if cL.contains s||bV.contains s then 0 else 7)) μ):=by
 refine aR ?_
 rw[Uj,W2 hs]
 simp only[ad,ao,aa,ak,am,ah,ae,aj,aA,cond_true,cond_false,Bool.not_true,Bool.not_false,av,au,aq]
 rw[Sl ha,aa,G9]
 rcases ha with rfl|rfl
 ·rw[decide_eq_true rfl,cond_true]
  cases hP s<;>rfl
 ·rfl
theorem WR {t:Tok}(hs:t.text.length≤200000):(ev E).call 55 [LV.cv t.cv] μ=some (.ret (LV.int .i64 (Dg t)) μ):=by
 refine aJ ?_
 obtain⟨a,b,s⟩:=t
 show aD E (ev E) 55 [LV.cv (CV.agg [CV.int .i64 a,CV.int .i64 b,CV.str s])] μ=_
 rw[Zd,S5 hs]
 simp only[ad,ao,aa,ak,am,ah,ae,aj,aA,cond_true,cond_false,Bool.not_true,Bool.not_false,av,au,aq]
 unfold Dg
 simp only
 by_cases h1:a=1
 ·rw[if_pos h1,decide_eq_true h1,cond_true]
 ·rw[if_neg h1,decide_eq_false h1,cond_false]
  have key: ∀x:Bool,x=decide (a=0∨a=2)→(opt (xO (ev E) x a b s μ) (kB (ev E) 55 H55 [.block 0,.seq (cA 55 [1,1])]))=
    some (.ret (LV.int .i64 (if a=0∨a=2 then(if b=0 then(if a=0 then(if hP s then 0 else 4)else(if cL.contains s||bV.contains s then 0 else 7))else 3)else 15)) μ):=by
   intro x hx
   subst hx
   by_cases h:a=0∨a=2
   ·have:xO (ev E) (decide (a=0∨a=2)) a b s μ=some (qM (if b=0 then(if a=0 then(if hP s then 0 else 4)else(if cL.contains s||bV.contains s then 0 else 7))else 3) μ):=by
     refine aR ?_
     rw[JW,decide_eq_true h,cond_true,UH hs h,aa,LK]
     by_cases hb:b=0
     ·rw[decide_eq_true hb,if_pos hb];rfl
     ·rw[decide_eq_false hb,if_neg hb];rfl
    rw[this,aa,LI,if_pos h]
   ·have:xO (ev E) (decide (a=0∨a=2)) a b s μ=some (wO μ):=by
     refine aR ?_
     rw[JW,decide_eq_false h,cond_false]
    rw[this,aa,LJ,if_neg h]
  by_cases h0:a=0
  ·rw[decide_eq_true h0,cond_true]
   exact key _ (by rw[decide_eq_true (Or.inl h0)])
  ·rw[decide_eq_false h0,cond_false]
   exact key _ (by simp[h0])
end
end Go.Abs
set_option linter.unusedVariables false
set_option linter.unusedSimpArgs false
set_option maxRecDepth 100000
namespace Go.Abs
open Go Go.Proofs
section
variable {μ:Mu}{s:List UInt8}
def zq (k:Int)(t:List UInt8):Int:=if(bx false t).e=0∧eI false t=[⟨1,k,t⟩]then 0 else 3
def rQ (k:Int)(t:List UInt8):Int:=if 122<t.length∨bZ t≠0 then 3 else zq k t
theorem X2 {l:List Tok}:bp (if bZ s=0 then LV.cv (CV.sl (aV (eI false s)))else E5)=some (aV (eI false s)):=by
 by_cases ht:bZ s=0
 ·rw[if_pos ht];rfl
 ·rw[if_neg ht]
  have hsc:bx false s=⟨[],[],0,bZ s⟩:=by unfold bx;rw[if_neg ht]
  have:eI false s=[]:=by unfold eI;rw[hsc];exact if_neg ht
  rw[this];rfl
theorem UO {t:Tok}{k:Int}{s:List UInt8}:(decide (t.kind=1)&&(decide (t.type=k)&&(decide (t.text=s)&&true)))=decide (t=⟨1,k,s⟩):=by
 obtain⟨a,b,c⟩:=t
 exact Wv ⟨a,b,c⟩ ⟨1,k,s⟩
theorem UG {k:Int}(hs:s.length≤200000):MM (ev E) k s μ=some (jX (zq k s) μ):=by
 refine aR ?_
 rw[Ru,WK hs]
 simp only[ad,ao,aa,ak,am,ah,ae,aj,aA,cond_true,cond_false,Bool.not_true,Bool.not_false,av,au,aq]
 rw[X2 (l:=[]),aa]
 unfold zq
 by_cases he:(bx false s).e=0
 ·rw[decide_eq_true he,Bool.not_true,cond_false]
  have hl:(aV (eI false s)).length=(eI false s).length:=by simp[aV]
  rw[hl]
  match h:eI false s with
  |[]=>rw[if_neg (by simp)];rfl
  |[t]=>
   have e1:bm (aV [t]) (0:Int)=some t.cv:=rfl
   rw[show decide ((([t]:List Tok).length:Int)=1)=true from rfl,Bool.not_true,cond_false,e1,aa,ef,UO]
   by_cases ht:t=⟨1,k,s⟩
   ·rw[decide_eq_true ht,if_pos ⟨he,by rw[ht]⟩];rfl
   ·rw[decide_eq_false ht,if_neg (fun e=>ht (by simpa using e.2))];rfl
  |a::b::r=>
   have:decide (((a::b::r).length:Int)=1)=false:=by simp;omega
   rw[this,if_neg (by simp)];rfl
 ·rw[decide_eq_false he,if_neg (fun e=>he e.1)];rfl
theorem UF {k:Int}(hs:s.length≤200000):pB (ev E) k s μ=some (mg (rQ k s) μ):=by
 refine aR ?_
 rw[Rt,S3 hs]
 simp only[ad,ao,aa,ak,am,ah,ae,aj,aA,cond_true,cond_false,Bool.not_true,Bool.not_false,av,au,aq]
 rw[UG hs,aa,Gv]
 unfold rQ
 by_cases h1:122<s.length
 ·rw[if_pos (Or.inl h1),show decide ((122:Int)<(s.length:Int))=true from decide_eq_true (by omega)];rfl
 ·rw[show decide ((122:Int)<(s.length:Int))=false from decide_eq_false (by omega),cond_false]
  by_cases h2:bZ s=0
  ·rw[decide_eq_true h2,if_neg (by simp[h1,h2])];rfl
  ·rw[decide_eq_false h2,if_pos (Or.inr h2)];rfl
def uN (t:List UInt8):Bool:=decide (t.length=10)&&(decide (digR t 0=10)&&(my (fun c=> !decide (c=48)) t&& !(Op.bytesLess t cJ||decide (t=cJ))))
def Ck (k:Int)(t:List UInt8):Int:=
 if !(decide (0≤k)&&decide (k≤6))||(decide (k=3)||decide (k=4))then 15
 else if k=0∧uN t=true then 28 else rQ k t
theorem UE {k:Int}(hs:s.length≤200000):ML (ev E) k s μ=some (mf (if k=0∧uN s=true then 28 else rQ k s) μ):=by
 refine aR ?_
 rw[Rs]
 have h47:=yT (μ:=μ) hs (n:=0) (Nat.zero_le _)
 have e0:((0:Nat):Int)=0:=rfl
 rw[e0]at h47
 rw[h47]
 simp only[ad,ao,aa,ak,am,ah,ae,aj,aA,cond_true,cond_false,Bool.not_true,Bool.not_false,av,au,aq]
 rw[UF hs,aa,Gu]
 by_cases h0:k=0
 ·rw[decide_eq_true h0,cond_true]
  unfold uN
  by_cases h1:s.length=10
  ·rw[show decide ((s.length:Int)=10)=true from decide_eq_true (by omega),cond_true,decide_eq_true h1]
   by_cases h2:digR s 0=10
   ·rw[show decide ((digR s 0:Int)=10)=true from decide_eq_true (by omega),cond_true,decide_eq_true h2]
    match s,h1 with
    |c::r,h1=>
     have e3:decide ((c.toNat:Int)=48)=decide (c=48):=cq (k:=48) (by omega)
     rw[show bu (c::r) 0=some c from rfl,aa,e3]
     show _=some (mf (if k=0∧(true&&(true&&(!decide (c=48)&& !(Op.bytesLess (c::r) cJ||decide (c::r=cJ)))))=true then 28 else rQ k (c::r)) μ)
     simp only[h0,true_and,Bool.true_and]
     have e4:([50,49,52,55,52,56,51,54,52,55]:List UInt8)=cJ:=rfl
     rw[e4]
     cases decide (c=48)<;>cases (Op.bytesLess (c::r) cJ||decide (c::r=cJ))<;>rfl
   ·rw[show decide ((digR s 0:Int)=10)=false from decide_eq_false (by omega),cond_false,decide_eq_false h2]
    simp
  ·rw[show decide ((s.length:Int)=10)=false from decide_eq_false (by omega),cond_false,decide_eq_false h1]
   simp
 ·rw[decide_eq_false h0,cond_false,if_neg (by simp[h0])]
theorem Vp {k:Int}(hs:s.length≤200000):(ev E).call 122 [LV.int .i64 k,LV.str s] μ=some (.ret (LV.int .i64 (Ck k s)) μ):=by
 refine aJ ?_
 rw[Xl,kV]
 simp only[ad,ao,aa,ak,am,ah,ae,aj,aA,cond_true,cond_false,Bool.not_true,Bool.not_false,av,au,aq]
 rw[UE hs,aa,Gt]
 unfold Ck
 cases decide (0≤k)<;>cases decide (k≤6)<;>cases decide (k=3)<;>cases decide (k=4)<;>rfl
end
end Go.Abs
set_option linter.unusedVariables false
namespace Go.Abs
open Go
structure Nd where
 kind:Int
 typ:Int
 text:List UInt8
 args:List Int
 deriving DecidableEq
def Nd.cv (x:Nd):CV:= .agg [.int .i64 x.kind,.int .i64 x.typ,.str x.text,.sl (x.args.map (CV.int .i64))]
def aS (l:List Nd):List CV:=l.map Nd.cv
inductive T where
 |mk (kind typ:Int) (text:List UInt8) (args:List (Option T))
def T.kind:T→Int| .mk k _ _ _=>k
def T.typ:T→Int| .mk _ t _ _=>t
def T.text:T→List UInt8| .mk _ _ s _=>s
def T.args:T→List (Option T)| .mk _ _ _ a=>a
mutual
def T.cv:T→CV
 | .mk k t s az=> .view [.int .i64 k,.int .i64 t,.str s,.sl (bA az)]
def bA:List (Option T)→List CV
 |[]=>[]
 |x::r=>gy x::bA r
def gy:Option T→CV
 |none=> .v (.pointer none)
 |some t=>t.cv
end
mutual
def T.size:T→Nat
 | .mk _ _ _ az=>1+sizeA az
def sizeA:List (Option T)→Nat
 |[]=>0
 |x::r=>iE x+sizeA r
def iE:Option T→Nat
 |none=>0
 |some t=>t.size
end
def Fs (b:Nat):List (Option T)→List Int
 |[]=>[]
 |none::r=> -1::Fs b r
 |some t::r=>(((b+t.size:Nat):Int) -1)::Fs (b+t.size) r
mutual
def T.flat (b:Nat):T→List Nd
 | .mk k t s az=>yB b az++[⟨k,t,s,Fs b az⟩]
def yB (b:Nat):List (Option T)→List Nd
 |[]=>[]
 |x::r=>Ca b x++yB (b+iE x) r
def Ca (b:Nat):Option T→List Nd
 |none=>[]
 |some t=>t.flat b
end
mutual
theorem T.flat_len (b:Nat): ∀t:T,(t.flat b).length=t.size
 | .mk k t s az=>by
  rw[T.flat,T.size,List.length_append,A4 b az]
  simp;omega
theorem A4 (b:Nat): ∀l:List (Option T),(yB b l).length=sizeA l
 |[]=>by rw[yB,sizeA];rfl
 |x::r=>by rw[yB,sizeA,List.length_append,Oz b x,A4 _ r]
theorem Oz (b:Nat): ∀x:Option T,(Ca b x).length=iE x
 |none=>by rw[Ca,iE];rfl
 |some t=>by rw[Ca,iE];exact T.flat_len b t
end
theorem m6: ∀l:List (Option T),bA l=l.map gy
 |[]=>by rw[bA];rfl
 |x::r=>by rw[bA,m6 r];rfl
end Go.Abs
set_option linter.unusedVariables false
set_option linter.unusedSimpArgs false
set_option maxRecDepth 100000
namespace Go.Abs
open Go Go.Proofs
section
variable {μ:Mu}
def V5:List Int:=[10,10,10,0,10,10,7,7,4,9,8,8,7,7,6,5,5,5,5,5,5,3,2,1,1]
def O5:List Int:=[0,0,1,3,2,1,1,1,1,2,2,2,2,2,2,2,2,2,2,2,2,2,2,2,2]
def S8:List Int:=[0,0,7,3,2,1,1,1,1,2,2,2,2,2,2,2,2,2,2,2,2,2,2,2,2]
def S9:List (List Int):=[[],[],[],[],[],[],[8],[8],[4],[10,9],[8,9],[8,9],[7,8],[7,8],[6,7],[6,6],[6,6],[6,6],[6,6],[6,6],[6,6],[3,4],[2,3],[1,2],[1,2]]
def PU:List (List UInt8):=[[],[],[],[],[],[],[43],[45],[46,78,79,84,46],[42,42],[42],[47],[43],[45],[47,47],[46,76,84,46],[46,76,69,46],[46,69,81,46],[46,78,69,46],[46,71,69,46],[46,71,84,46],[46,65,78,68,46],[46,79,82,46],[46,69,81,86,46],[46,78,69,81,86,46]]
def lvl (k:Int):Int:=V5.getD k.toNat 0
def kW (k:Int):Int:=O5.getD k.toNat 0
def f9 (k:Int):Int:=S8.getD k.toNat 0
def jm (k:Int):List Int:=S9.getD k.toNat []
def zj (k:Int):List UInt8:=PU.getD k.toNat []
def a8 (l:List Int):List CV:=l.map (CV.int .i64)
def ZF (k:Nat):CV:=match S9.getD k []with|[]=> .v (.slice none 0 0)|l=> .sl (a8 l)
def shp (k:Nat):List CV:=[.int .i64 (V5.getD k 0),.int .i64 (O5.getD k 0),.int .i64 (S8.getD k 0),ZF k,.str (PU.getD k [])]
def ei:List CV:=(List.range 25).flatMap shp
theorem Bu {β:Type}{a b c:Int}{l:List CV}{s:List UInt8}{k:Int→Int→Int→List CV→List UInt8→Option β}:dm (LV.cv (CV.agg [CV.int .i64 a,CV.int .i64 b,CV.int .i64 c,CV.sl l,CV.str s])) k=k a b c l s:=rfl
theorem OP {a b c:Int}{d:List UInt8}:(ev E).call 119 [LV.int .i64 a,LV.int .i64 b,LV.int .i64 c,LV.str d] μ=some (.ret (LV.cv (CV.agg [CV.int .i64 a,CV.int .i64 (2:Int),CV.int .i64 (2:Int),CV.sl [CV.int .i64 b,CV.int .i64 c],CV.str d])) μ):=by
 refine aJ ?_
 rw[Xi]
theorem Vm {d:List UInt8}:(ev E).call 118 [LV.str d] μ=some (.ret (LV.cv (CV.agg [CV.int .i64 5,CV.int .i64 (2:Int),CV.int .i64 (2:Int),CV.sl [CV.int .i64 6,CV.int .i64 6],CV.str d])) μ):=by
 refine aJ ?_
 rw[Xh,OP,ad,Bu]
theorem oY:(ev E).call 69 [] μ=some (.ret (LV.cv (CV.agg ei)) μ):=by
 refine aJ ?_
 rw[Zh]
 simp only[OP,Vm,ad,Bu]
 rfl
theorem Ww: ∃d,E.P.underlying 113=some d:=by
 have h:(E.P.underlying 113).isSome=true:=by kernel_rfl
 exact Option.isSome_iff_exists.1 h
theorem UY:bD E.P 113=true:=by kernel_rfl
theorem UL:bU E.P 113=some 5:=by kernel_rfl
theorem UN {cs:List CV}{off:Nat}(h:off+5≤cs.length):el E.P 113 cs off=some (.agg ((cs.drop off).take 5)):=by
 obtain⟨d,hd⟩:=Ww
 have hb:Nat.ble (off+5) cs.length=true:=Nat.ble_eq_true_of_le h
 simp only[el,hd,aa,fE,UY,UL,hb]
theorem oV {i:Int}{n:Nat}(h0:0≤i)(h1:i<n):bW i n=true:=by simp[bW,h0,h1]
theorem jS {β:Type}{k:Int}(h0:0≤k)(h1:k<25){f:Int→Int→Int→List CV→List UInt8→Option β}:
  (ax (bW k 25) (opt (el E.P 113 ei (Int.toNat k*5)) fun c=>dm (LV.cv c) f))=f (lvl k) (kW k) (f9 k) (a8 (jm k)) (zj k):=by
 obtain⟨n,rfl⟩:=Int.eq_ofNat_of_zero_le h0
 have hn:n<25:=by omega
 rw[oV h0 (by omega),aA,Int.toNat_natCast,UN (by show n*5+5≤125;omega),aa]
 iterate 25 (rcases n with _|n; · rfl)
 omega
theorem vz {a b c:Int}:(ev E).call 72 [LV.int .i64 a,LV.int .i64 b,LV.int .i64 c] μ=some (.ret (LV.bool (decide (b≤a)&&decide (a≤c))) μ):=by
 refine aJ ?_
 rw[Zk]
 cases decide (b≤a)<;>rfl
theorem eC {l:List Int}{i:Nat}:bm (a8 l) (i:Int)=(l[i]?).map (CV.int .i64):=by
 rw[fD]
 simp[a8]
def da (k:Int)(n:Nat)(v:Int):Bool:=match(jm k)[n]? with|some a=>decide (a≤v)|none=>true
theorem OO {k v:Int}{n:Nat}(h0:0≤k)(h1:k<25):(ev E).call 115 [LV.int .i64 k,LV.int .i64 n,LV.int .i64 v] μ=some (.ret (LV.bool (da k n v)) μ):=by
 refine aJ ?_
 rw[Xf,oY,ad]
 have e:cU (LV.cv (CV.agg ei))=some ei:=rfl
 rw[e,aa,jS h0 h1]
 unfold da
 have hl:(a8 (jm k)).length=(jm k).length:=by simp[a8]
 by_cases h:(jm k).length≤n
 ·rw[show decide (((a8 (jm k)).length:Int)≤(n:Int))=true by simp[hl];omega,cond_true,List.getElem?_eq_none h]
 ·have h':n<(jm k).length:=by omega
  rw[show decide (((a8 (jm k)).length:Int)≤(n:Int))=false by simp[hl];omega,cond_false,eC,List.getElem?_eq_getElem h',Option.map_some,aa]
  have:aC .i64 (LV.cv (CV.int .i64 (jm k)[n]))=some (jm k)[n]:=rfl
  rw[this,aa]
def Au (x:Int)(b:Bool):Option Int:=if b=true then some 7 else if x=14 then some 6 else if x=8 then some 4 else if x=21 then some 3 else if x=22 then some 2 else if x=23∨x=24 then some 1 else none
theorem Sn {a x:Int}{b:Bool}:pF (ev E) a x b μ=some (match Au x b with|some v=>fT v μ|none=>oD a μ):=by
 refine aR ?_
 rw[RN]
 unfold Au
 cases b
 ·by_cases h1:x=14
  ·subst h1;rfl
  by_cases h2:x=8
  ·subst h2;rfl
  by_cases h3:x=21
  ·subst h3;rfl
  by_cases h4:x=22
  ·subst h4;rfl
  by_cases h5:x=23
  ·subst h5;rfl
  by_cases h6:x=24
  ·subst h6;rfl
  simp[h1,h2,h3,h4,h5,h6]
 ·rfl
def Av (x:Int)(b:Bool):Option Int:=if b=true then some 8 else Au x (decide (x=6∨x=7∨x=12∨x=13))
theorem UI {a x:Int}{b:Bool}:B0 (ev E) a x b μ=some (match Av x b with|some v=>nD v μ|none=>qK a μ):=by
 refine aR ?_
 have key: ∀b,opt (pF (ev E) a x b μ) (kS (ev E) H32 [] [(0,0)])=some (match Au x b with|some v=>nD v μ|none=>qK a μ):=by
  intro b
  rw[Sn,aa]
  cases Au x b with
  |some v=>exact GZ _ _ _
  |none=>exact G5 _ _ _
 rw[Ue]
 simp only[key]
 unfold Av
 cases b
 ·by_cases h1:x=6
  ·subst h1;rfl
  by_cases h2:x=7
  ·subst h2;rfl
  by_cases h3:x=12
  ·subst h3;rfl
  by_cases h4:x=13
  ·subst h4;rfl
  simp[h1,h2,h3,h4]
 ·rfl
def uq (k:Int):Int:=if k=9 then 9 else match Av k (decide (k=10∨k=11))with|some v=>v|none=>if 15≤k∧k≤20 then 5 else 10
theorem Lf {k:Int}:(ev E).call 32 [LV.int .i64 k] μ=some (.ret (LV.int .i64 (uq k)) μ):=by
 refine aJ ?_
 have key: ∀b,opt (B0 (ev E) k k b μ) (kB (ev E) 32 H32 [.block 0,.seq (cA 32 [1,1])])=some (.ret (LV.int .i64 (match Av k b with|some v=>v|none=>if 15≤k∧k≤20 then 5 else 10)) μ):=by
  intro b
  rw[UI,aa]
  cases Av k b with
  |some v=>exact LC _ _ _
  |none=>
   dsimp only
   rw[LD,kV]
   simp only[ad,ao,aa,ak,am,ah,ae,aj,aA,cond_true,cond_false,Bool.not_true,Bool.not_false,av,au,aq]
   by_cases h1:15≤k<;>by_cases h2:k≤20<;>simp[h1,h2]
 rw[Y6]
 simp only[key]
 unfold uq
 by_cases h1:k=9
 ·subst h1;rfl
 by_cases h2:k=10
 ·subst h2;rfl
 by_cases h3:k=11
 ·subst h3;rfl
 simp[h1,h2,h3]
theorem JS {k:Int}(h0:0≤k)(h1:k<25)(h3:k≠3):uq k=lvl k:=by
 obtain⟨n,rfl⟩:=Int.eq_ofNat_of_zero_le h0
 have: ∀n:Fin 25,((n.val:Nat):Int)≠3→uq (n.val:Nat)=lvl (n.val:Nat):=by decide
 exact this ⟨n,by omega⟩ h3
def vB (k:Int)(n:Nat):Int:=if k=9 then 10-n else if k=6∨k=7 then 8 else if k=8 then 4 else if 15≤k∧k≤20 then 6 else if 10≤k∧k≤24 then uq k+n else 0
theorem Ls {k:Int}:0≤uq k∧uq k≤10:=by
 unfold uq Av Au
 repeat' split
 all_goals first|omega|(rename_i h;revert h;repeat' split)
 all_goals(intro h;first|(injection h with h;omega)|cases h)
theorem Vk {k:Int}{n:Nat}(hn:n≤1000):(ev E).call 116 [LV.int .i64 k,LV.int .i64 n] μ=some (.ret (LV.int .i64 (vB k n)) μ):=by
 refine aJ ?_
 rw[Xg,kV,bB (by omega) (by omega)]
 simp only[ad,ao,aa,ak,am,ah,ae,aj,aA,cond_true,cond_false,Bool.not_true,Bool.not_false,av,au,aq,kV,Lf]
 have hv:=Ls (k:=k)
 rw[bB (by omega) (by omega)]
 unfold vB
 by_cases h1:k=9
 ·subst h1;rfl
 by_cases h2:k=6
 ·subst h2;rfl
 by_cases h3:k=7
 ·subst h3;rfl
 by_cases h4:k=8
 ·subst h4;rfl
 by_cases h5:15≤k<;>by_cases h6:k≤20<;>by_cases h7:10≤k<;>by_cases h8:k≤24<;>simp[h1,h2,h3,h4,h5,h6,h7,h8]
theorem Ro {k:Int}(h0:6≤k)(h1:k<25){n:Nat}(hn:(n:Int)<f9 k)(v:Int):da k n v= !decide (v<vB k n):=by
 obtain⟨m,rfl⟩:=Int.eq_ofNat_of_zero_le (show 0≤k by omega)
 have e: ∀m:Fin 25,∀n:Fin 2,6≤m.val→((n.val:Nat):Int)<f9 (m.val:Nat)→(jm (m.val:Nat))[n.val]? =some (vB (m.val:Nat) n.val):=by decide
 have hm: ∀m:Fin 25,6≤m.val→f9 (m.val:Nat)≤2:=by decide
 have hm25:m<25:=by omega
 have h2:=hm ⟨m,hm25⟩ (by show 6≤m;omega)
 dsimp only at h2
 have hn2:n<2:=by omega
 have h3:=e ⟨m,hm25⟩ ⟨n,hn2⟩ (by show 6≤m;omega) hn
 dsimp only at h3
 unfold da
 rw[h3]
 by_cases h:v<vB (m:Nat) n
 ·rw[decide_eq_true h]
  simp only[Bool.not_true,decide_eq_false_iff_not]
  omega
 ·rw[decide_eq_false h]
  simp only[Bool.not_false,decide_eq_true_eq]
  omega
theorem l9 {k:Int}(h0:0≤k)(h1:k<6)(n:Nat)(v:Int):da k n v=true:=by
 obtain⟨m,rfl⟩:=Int.eq_ofNat_of_zero_le h0
 have e: ∀m:Fin 6,jm (m.val:Nat)=[]:=by decide
 unfold da
 rw[e ⟨m,by omega⟩]
 rfl
def rb (k:Int):Int:=if k=0∨k=1 then 0 else if k=2 then 1 else if k=3 then 3 else if k=5∨k=6∨k=7∨k=8 then 1 else 2
def ra (k:Int):Int:=if k=0∨k=1 then 0 else if k=2 then 7 else if k=3 then 3 else if k=5∨k=6∨k=7∨k=8 then 1 else 2
theorem UZ {k:Int}(h0:0≤k)(h1:k<25):rb k=kW k∧ra k=f9 k:=by
 obtain⟨n,rfl⟩:=Int.eq_ofNat_of_zero_le h0
 have: ∀n:Fin 25,rb (n.val:Nat)=kW (n.val:Nat)∧ra (n.val:Nat)=f9 (n.val:Nat):=by decide
 exact this ⟨n,by omega⟩
theorem Vn {k:Int}:(ev E).call 120 [LV.int .i64 k] μ=some (.ret (LV.ltup [LV.int .i64 (rb k),LV.int .i64 (ra k)]) μ):=by
 refine aJ ?_
 have seg: ∀b,(b=true→k=0∨k=1)→(b=false→k≠0∧k≠1)→opt (xM (ev E) k b μ) (kB (ev E) 120 wD [.block 0,.seq (cA 120 [1,1])])=some (.ret (LV.ltup [LV.int .i64 (rb k),LV.int .i64 (ra k)]) μ):=by
  intro b hb hb2
  have hG:xM (ev E) k b μ=some (if k=0∨k=1∨k=2∨k=3∨k=5∨k=6∨k=7∨k=8 then fS (rb k) (ra k) μ else jW μ):=by
   refine aR ?_
   rw[Rr]
   unfold rb ra
   cases b with
   |true=>rcases hb rfl with rfl|rfl<;>rfl
   |false=>
    obtain⟨h0,h1⟩:=hb2 rfl
    by_cases h2:k=2
    ·subst h2;rfl
    by_cases h3:k=3
    ·subst h3;rfl
    by_cases h5:k=5
    ·subst h5;rfl
    by_cases h6:k=6
    ·subst h6;rfl
    by_cases h7:k=7
    ·subst h7;rfl
    by_cases h8:k=8
    ·subst h8;rfl
    simp[h0,h1,h2,h3,h5,h6,h7,h8]
  rw[hG,aa]
  split
  ·exact Gr _ _ _ _
  ·rename_i h
   rw[Gs]
   unfold rb ra
   simp only[not_or]at h
   simp[h.1,h.2.1,h.2.2.1,h.2.2.2.1,h.2.2.2.2.1,h.2.2.2.2.2.1,h.2.2.2.2.2.2.1,h.2.2.2.2.2.2.2]
 rw[Xj]
 by_cases h0:k=0
 ·rw[decide_eq_true h0,cond_true]
  exact seg _ (fun _=> .inl h0) (fun h=>by cases h)
 ·rw[decide_eq_false h0,cond_false]
  refine seg _ (fun h=> .inr (by simpa using h)) (fun h=>⟨h0,by simpa using h⟩)
def nQ (k:Int):Bool:=decide (k=0)||(decide (k=1)||decide (k=2))
theorem Vo {k:Int}:(ev E).call 121 [LV.int .i64 k] μ=some (.ret (LV.bool (nQ k)) μ):=by
 refine aJ ?_
 rw[Xk]
 unfold nQ
 cases decide (k=0)<;>cases decide (k=1)<;>rfl
end
end Go.Abs
set_option linter.unusedVariables false
set_option linter.unusedSimpArgs false
namespace Go.Abs
open Go
def bI (ts:List T)(a:Int):Option T:=if a= -1 then none else ts[a.toNat]?
def mkT (ts:List T)(x:Nd):T:= .mk x.kind x.typ x.text (x.args.map (bI ts))
def jn (i:Nat)(k a:Int):Bool:=(decide (0≤a)&&decide (a≤(i:Int) -1))||(decide (a= -1)&&decide (k=3))
def jf (x:Nd):Bool:=(nQ x.kind||decide (x.text=[]))&&(decide (x.kind=0)||decide (x.typ=0))
def szT (ts:List T)(a:Int):Int:=match ts[a.toNat]? with|some t=>(t.size:Int)|none=>0
def fk (ts:List T):List Int→Int→Option Int
 |[],at_=>some at_
 |a::r,at_=>if a= -1 then fk ts r at_ else if a=at_-1 then fk ts r (at_-szT ts a)else none
def gR (x:Nd):Int:=if(x.kind=1∨x.kind=2)∧hP x.text=false then 4 else if x.kind=0 then gH x.typ x.text else 0
def dX (x:Nd):Bool:=decide (0≤x.kind)&&decide (x.kind≤24)
def f7 (x:Nd):Bool:=decide (kW x.kind≤(x.args.length:Int))&&decide ((x.args.length:Int)≤f9 x.kind)
def gE (i:Nat)(x:Nd):Bool:=x.args.all (jn i x.kind)
def dS (ts:List T)(i:Nat)(x:Nd):Int:=
 if dX x=false then 15 else if f7 x=false then 10 else if(jf x&&gE i x)=false then 3 else
  match fk ts x.args.reverse i with|none=>3|some _=>gR x
def oW (t:Int):Bool:=decide (t=0)||(decide (t=1)||decide (t=2))
def ee (t:T):Bool:=
 match decide (t.kind=6∨t.kind=7),t.args with
 |true,[some u]=>decide (u.kind=0)&&oW u.typ
 |_,_=>decide (t.kind=0)&&oW t.typ
def gP (x:Option T):Bool:=match x with|some t=>ee t|none=>false
def nr (k:Int)(l:List (Option T)):Bool:= !decide (k=2)&&l.any fun x=>match x with|some t=>decide (t.kind=3)|none=>false
def opE (k:Int):Nat→List (Option T)→Int
 |_,[]=>0
 |n,x::r=>if k=4∧gP x=false then 13 else match x with
  |some t=>if da k n (lvl t.kind)=false then 9 else opE k (n+1) r
  |none=>opE k (n+1) r
def ff (t:T):Int:=if nr t.kind t.args=true then 3 else opE t.kind 0 t.args
def cC (ts:List T)(x:Nd):Int:=if dS ts ts.length x≠0 then dS ts ts.length x else ff (mkT ts x)
def gw:List Nd→List T→(Int×Int) ⊕ List T
 |[],ts=> .inr ts
 |x::r,ts=>if cC ts x≠0 then .inl ((ts.length:Int),cC ts x)else gw r (ts++[mkT ts x])
def dW (ts:List T)(j:Nat):Int:=match ts[j]? with|some t=>(j:Int)+1-t.size|none=>0
def pj (e:List Nd)(ts:List T):Int×Int:=
 match e.getLast? with
 |some x=>if x.kind=3∨dW ts (e.length-1)≠0 then((e.length:Int) -1,21)else(0,0)
 |none=>(0,0)
def du (e:List Nd):Int×Int:=
 if e=[]then(0,17)else if 120<e.length then(0,8)else match gw e []with| .inl q=>q| .inr ts=>pj e ts
def dx (ts:List T):List Int:=(List.range ts.length).map (dW ts)
theorem pk (ts:List T):(dx ts).length=ts.length:=by simp[dx]
theorem xl (ts:List T)(j:Nat):(dx ts)[j]? =(ts[j]?).map fun t=>(j:Int)+1-t.size:=by
 unfold dx dW
 rw[List.getElem?_map]
 by_cases h:j<ts.length
 ·rw[List.getElem?_range h,Option.map_some,List.getElem?_eq_getElem h];rfl
 ·rw[List.getElem?_eq_none (by simp;omega),List.getElem?_eq_none (by omega)];rfl
theorem F9 (ts:List T)(t:T){j:Nat}(h:j<ts.length):dW (ts++[t]) j=dW ts j:=by
 unfold dW
 rw[List.getElem?_append_left h]
theorem DR (ts:List T)(t:T):dW (ts++[t]) ts.length=(ts.length:Int)+1-t.size:=by
 unfold dW
 rw[List.getElem?_append_right (Nat.le_refl _)]
 simp
theorem Q3 (ts:List T)(t:T):dx (ts++[t])=dx ts++[(ts.length:Int)+1-t.size]:=by
 unfold dx
 rw[List.length_append,List.length_singleton,List.range_succ,List.map_append,List.map_cons,List.map_nil,DR]
 congr 1
 apply List.map_congr_left
 intro j hj
 exact F9 ts t (by simpa using hj)
def i6 (ts:List T):Prop:= ∀j t,ts[j]? =some t→0<t.size∧t.size≤j+1
theorem T.size_pos (t:T):0<t.size:=by
 cases t
 rw[T.size]
 omega
theorem vJ {ts:List T}(hf:i6 ts): ∀(l:List Int) (at_:Int),0≤at_→at_≤ts.length→togSt (dx ts) l at_=fk ts l at_∧ ∀v,fk ts l at_=some v→0≤v∧v≤at_
 |[],at_,h0,h1=>⟨rfl,fun v h=>by simp only[fk,Option.some.injEq]at h;omega⟩
 |a::r,at_,h0,h1=>by
  have e:togSt (dx ts) (a::r) at_=(togStep (dx ts) at_ a).bind fun x=>togSt (dx ts) r x:=rfl
  rw[e]
  unfold togStep fk
  by_cases ha:a= -1
  ·rw[if_pos ha,if_pos ha]
   exact vJ hf r at_ h0 h1
  ·rw[if_neg ha,if_neg ha]
   by_cases hb:a=at_-1
   ·rw[if_pos hb,if_pos hb,xl]
    have hlt:a.toNat<ts.length:=by omega
    have hc:((a.toNat:Nat):Int)=a:=by omega
    obtain⟨hp,hs⟩:=hf a.toNat ts[a.toNat] (List.getElem?_eq_getElem hlt)
    rw[List.getElem?_eq_getElem hlt,Option.map_some,Option.getD_some]
    have hz:szT ts a=(ts[a.toNat].size:Int):=by unfold szT;rw[List.getElem?_eq_getElem hlt]
    rw[hz,show ((a.toNat:Nat):Int)+1-(ts[a.toNat].size:Int)=at_-(ts[a.toNat].size:Int)by omega]
    obtain⟨k1,k2⟩:=vJ hf r (at_-(ts[a.toNat].size:Int)) (by omega) (by omega)
    exact⟨k1,fun v hv=>by have:=k2 v hv;omega⟩
   ·rw[if_neg hb,if_neg hb]
    exact⟨rfl,fun v h=>by cases h⟩
def szO (ts:List T)(a:Int):Int:=if a= -1 then 0 else szT ts a
def gj (ts:List T):List Int→Int
 |[]=>0
 |a::r=>szO ts a+gj ts r
theorem xK {ts:List T}: ∀(l:List Int) (at_ v:Int),fk ts l at_=some v→v=at_-gj ts l
 |[],at_,v,h=>by simp only[fk,Option.some.injEq]at h;simp only[gj];omega
 |a::r,at_,v,h=>by
  unfold fk at h
  unfold gj szO
  split at h
  ·rename_i ha
   have:=xK r at_ v h
   rw[if_pos ha];omega
  ·rename_i ha
   split at h
   ·have:=xK r _ v h
    rw[if_neg ha];omega
   ·cases h
theorem BF (ts:List T): ∀(a b:List Int),gj ts (a++b)=gj ts a+gj ts b
 |[],b=>by simp[gj]
 |x::a,b=>by rw[List.cons_append,gj,gj,BF ts a b];omega
theorem BG (ts:List T): ∀(a:List Int),gj ts a.reverse=gj ts a
 |[]=>rfl
 |x::a=>by rw[List.reverse_cons,BF,BG ts a,gj,gj,gj];omega
theorem zE (ts:List T): ∀(l:List Int),((sizeA (l.map (bI ts)):Nat):Int)=gj ts l
 |[]=>by rw[List.map_nil,sizeA];rfl
 |a::r=>by
  rw[List.map_cons,sizeA,gj]
  have:=zE ts r
  have e:((iE (bI ts a):Nat):Int)=szO ts a:=by
   unfold bI szO szT
   split
   ·rw[iE];rfl
   ·cases ts[a.toNat]? with
    |none=>rw[iE];rfl
    |some t=>rw[iE]
  omega
theorem DS {ts:List T}{x:Nd}{i v:Int}(h:fk ts x.args.reverse i=some v):i+1-((mkT ts x).size:Int)=v:=by
 have h1:=xK _ _ _ h
 rw[BG]at h1
 have h2:=zE ts x.args
 unfold mkT
 rw[T.size]
 push_cast
 omega
theorem gb {ts:List T}{x:Nd}{i:Nat}(h:dS ts i x=0):dX x=true∧f7 x=true∧jf x=true∧gE i x=true∧(∃v,fk ts x.args.reverse i=some v)∧gR x=0:=by
 unfold dS at h
 split at h
 ·cases h
 rename_i h1
 split at h
 ·cases h
 rename_i h2
 split at h
 ·cases h
 rename_i h3
 split at h
 ·cases h
 rename_i v hv
 simp only[Bool.not_eq_false,Bool.and_eq_true]at h1 h2 h3
 exact⟨h1,h2,h3.1,h3.2,⟨v,hv⟩,h⟩
theorem i6.step {ts:List T}(hf:i6 ts){x:Nd}(h:dS ts ts.length x=0):i6 (ts++[mkT ts x]):=by
 obtain⟨_,_,_,_,⟨v,hv⟩,_⟩:=gb h
 intro j t hj
 by_cases hlt:j<ts.length
 ·rw[List.getElem?_append_left hlt]at hj
  exact hf j t hj
 ·rw[List.getElem?_append_right (by omega)]at hj
  have:j-ts.length=0:=by
   rcases Nat.eq_zero_or_pos (j-ts.length)with h0|h0
   ·exact h0
   ·rw[List.getElem?_eq_none (by simp;omega)]at hj;cases hj
  rw[this]at hj
  simp only[List.getElem?_cons_zero,Option.some.injEq]at hj
  subst hj
  refine⟨T.size_pos _,?_⟩
  have h1:=DS hv
  have h2:=(vJ hf x.args.reverse ts.length (by omega) (by omega)).2 v hv
  omega
theorem MB {ts:List T}{x:Nd}(h:cC ts x=0):dS ts ts.length x=0∧ff (mkT ts x)=0:=by
 unfold cC at h
 split at h
 ·rename_i h1;exact absurd h h1
 ·rename_i h1;exact⟨by simpa using h1,h⟩
end Go.Abs
set_option linter.unusedVariables false
set_option linter.unusedSimpArgs false
set_option maxRecDepth 100000
namespace Go.Abs
open Go Go.Proofs
section
variable {μ:Mu}
theorem D1 {t:Int}:(ev E).call 123 [LV.int .i64 t] μ=some (.ret (LV.bool (decide (t=0)||(decide (t=1)||decide (t=2)))) μ):=by
 refine aJ ?_
 rw[Xm]
 cases decide (t=0)<;>cases decide (t=1)<;>rfl
theorem A8: ∀(l:List Int),intsOf (a8 l)=some l
 |[]=>rfl
 |n::r=>by
  have e:a8 (n::r)=CV.int .i64 n::a8 r:=rfl
  rw[e]
  simp only[intsOf,A8 r,aa]
theorem Vl {f zs:List Int}{nx:Int}(h:zF f zs nx=true):(ev E).call 117 [LV.cv (CV.sl (a8 f)),LV.cv (CV.sl (a8 zs)),LV.int .i64 nx] μ=some (.ret (FI (togSt f zs.reverse nx)) μ):=by
 refine eA (g:=mE) (by kernel_rfl) ?_
 simp only[mE,ak,aa,aj,av,am,A8,h,aA]
theorem WX {s:List UInt8}(hs:s.length≤200000):(ev E).call 78 [LV.str s] μ=some (.ret (LV.bool (hP s)) μ):=by
 refine aJ ?_
 have h:=WR (μ:=μ) (t:=⟨0,0,s⟩) hs
 rw[Zm]
 have e:(Tok.cv ⟨0,0,s⟩)=CV.agg [CV.int .i64 0,CV.int .i64 0,CV.str s]:=rfl
 rw[e]at h
 rw[h]
 simp only[ad,ao,aa,ak,am,ah,ae,aj,aA,cond_true,cond_false,Bool.not_true,Bool.not_false,av,au,aq]
 have:Dg ⟨0,0,s⟩=if hP s=true then 0 else 4:=rfl
 rw[this]
 cases hP s<;>rfl
theorem nB (t:T):t.cv= .view [.int .i64 t.kind,.int .i64 t.typ,.str t.text,.sl (bA t.args)]:=by
 cases t
 rw[T.cv]
 rfl
theorem qi (t:T):dc t.cv=true:=by rw[nB];rfl
theorem Ch (t:T):noB t.cv=true:=by rw[nB];rfl
theorem p5 (t:T):df 1 t.cv=true:=by rw[nB];rfl
theorem fU (t:T):gy (some t)=t.cv:=by rw[gy]
theorem kC:gy none= .v (.pointer none):=by rw[gy]
theorem QZ (x:Option T):df 1 (gy x)=true:=by
 cases x with
 |none=>rw[kC];rfl
 |some t=>rw[fU];exact p5 t
theorem BC (x:Option T):dc (gy x)=true:=by
 cases x with
 |none=>rw[kC];rfl
 |some t=>rw[fU];exact qi t
theorem qW: ∀(l:List (Option T)),cS 1 (bA l)=true
 |[]=>by rw[bA];rfl
 |x::r=>by
  rw[bA]
  simp only[cS,QZ,qW r]
theorem vP: ∀(l:List T),cS 1 (l.map T.cv)=true
 |[]=>rfl
 |t::r=>by
  rw[List.map_cons]
  simp only[cS,p5,vP r]
theorem kD (l:List (Option T)):(bA l).length=l.length:=by rw[m6];simp
theorem yg (a b:List (Option T)):bA (a++b)=bA a++bA b:=by simp only[m6,List.map_append]
theorem rc (l:List (Option T))(n:Nat):bm (bA l) (n:Int)=(l[n]?).map gy:=by
 rw[fD,m6,List.getElem?_map]
theorem xy (t:T):n0 (LV.cv t.cv)=some false:=by rw[nB];rfl
theorem lz (t:T):eU (LV.cv t.cv)=some false:=by rw[nB];rfl
theorem E6:n0 (LV.cv (gy none))=some true:=by rw[kC];rfl
theorem qq (t:T):dq (LV.cv (eM t.cv))=some [.int .i64 t.kind,.int .i64 t.typ,.str t.text,.sl (bA t.args)]:=by rw[nB];rfl
theorem cQ {n:Int}:aC .i64 (LV.cv (CV.int .i64 n))=some n:=rfl
theorem np {l:List CV}:bp (LV.cv (CV.sl l))=some l:=rfl
theorem WW {t:T}(h: ∀x,(t.kind=6∨t.kind=7)→t.args=[x]→ ∃u,x=some u):(ev E).call 76 [LV.cv t.cv] μ=some (.ret (LV.bool (ee t)) μ):=by
 refine aJ ?_
 rw[nB,Zl]
 have hl:((bA t.args).length:Int)=(t.args.length:Int):=by rw[kD]
 have plain:(cond (decide (t.kind=(0:Int))) (callK ((ev E).call 123 [LV.int .i64 t.typ] μ) (fun v29 μ30=>opt (aM v29) fun b33=>some (.ret (LV.bool b33) μ30)) pP) (some (.ret (LV.bool false) μ)))=some (.ret (LV.bool (decide (t.kind=0)&&oW t.typ)) μ):=by
  rw[D1]
  simp only[ad,ao,aa,ak,am,ah,ae,aj,aA,cond_true,cond_false,Bool.not_true,Bool.not_false,av,au,aq]
  cases decide (t.kind=0)<;>rfl
 have one: ∀u,t.args=[some u]→bm (bA t.args) (0:Int)=some u.cv:=by
  intro u hu
  have:=rc t.args 0
  rw[hu]at this ⊢
  have e0:((0:Nat):Int)=0:=rfl
  rw[e0]at this
  rw[this,List.getElem?_cons_zero,Option.map_some,fU]
 rw[hl]
 by_cases h6:t.kind=6
 ·have h7:decide (t.kind=6∨t.kind=7)=true:=by simp[h6]
  rw[decide_eq_true h6,cond_true]
  by_cases h1:t.args.length=1
  ·obtain⟨x,hx⟩:=List.length_eq_one_iff.1 h1
   obtain⟨u,rfl⟩:=h x (.inl h6) hx
   rw[show decide ((t.args.length:Int)=1)=true by simp[h1],cond_true,one u hx]
   simp only[aa,qi,aA,lz,qq,Bool.not_false,ak,cQ,iQ,np,aj,D1]
   simp only[ad,ao,aa,ak,am,ah,ae,aj,aA,cond_true,cond_false,Bool.not_true,Bool.not_false,av,au,aq]
   unfold ee
   rw[h7,hx]
   dsimp only
   unfold oW
   cases decide (u.kind=0)<;>rfl
  ·rw[show decide ((t.args.length:Int)=1)=false by simp;omega,cond_false,plain]
   unfold ee
   rw[h7]
   split
   ·rename_i u _ hu;rw[hu]at h1;simp at h1
   ·rfl
 ·rw[decide_eq_false h6,cond_false]
  by_cases h8:t.kind=7
  ·have h7:decide (t.kind=6∨t.kind=7)=true:=by simp[h8]
   rw[decide_eq_true h8,cond_true]
   by_cases h1:t.args.length=1
   ·obtain⟨x,hx⟩:=List.length_eq_one_iff.1 h1
    obtain⟨u,rfl⟩:=h x (.inr h8) hx
    rw[show decide ((t.args.length:Int)=1)=true by simp[h1],cond_true,one u hx]
    simp only[aa,qi,aA,lz,qq,Bool.not_false,ak,cQ,iQ,np,aj,D1]
    simp only[ad,ao,aa,ak,am,ah,ae,aj,aA,cond_true,cond_false,Bool.not_true,Bool.not_false,av,au,aq]
    unfold ee
    rw[h7,hx]
    dsimp only
    unfold oW
    cases decide (u.kind=0)<;>rfl
   ·rw[show decide ((t.args.length:Int)=1)=false by simp;omega,cond_false,plain]
    unfold ee
    rw[h7]
    split
    ·rename_i u _ hu;rw[hu]at h1;simp at h1
    ·rfl
  ·rw[decide_eq_false h8,cond_false,plain]
   unfold ee
   rw[show decide (t.kind=6∨t.kind=7)=false by simp[h6,h8]]
def isR:Option T→Bool
 |some t=>decide (t.kind=3)
 |none=>false
theorem Rg {k ty:Int}{s:List UInt8}{xs l:List CV}{ar:List (Option T)}(hl:ar.length≤100000): ∀(m n:Nat),n+m=ar.length→
  xV (ev E) k ty s xs (bA ar) (ar.length:Int) (n:Int) μ=some (if(!decide (k=2)&&(ar.drop n).any isR)=true then w7 3 μ else w8 k ty s xs μ):=by
 intro m
 induction m with
 |zero=>
  intro n hn
  refine aW ?_
  rw[J5,cw (by omega),cond_false,List.drop_eq_nil_of_le (by omega)]
  simp
 |succ m ih=>
  intro n hn
  have hlt:n<ar.length:=by omega
  refine aW ?_
  rw[J5,cj hlt,cond_true,rc,List.getElem?_eq_getElem hlt,Option.map_some,aa,BC,aA,bM (by omega),ih (n+1) (by omega),List.drop_eq_getElem_cons hlt,List.any_cons]
  cases ar[n]with
  |none=>
   rw[E6]
   simp only[aa,Bool.not_true,cond_false]
   rfl
  |some t=>
   rw[fU,xy]
   simp only[aa,Bool.not_false,cond_true,lz,aA,qq,ak,cQ,iQ,np,aj]
   by_cases h3:t.kind=3
   ·rw[decide_eq_true h3,cond_true,show isR (some t)=true by simp[isR,h3]]
    by_cases h2:k=2
    ·simp[h2]
    ·simp[h2]
   ·rw[decide_eq_false h3,cond_false,show isR (some t)=false by simp[isR,h3],Bool.false_or]
theorem Ri {k ty:Int}{s:List UInt8}{xs:List CV}{ar:List (Option T)}(hl:ar.length≤100000)(hk0:0≤k)(hk:k<25)
  (hok: ∀t,some t∈ar→0≤t.kind∧t.kind<25) (hp:k=4→ ∀x∈ar,∃t,x=some t∧ ∀y,(t.kind=6∨t.kind=7)→t.args=[y]→ ∃u,y=some u): ∀(m n:Nat),n+m=ar.length→
  vk (ev E) k ty s xs (bA ar) (ar.length:Int) (n:Int) μ=some (if opE k n (ar.drop n)=0 then w9 μ else nJ (opE k n (ar.drop n)) μ):=by
 intro m
 induction m with
 |zero=>
  intro n hn
  refine aW ?_
  rw[J6,cw (by omega),cond_false,List.drop_eq_nil_of_le (by omega)]
  rfl
 |succ m ih=>
  intro n hn
  have hlt:n<ar.length:=by omega
  have hmem:ar[n]∈ar:=List.getElem_mem hlt
  have hd:ar.drop n=ar[n]::ar.drop (n+1):=List.drop_eq_getElem_cons hlt
  have eag:cU (LV.cv (CV.agg ei))=some ei:=rfl
  have level: ∀t,ar[n]=some t→ ∀{β:Type} {f:Int→Int→Int→List CV→List UInt8→Option β},(ax (bW t.kind 25) (opt (el E.P 113 ei (Int.toNat t.kind*5)) fun c=>dm (LV.cv c) f))=f (lvl t.kind) (kW t.kind) (f9 t.kind) (a8 (jm t.kind)) (zj t.kind):=by
   intro t ht β f
   have:=hok t (by rw[←ht];exact hmem)
   exact jS this.1 this.2
  refine aW ?_
  rw[J6,cj hlt,cond_true,rc,List.getElem?_eq_getElem hlt,Option.map_some,aa,BC,aA,bM (by omega),ih (n+1) (by omega),hd]
  by_cases h4:k=4
  ·rw[decide_eq_true h4,cond_true]
   obtain⟨t,ht,hu⟩:=hp h4 _ hmem
   have hlev:= @level t ht
   rw[ht]at hmem ⊢
   rw[fU,WW hu,xy]
   simp only[ad,ao,aa,ak,am,ah,ae,aj,aA,cond_true,cond_false,Bool.not_true,Bool.not_false,av,au,aq,oY,eag,lz,qq,cQ,iQ,np,Bool.not_false,hlev,OO hk0 hk]
   have hpe:da k n (lvl t.kind)=true:=by subst h4;exact l9 (by omega) (by omega) n _
   have he:opE k n (some t::ar.drop (n+1))=if ee t=false then 13 else opE k (n+1) (ar.drop (n+1)):=by
    show (if k=4∧gP (some t)=false then(13:Int)else if da k n (lvl t.kind)=false then 9 else opE k (n+1) (ar.drop (n+1)))=_
    rw[hpe]
    simp[h4,gP]
   rw[hpe,he]
   simp only[Bool.not_true,cond_false]
   cases hq:ee t with
   |true=>
    simp only[Bool.not_true,cond_false,Bool.true_eq_false,if_false]
    exact ih (n+1) (by omega)
   |false=>simp
  ·rw[decide_eq_false h4,cond_false]
   cases ht:ar[n]with
   |none=>
    have he:opE k n (none::ar.drop (n+1))=opE k (n+1) (ar.drop (n+1)):=by
     show (if k=4∧gP none=false then(13:Int)else opE k (n+1) (ar.drop (n+1)))=_
     rw[if_neg (fun h=>h4 h.1)]
    rw[E6,he]
    simp only[aa,Bool.not_true,cond_false]
   |some t=>
    have hlev:= @level t ht
    have he:opE k n (some t::ar.drop (n+1))=if da k n (lvl t.kind)=false then 9 else opE k (n+1) (ar.drop (n+1)):=by
     show (if k=4∧gP (some t)=false then(13:Int)else if da k n (lvl t.kind)=false then 9 else opE k (n+1) (ar.drop (n+1)))=_
     rw[if_neg (fun h=>h4 h.1)]
    rw[fU,xy,he]
    simp only[ad,ao,aa,ak,am,ah,ae,aj,aA,cond_true,cond_false,Bool.not_true,Bool.not_false,av,au,aq,oY,eag,lz,qq,cQ,iQ,np,Bool.not_false,hlev,OO hk0 hk]
    cases da k n (lvl t.kind)with
    |true=>
     simp only[Bool.not_true,cond_false,Bool.true_eq_false,if_false]
     exact ih (n+1) (by omega)
    |false=>simp
theorem WU {t:T}(hl:t.args.length≤100000)(hk0:0≤t.kind)(hk:t.kind<25)
  (hok: ∀u,some u∈t.args→0≤u.kind∧u.kind<25) (hp:t.kind=4→ ∀x∈t.args,∃u,x=some u∧ ∀y,(u.kind=6∨u.kind=7)→u.args=[y]→ ∃v,y=some v):
  (ev E).call 68 [LV.cv t.cv] μ=some (.ret (LV.int .i64 (ff t)) μ):=by
 refine aJ ?_
 have h1:=Rg (μ:=μ) (k:=t.kind) (ty:=t.typ) (s:=t.text) (xs:=bA t.args) (l:=[]) (ar:=t.args) hl t.args.length 0 (by omega)
 have h2:=Ri (μ:=μ) (k:=t.kind) (ty:=t.typ) (s:=t.text) (xs:=bA t.args) (ar:=t.args) hl hk0 hk hok hp t.args.length 0 (by omega)
 have e0:((0:Nat):Int)=0:=rfl
 rw[e0,List.drop_zero]at h1 h2
 rw[nB,Zg,kD,h1,aa]
 unfold ff
 have er:nr t.kind t.args=(!decide (t.kind=2)&&t.args.any isR):=by
  unfold nr
  congr 2
 rw[er]
 split
 ·exact L9 _ _ _
 ·rw[Ma,kD,h2,aa]
  by_cases h0:opE t.kind 0 t.args=0
  ·rw[if_pos h0,Mc,h0]
  ·rw[if_neg h0]
   exact Mb _ _ _
end
end Go.Abs
set_option linter.unusedVariables false
set_option linter.unusedSimpArgs false
namespace Go.Abs
open Go Go.Proofs
theorem mv {n:Nat}(h:n<10):Lib.decDigits n=[UInt8.ofNat (48+n)]:=Lib.decDigits_one h
theorem vv {n:Nat}(h: ¬n<10):Lib.decDigits n=Lib.decDigits (n / 10)++[UInt8.ofNat (48+n % 10)]:=by
 rw[Lib.decDigits,dif_neg h]
theorem oQ {d:Nat}(h:d<10):aL (UInt8.ofNat (48+d))=true∧(UInt8.ofNat (48+d)).toNat=48+d:=by
 have:(UInt8.ofNat (48+d)).toNat=48+d:=UInt8.toNat_ofNat_of_lt' (by show 48+d<256;omega)
 exact⟨dJ.2 (by omega),this⟩
theorem TI: ∀(n:Nat),∀b∈Lib.decDigits n,aL b=true:=by
 intro n
 induction n using Nat.strongRecOn with
 |_ n ih=>
  intro b hb
  by_cases h:n<10
  ·rw[mv h]at hb
   rw[List.mem_singleton.1 hb]
   exact(oQ h).1
  ·rw[vv h]at hb
   rcases List.mem_append.1 hb with h1|h1
   ·exact ih (n / 10) (by omega) b h1
   ·rw[List.mem_singleton.1 h1]
    exact(oQ (by omega)).1
theorem Kk: ∀(n:Nat),valD 0 (Lib.decDigits n)=n:=by
 intro n
 induction n using Nat.strongRecOn with
 |_ n ih=>
  by_cases h:n<10
  ·rw[mv h,dL,jT,(oQ h).2];omega
  ·rw[vv h,FN,ih (n / 10) (by omega),(oQ (d:=n % 10) (by omega)).2];omega
theorem QV: ∀(n:Nat),Cc (Lib.decDigits n):=by
 intro n
 induction n using Nat.strongRecOn with
 |_ n ih=>
  by_cases h:n<10
  ·rw[mv h];exact Or.inl rfl
  ·rw[vv h]
   rcases ih (n / 10) (by omega)with h1|⟨c,r,h1,h2⟩
   ·match h3:Lib.decDigits (n / 10),h1 with
    |[c],_=>
     refine Or.inr ⟨c,_,rfl,fun e=> ?_⟩
     have:=Kk (n / 10)
     rw[h3,e]at this
     have h48:valD 0 [(48:UInt8)]=0:=rfl
     omega
   ·rw[h1];exact Or.inr ⟨c,_,rfl,h2⟩
theorem t7: ∀(k n:Nat),1≤k→n<10^k→(Lib.decDigits n).length≤k
 |0,n,h,_=>absurd h (by omega)
 |1,n,_,h=>by rw[mv (by simpa using h)];exact Nat.le_refl _
 |k+2,n,_,h=>by
  by_cases h9:n<10
  ·rw[mv h9];simp
  ·rw[vv h9,List.length_append]
   have:=t7 (k+1) (n / 10) (by omega) (by rw[Nat.pow_succ]at h;exact(Nat.div_lt_iff_lt_mul (by omega)).2 h)
   simp only[List.length_cons,List.length_nil]
   omega
def nO (t:Tok):Prop:=t.kind=1→t.text.length≤122∧(t.type=0→ ∃n:Nat,n≤2147483647∧t.text=Lib.decDigits n)∧(t.type=6→ ∃u:List UInt8,u.length≤60∧t.text=ij u)
def ro {β:Type}:Except Int (Tok×β)→Prop
 | .ok q=>nO q.1
 | .error _=>True
section
variable {s:List UInt8}{fx:Bool}{n:Nat}
theorem JI {q:Except Int (Tok×Nat)}(h:ro q):ro (noK q):=by cases q<;>exact h
theorem yo {t:List UInt8}(h:t.length≤60):nO ⟨1,6,ij t⟩:=by
 intro _
 have:=vu t
 refine⟨?_,fun e=>absurd e (by simp),fun _=>⟨t,h,rfl⟩⟩
 show (ij t).length≤122
 unfold ij
 simp only[List.length_append,List.length_cons,List.length_nil]
 omega
theorem HX:ro (eV s n):=by
 unfold eV
 split
 ·trivial
 ·split
  ·trivial
  ·exact yo (by omega)
theorem P6 {whole part digits:List UInt8}{letter:UInt8}{ok:Bool}{e:Nat}:ro (gt whole part digits letter ok e):=by
 unfold gt
 split
 ·trivial
 ·rename_i hl
  unfold ql at hl
  simp only[Bool.or_eq_true,decide_eq_true_eq,not_or]at hl
  have h1:=jo (dU whole)
  have h2:=jo (dV part)
  have h3:(gC digits ok).length≤21:=by
   unfold gC
   split
   ·exact Lib.itoa_length_le _ (jA digits).1 (jA digits).2
   ·simp
  have h4:(gu whole part).length≤33:=by
   unfold gu
   simp only[List.length_append,List.length_cons,List.length_nil]
   omega
  unfold eG
  show nO _
  split
  ·exact fun _=>⟨by simp only[List.length_append,List.length_cons,List.length_nil];omega,fun e=>absurd e (by simp),fun e=>absurd e (by simp)⟩
  ·split
   ·exact fun _=>⟨by simp only;omega,fun e=>absurd e (by simp),fun e=>absurd e (by simp)⟩
   ·exact fun _=>⟨by simp only[List.length_append,List.length_cons,List.length_nil];omega,fun e=>absurd e (by simp),fun e=>absurd e (by simp)⟩
theorem DW {d:List UInt8}(hd: ∀b∈d,aL b=true){t:Tok}(h:cX d= .ok t):nO t:=by
 unfold cX at h
 split at h
 ·cases h
 ·rename_i hh
  simp only[not_or]at hh
  injection h with h
  subst h
  obtain⟨h1,h2,h3⟩:=hh
  have h0:d≠[]:=fun e=>h2 (by rw[e];rfl)
  have hN:dh d=(valD 0 d:Nat):=by unfold dh;rw[jB hd h0 (by omega)]
  rw[hN]at h3 ⊢
  intro _
  have hT:Lib.itoa ((valD 0 d:Nat):Int)=Lib.decDigits (valD 0 d):=nT
  have hs:=t7 10 (valD 0 d) (by omega) (by omega)
  exact⟨by show (Lib.itoa ((valD 0 d:Nat):Int)).length≤122;rw[hT];omega,fun _=>⟨valD 0 d,by omega,hT⟩,fun e=>absurd e (by simp)⟩
theorem HQ:ro (ez fx s n):=by
 unfold ez
 simp only
 split
 ·split
  ·rename_i t ht
   exact DW (fun b hb=>og b hb) ht
  ·trivial
 ·exact P6
theorem kc {t:Tok}(h:t.kind≠1):nO t:=fun e=>absurd e h
theorem Ux:ro (gd fx s n):=by
 unfold gd
 simp only
 split
 ·exact kc (by show (2:Int)≠1;decide)
 ·split
  ·exact kc (by show (2:Int)≠1;decide)
  ·split
   ·exact kc (by show (2:Int)≠1;decide)
   ·split
    ·exact kc (by show (2:Int)≠1;decide)
    ·trivial
theorem SB:gl.length=6∧eT.length=7:=by decide
theorem Qq {w:List UInt8}:nO (eN w):=by
 unfold eN
 split
 ·rename_i h
  have:=SB
  refine fun _=>⟨?_,fun e=>absurd e (by simp),fun e=>absurd e (by simp)⟩
  rcases h with h|h<;>(simp only[h];omega)
 ·exact kc (by simp)
theorem ME {out:List Tok}:ro (eW fx s out n):=by
 unfold eW
 split
 ·rename_i h
  simp only[Bool.and_eq_true,decide_eq_true_eq]at h
  obtain⟨_,h1,h2,h3,h4⟩:=h
  unfold pm
  split
  ·trivial
  ·refine yo ?_
   rw[List.length_take]
   omega
 ·unfold gk
  split
  ·split
   ·trivial
   ·exact kc (by simp)
  ·split
   ·exact JI HQ
   ·split
    ·split
     ·exact Qq
     ·trivial
    ·split
     ·have:=HX (s:=s) (n:=n)
      unfold eF
      cases hq:eV s n with
      |ok q=>rw[hq]at this;exact this
      |error e=>trivial
     ·exact JI Ux
theorem zD: ∀(k n:Nat) (out:List Tok) (kept:List Nat),(∀t∈out,nO t)→ ∀t∈(dz fx s k n out kept).2.1,nO t:=by
 intro k
 induction k with
 |zero=>intro n out kept h;exact h
 |succ k ih=>
  intro n out kept h
  unfold dz
  split
  ·exact h
  ·have hf:=ME (fx:=fx) (s:=s) (n:=n+bq (s.drop n)) (out:=out)
   split
   ·exact h
   ·rename_i q hq
    rw[hq]at hf
    refine ih _ _ _ fun t ht=> ?_
    rcases List.mem_append.1 ht with h1|h1
    ·exact h t h1
    ·rw[List.mem_singleton.1 h1];exact hf
theorem By {t:Tok}(h:t∈eI fx s):nO t:=by
 unfold eI at h
 split at h
 ·unfold bx at h
  split at h
  ·simp only at h
   split at h
   ·split at h<;>exact zD _ _ _ _ (fun _ h=>absurd h (by simp)) _ h
   ·exact zD _ _ _ _ (fun _ h=>absurd h (by simp)) _ h
  ·simp at h
 ·simp at h
theorem lg {t:Tok}:iq s=some t↔(bx false s).e=0∧eI false s=[t]:=by
 unfold iq eI
 constructor
 ·intro h
  split at h
  ·rename_i h1
   obtain⟨_,hl,_⟩:=qg h1.1
   refine⟨h1.1,?_⟩
   rw[if_pos h1.1]
   rw[h1.2]at hl
   obtain⟨x,hx⟩:=List.length_eq_one_iff.1 hl.symm
   rw[hx]at h ⊢
   simp at h
   rw[h]
  ·cases h
 ·rintro⟨h1,h2⟩
  obtain⟨_,hl,_⟩:=qg h1
  rw[if_pos h1]at h2
  rw[h2]at hl
  rw[if_pos ⟨h1,hl⟩,h2]
  rfl
theorem P8 {k:Int}:zq k s=if iq s=some ⟨1,k,s⟩then 0 else 3:=by
 unfold zq
 by_cases h:iq s=some ⟨1,k,s⟩
 ·rw[if_pos h,if_pos (lg.1 h)]
 ·rw[if_neg h,if_neg (fun e=>h (lg.2 e))]
theorem Fp {k:Int}:rQ k s=if iq s=some ⟨1,k,s⟩then 0 else 3:=by
 unfold rQ
 split
 ·rename_i h
  rw[if_neg ?_]
  intro e
  obtain⟨h1,h2⟩:=lg.1 e
  have hf:nO ⟨1,k,s⟩:=By (s:=s) (fx:=false) (by rw[h2];exact List.mem_singleton.2 rfl)
  rcases h with h|h
  ·have:=(hf rfl).1
   simp only at this
   omega
  ·exact h (qg h1).1
 ·exact P8
theorem oS:ka s=true↔s.length≤10∧(∀b∈s,aL b=true)∧Cc s:=by
 unfold ka
 rw[Bool.and_eq_true,Bool.and_eq_true,decide_eq_true_eq,List.all_eq_true,and_assoc]
 refine and_congr_right fun _=>and_congr_right fun hd=> ?_
 match s with
 |[]=>
  constructor
  ·intro h;cases h
  ·rintro(h|⟨c,r,h,_⟩)<;>simp at h
 |c::r=>
  show (!decide (c=48)||decide (c::r=[48]))=true↔_
  rw[Bool.or_eq_true,Bool.not_eq_true',decide_eq_false_iff_not,decide_eq_true_eq]
  constructor
  ·rintro(h|h)
   ·exact Or.inr ⟨c,r,rfl,h⟩
   ·rw[h];exact Or.inl rfl
  ·rintro(h|⟨c',r',h,h2⟩)
   ·simp only[List.length_cons]at h
    have:r=[]:=List.eq_nil_of_length_eq_zero (by omega)
    subst this
    by_cases hc:c=48
    ·subst hc;exact Or.inr rfl
    ·exact Or.inl hc
   ·injection h with h3 h4
    subst h3
    exact Or.inl h2
theorem QW (hs:digR s 0=s.length): ∀b∈s,aL b=true:=by
 unfold digR at hs
 rw[List.drop_zero]at hs
 have h1:(s.takeWhile aL).length=s.length:=hs
 have h2:s.takeWhile aL=s:=(List.takeWhile_prefix aL).eq_of_length h1
 intro b hb
 rw[←h2]at hb
 exact iu _ b hb
theorem ju {p:UInt8→Bool}: ∀(l:List UInt8),(∀b∈l,p b=true)→l.takeWhile p=l
 |[],_=>rfl
 |c::r,h=>by rw[List.takeWhile_cons,h c (by simp),if_pos rfl,ju r fun b hb=>h b (List.mem_cons_of_mem _ hb)]
theorem xC:uN s=true↔ka s=true∧2147483647<valD 0 s:=by
 constructor
 ·intro h
  unfold uN at h
  simp only[Bool.and_eq_true,decide_eq_true_eq,Bool.not_eq_true',Bool.or_eq_false_iff,decide_eq_false_iff_not]at h
  obtain⟨h1,h2,h3,h4,h5⟩:=h
  have hd:=QW (s:=s) (by rw[h2,h1])
  refine⟨oS.2 ⟨by omega,hd,?_⟩,?_⟩
  ·match s,h1 with
   |c::r,_=>exact Or.inr ⟨c,r,rfl,by simpa[my]using h3⟩
  ·rcases ry s cJ (by rw[h1];rfl)with h|h|h
   ·rw[h]at h4;cases h4
   ·exact absurd h h5
   ·have:=nV cJ s (by rw[h1];rfl) rE hd h
    rw[lD]at this
    exact this
 ·rintro⟨h1,h2⟩
  obtain⟨a,b,c⟩:=oS.1 h1
  have h10:s.length=10:=by
   have hb:=(fq s 0 b).2
   by_cases h:s.length≤9
   ·have:10^s.length≤10^9:=Nat.pow_le_pow_right (by omega) h
    omega
   ·omega
  have e1:digR s 0=10:=by unfold digR;rw[List.drop_zero,ju s b,h10]
  have e2:my (fun c=> !decide (c=48)) s=true:=by
   rcases c with c|⟨x,r,rfl,hx⟩
   ·omega
   ·simpa[my]using hx
  have e3:Op.bytesLess s cJ=false:=by
   cases h:Op.bytesLess s cJ with
   |false=>rfl
   |true=>
    have:=nV s cJ (by rw[h10];rfl) b rE h
    rw[lD]at this
    omega
  have e4:s≠cJ:=fun e=>by rw[e,lD]at h2;omega
  unfold uN
  rw[decide_eq_true h10,decide_eq_true e1,e2,e3,decide_eq_false e4]
  rfl
theorem Qe {t:Tok}{c:UInt8}{kept:List Nat}(hT:bZ s=0)(h0:s[0]? =some c)(hc:c≠32)(h:gk false s 0 c= .ok (t,s.length,kept)):iq s=some t:=by
 obtain⟨r,hs⟩: ∃r,s=c::r:=by
  cases s with
  |nil=>cases h0
  |cons x r=>simp at h0;exact⟨r,by rw[h0]⟩
 have hb0:bq (s.drop 0)=0:=by
  rw[List.drop_zero,hs]
  unfold bq
  simp[hc]
 have hg:(s[0]?).getD 0=c:=by rw[h0];rfl
 have htok:eW false s [] 0= .ok (t,s.length,kept):=by rw[zH,hg,h]
 have hlen:s.length≠0:=by rw[hs];simp
 have hsp:dz false s (s.length+1) 0 [] []=(none,[t],kept):=by
  unfold dz
  rw[hb0,Nat.add_zero,if_neg (by omega),htok]
  simp only[List.nil_append]
  obtain⟨k,hk⟩: ∃k,s.length=k+1:=⟨s.length-1,by omega⟩
  rw[show dz false s s.length s.length [t] kept=dz false s (k+1) s.length [t] kept from by rw[←hk]]
  unfold dz
  rw[if_pos (by omega)]
 have hsc:bx false s=⟨[t],kept,1,0⟩:=by
  unfold bx
  rw[if_pos hT,hsp]
  rfl
 refine lg.2 ⟨by rw[hsc],?_⟩
 unfold eI
 rw[hsc]
 rfl
theorem Gb (h1:ka s=true)(h2:valD 0 s≤2147483647):iq s=some ⟨1,0,s⟩:=by
 obtain⟨a,b,c⟩:=oS.1 h1
 have h0:s≠[]:=by
  rintro rfl
  rcases c with c|⟨x,r,h,_⟩
  ·simp at c
  ·cases h
 have hT:bZ s=0:=by
  unfold bZ fN
  rw[if_neg (by omega),if_pos]
  rw[Bool.not_eq_true',List.any_eq_false]
  intro x hx
  have:=dJ.1 (b x hx)
  simp only[Bool.or_eq_true,decide_eq_true_eq,not_or]
  omega
 have hW:cK false aL s 0=s:=by rw[ke yJ,List.drop_zero,ju s b]
 have hE:runE false aL s 0=s.length:=by rw[mJ yJ,List.drop_zero,ju s b,Nat.zero_add]
 have hA:atC false s s.length=0:=by rw[dA,List.getElem?_eq_none (Nat.le_refl _)];rfl
 have hD:dy false s 0=false:=by unfold dy;rw[hE,hA];rfl
 have hN:numEnd false s 0=s.length:=by unfold numEnd;rw[hD];exact hE
 have hX:(bg false s s.length).2.2.2=false:=by
  unfold bg
  have:dw false s s.length=0:=by unfold dw;rw[hA];rfl
  rw[this]
  rfl
 have hI:cX s= .ok ⟨1,0,s⟩:=by
  have ha:=jB b h0 a
  have hv:dh s=(valD 0 s:Nat):=by unfold dh;rw[ha]
  have hk:lO s=true:=by unfold lO;rw[ha]
  unfold cX
  rw[if_neg (by rw[hk,hv];simp;omega),hv,nT,JE s.length s rfl b c]
 have hnum:ez false s 0= .ok (⟨1,0,s⟩,s.length):=by
  unfold ez
  simp only[hN,hX,hD]
  rw[show cx false s 0=s from hW,hI]
  rfl
 obtain⟨x,r,hs⟩: ∃x r,s=x::r:=by
  cases s with
  |nil=>exact absurd rfl h0
  |cons x r=>exact⟨x,r,rfl⟩
 have hx:aL x=true:=b x (by rw[hs];simp)
 have hxl:bh x=false:=by
  have:=dJ.1 hx
  unfold bh
  rw[Bool.or_eq_false_iff,Bool.and_eq_false_iff,Bool.and_eq_false_iff,decide_eq_false_iff_not,decide_eq_false_iff_not,decide_eq_false_iff_not]
  omega
 refine Qe (c:=x) (kept:=[]) hT (by rw[hs];rfl) (fun e=>by rw[e]at hx;exact absurd hx (by decide)) ?_
 unfold gk
 rw[hxl,hx,hnum]
 rfl
theorem yH:iq s=some ⟨1,0,s⟩↔ka s=true∧valD 0 s≤2147483647:=by
 constructor
 ·intro h
  obtain⟨h1,h2⟩:=lg.1 h
  have hf:nO ⟨1,0,s⟩:=By (s:=s) (fx:=false) (by rw[h2];exact List.mem_singleton.2 rfl)
  obtain⟨m,hm,ht⟩:=(hf rfl).2.1 rfl
  simp only at ht
  have hs:=t7 10 m (by omega) (by omega)
  refine⟨oS.2 ⟨by rw[ht];exact hs,by rw[ht];exact TI m,by rw[ht];exact QV m⟩,by rw[ht,Kk];exact hm⟩
 ·rintro⟨h1,h2⟩
  exact Gb h1 h2
theorem QR (k:Int):gH k s=Ck k s:=by
 unfold gH Ck
 by_cases h0:k=0
 ·subst h0
  rw[if_pos rfl,Fp]
  simp only[true_and]
  rw[show (!(decide ((0:Int)≤0)&&decide ((0:Int)≤6))||(decide ((0:Int)=3)||decide ((0:Int)=4)))=false from rfl,if_neg (by simp: ¬(false=true))]
  by_cases hf:ka s=true
  ·rw[if_pos hf]
   by_cases hv:2147483647<valD 0 s
   ·rw[if_pos hv,if_pos (xC.2 ⟨hf,hv⟩)]
   ·rw[if_neg hv,if_neg (fun e=>hv (xC.1 e).2),if_pos (yH.2 ⟨hf,by omega⟩)]
  ·rw[if_neg hf,if_neg (fun e=>hf (xC.1 e).1),if_neg (fun e=>hf (yH.1 e).1)]
 ·rw[if_neg h0]
  simp only[h0,false_and,if_false]
  by_cases h:k=1∨k=2∨k=5∨k=6
  ·have hk:(!(decide (0≤k)&&decide (k≤6))||(decide (k=3)||decide (k=4)))=false:=by rcases h with rfl|rfl|rfl|rfl<;>decide
   rw[if_pos h,hk,if_neg (by simp: ¬(false=true)),Fp]
  ·rw[if_neg h,if_pos]
   simp only[Bool.or_eq_true,Bool.not_eq_true',Bool.and_eq_false_iff,decide_eq_false_iff_not,decide_eq_true_eq]
   omega
end
end Go.Abs
