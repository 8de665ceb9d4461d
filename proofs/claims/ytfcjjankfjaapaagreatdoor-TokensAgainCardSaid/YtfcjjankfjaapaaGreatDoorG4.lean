/-
  The statement TokensAgainCardSaid, proved; part 5 of 6 of its proof.
  What the scanner's small functions answer.
  Classes of characters.
  What characters are, and whether a text is in a list.
  strings.ToUpper on bytes below 128: byte by byte.
  Words between dots, exponents, numbers.
  Exponents, INTEGER constants, numbers.
  A number as a token.
  CHARACTER constants: what stands between quotes, plainly.
  The scanner's own list and the places that it keeps; CHARACTER constants.
  The arguments of this chapter's laws.
  Hollerith constants, operators, tokens.
  Operators, tokens.
  All tokens of a text.
  Digits and the numbers that they spell: plain facts.
  The scanner in free form, plainly; words between dots, as the reference looks for them.
  The reference's small functions.
  The reference's numbers.
  The reference's number is the program's.
  The reference's CHARACTER constants and tokens.
  The reference's next token is the program's.
  The chapter's examples, by running the interpreter.
  The tokens of any text in free form.
  Which names, constants and tokens are valid: the two ways in which it is asked.
  The reference's errors of constants and tokens.
  Both ways to ask which constants and tokens are valid answer the same.
  TokensChecks: which constants and tokens are valid.
  TokensConstants: the constant that a text is, the characters of a constant, and the constant of characters.
  REAL and DOUBLE constants: their canonical texts.
-/
import Derived.Test.YtfcjjankfjaapaaGreatDoorG3
import Derived.Test.YtfcjjankfjaapaaGreatDoorG2
import Derived.Lib.MapLaws
import Derived.Lib.TrimAscii
import Derived.Lib.Case
import Derived.Lib.ItoaLen
import Derived.Lib.IndexMore
import Derived.Lib.IndexBytes
import Derived.Lib.Replace
import Derived.Lib.AtoiAllCases
import Derived.KernelRfl
set_option linter.all false
set_option linter.unusedSectionVars false
set_option linter.unusedVariables false
set_option linter.unusedSimpArgs false
set_option maxRecDepth 100000
namespace Go.Abs
open Go Go.Proofs
def Sc (μ:Mu)(l i:Nat)(s:List UInt8)(fx:Bool)(r:List LV):Prop:=aU μ l i= .cells (LV.str s::LV.bool fx::r)
def aP:List UInt8→Nat
 |[]=>0
 |c::r=>if c=32 then aP r+1 else 0
def skipN (fx:Bool)(s:List UInt8)(n:Nat):Nat:=if fx then n+aP (s.drop n)else n
section
variable {μ:Mu}{l i:Nat}{s:List UInt8}{fx:Bool}{r:List LV}
theorem Jq (h:Sc μ l i s fx r)(hs:s.length≤1000000): ∀(k n:Nat),n+k=s.length→w6 (ev E) l i (n:Int) μ=some (ky (skipN fx s n:Nat) μ):=by
 intro k
 induction k with
 |zero=>
  intro n hk
  refine dr ?_
  rw[yq,h]
  simp only[sO,oQ,ac,af,eP,cR,ae]
  have:List.drop n s=[]:=List.drop_eq_nil_of_le (by omega)
  have h1:decide ((n:Int)<(s.length:Int))=false:=by simp;omega
  rw[h1]
  cases fx<;>simp[skipN,aP,this]
 |succ k ih=>
  intro n hk
  refine dr ?_
  rw[yq,h]
  simp only[sO,oQ,ac,af,eP,cR,ae]
  have h1:decide ((n:Int)<(s.length:Int))=true:=by simp;omega
  have hn:n<s.length:=by omega
  rw[h1,mA,List.getElem?_eq_getElem hn,ac]
  have hd:List.drop n s=s[n]::List.drop (n+1) s:=List.drop_eq_getElem_cons hn
  have e:IntKind.wrap .i64 ((n:Int)+1)=((n+1:Nat):Int):=by rw[d5 (by omega) (by omega)];omega
  rw[e,ih (n+1) (by omega)]
  cases fx
  ·simp[skipN]
  ·simp only[cond_true,skipN,if_true,hd,aP]
   by_cases hc:s[n]=32
   ·have:decide (((s[n]).toNat:Int)=32)=true:=by rw[hc];decide
    rw[this]
    simp only[cond_true,hc,if_true]
    congr 3
    omega
   ·have:decide (((s[n]).toNat:Int)=32)=false:=by
     simp only[decide_eq_false_iff_not]
     intro h2
     apply hc
     apply UInt8.toNat.inj
     have:(s[n]).toNat=32:=by omega
     rw[this];rfl
    rw[this]
    simp[hc]
theorem Kt (h:Sc μ l i s fx r)(hs:s.length≤1000000){n:Nat}(hn:n≤s.length):(ev E).call 190 [LV.cv (CV.ref l i 0),LV.int .i64 (n:Int)] μ=some (.ret (LV.int .i64 (skipN fx s n:Nat)) μ):=by
 refine aS ?_
 rw[LZ,Jq h hs (s.length-n) n (by omega),ac,AB]
theorem kC: ∀(l:List UInt8),aP l≤l.length
 |[]=>Nat.le_refl _
 |c::r=>by
  unfold aP
  have:=kC r
  split<;>simp<;>omega
theorem y0 {n:Nat}(hn:n≤s.length):skipN fx s n≤s.length:=by
 unfold skipN
 have:=kC (s.drop n)
 rw[List.length_drop]at this
 split<;>omega
theorem yZ {n:Nat}:n≤skipN fx s n:=by
 unfold skipN
 split<;>omega
def atC (fx:Bool)(s:List UInt8)(n:Nat):UInt8:=(s[skipN fx s n]?).getD 0
def atE (fx:Bool)(s:List UInt8)(n:Nat):Nat:=if skipN fx s n<s.length then skipN fx s n+1 else skipN fx s n
theorem gr (h:Sc μ l i s fx r)(hs:s.length≤1000000){n:Nat}(hn:n≤s.length):
  (ev E).call 168 [LV.cv (CV.ref l i 0),LV.int .i64 (n:Int)] μ=some (.ret (.ltup [LV.int .u8 ((atC fx s n).toNat:Int),LV.int .i64 (atE fx s n:Nat)]) μ):=by
 refine aS ?_
 rw[LO,Kt h hs hn,ad,am,ac,h,eP,cR,ac,ae,ac]
 have hle:=y0 (fx:=fx) hn
 by_cases hlt:skipN fx s n<s.length
 ·have h1:decide ((s.length:Int)≤(skipN fx s n:Int))=false:=by simp;omega
  rw[h1,cond_false]
  have h2:D5 (ev E) l i (skipN fx s n:Nat) μ=some (pz ((atC fx s n).toNat:Int) (atE fx s n:Nat) μ):=by
   refine bc ?_
   rw[Hu,h,eP,cR,ac,ae,ac,mA,List.getElem?_eq_getElem hlt,ac]
   simp only[atC,atE,hlt,if_true,List.getElem?_eq_getElem,Option.getD_some]
   rw[d5 (by omega) (by omega)]
   rfl
  rw[h2,ac,Ad]
 ·have h1:decide ((s.length:Int)≤(skipN fx s n:Int))=true:=by simp;omega
  rw[h1,cond_true]
  have:s[skipN fx s n]? =none:=List.getElem?_eq_none (by omega)
  simp only[atC,atE,hlt,if_false,this,Option.getD_none]
  rfl
def eu (fx:Bool)(p:UInt8→Bool):List UInt8→Nat→List UInt8×Nat
 |[],_=>([],0)
 |c::r,k=>if fx&&c == 32 then eu fx p r (k+1)else if c != 0&&p c then(c::(eu fx p r 0).1,k+1+(eu fx p r 0).2)else([],0)
def bX (fx:Bool)(p:UInt8→Bool)(s:List UInt8)(n:Nat):List UInt8:=(eu fx p (s.drop n) 0).1
def runE (fx:Bool)(p:UInt8→Bool)(s:List UInt8)(n:Nat):Nat:=n+(eu fx p (s.drop n) 0).2
theorem rH {p:UInt8→Bool}: ∀(l:List UInt8) (k:Nat),eu true p l k=eu true p (l.drop (aP l)) (k+aP l)
 |[],k=>rfl
 |c::r,k=>by
  by_cases hc:c=32
  ·have e1:eu true p (c::r) k=eu true p r (k+1):=by simp[eu,hc]
   have e2:aP (c::r)=aP r+1:=by simp[aP,hc]
   rw[e1,e2,rH r (k+1)]
   simp only[List.drop_succ_cons]
   congr 1
   omega
  ·have e2:aP (c::r)=0:=by simp[aP,hc]
   rw[e2];rfl
theorem j8: ∀(l:List UInt8) (c:UInt8) (r:List UInt8),l.drop (aP l)=c::r→c≠32
 |[],c,r,h=>by simp[aP]at h
 |d::t,c,r,h=>by
  by_cases hd:d=32
  ·have e2:aP (d::t)=aP t+1:=by simp[aP,hd]
   rw[e2,List.drop_succ_cons]at h
   exact j8 t c r h
  ·have e2:aP (d::t)=0:=by simp[aP,hd]
   rw[e2]at h
   simp only[List.drop_zero,List.cons.injEq]at h
   rw[←h.1];exact hd
theorem yW {p:UInt8→Bool}{n:Nat}:(bX fx p s n,runE fx p s n)=if atC fx s n != 0&&p (atC fx s n)then(atC fx s n::bX fx p s (atE fx s n),runE fx p s (atE fx s n))else([],n):=by
 have key: ∀m k,skipN fx s n=m→m=n+k→eu fx p (s.drop n) 0=eu fx p (s.drop m) k→(∀c t,s.drop m=c::t→(fx&&c == 32)=false)→
   (bX fx p s n,runE fx p s n)=if atC fx s n != 0&&p (atC fx s n)then(atC fx s n::bX fx p s (atE fx s n),runE fx p s (atE fx s n))else([],n):=by
  intro m k hm hk hrun hc
  simp only[bX,runE,atC,atE,hm]
  rw[hrun]
  by_cases hlt:m<s.length
  ·have hd:s.drop m=s[m]::s.drop (m+1):=List.drop_eq_getElem_cons hlt
   have hc':=hc _ _ hd
   rw[hd]
   simp only[eu,hc',Bool.false_eq_true,if_false,List.getElem?_eq_getElem hlt,Option.getD_some,hlt,if_true]
   split
   ·simp only[Prod.mk.injEq,true_and];omega
   ·rfl
  ·have hd:s.drop m=[]:=List.drop_eq_nil_of_le (by omega)
   rw[hd]
   simp[eu,List.getElem?_eq_none (by omega:s.length≤m)]
 cases fx with
 |false=>exact key n 0 rfl rfl rfl fun c t _=>rfl
 |true=>
  refine key (n+aP (s.drop n)) (aP (s.drop n)) (by simp[skipN]) rfl ?_ fun c t h=> ?_
  ·rw[rH,List.drop_drop,Nat.zero_add]
  ·have:=j8 (s.drop n) c t (by rw[List.drop_drop];exact h)
   simp[this]
theorem vZ {p:UInt8→Bool}{n:Nat}(h:(atC fx s n != 0&&p (atC fx s n))=true):bX fx p s n=atC fx s n::bX fx p s (atE fx s n)∧runE fx p s n=runE fx p s (atE fx s n):=by
 have:=yW (fx:=fx) (s:=s) (p:=p) (n:=n)
 rw[h,if_pos rfl,Prod.mk.injEq]at this
 exact this
theorem oM {p:UInt8→Bool}{n:Nat}(h:(atC fx s n != 0&&p (atC fx s n))=false):bX fx p s n=[]∧runE fx p s n=n:=by
 have:=yW (fx:=fx) (s:=s) (p:=p) (n:=n)
 rw[h,if_neg (by simp),Prod.mk.injEq]at this
 exact this
theorem th {n:Nat}(h:atC fx s n≠0):n<atE fx s n∧atE fx s n≤s.length:=by
 have h1:=yZ (fx:=fx) (s:=s) (n:=n)
 by_cases hlt:skipN fx s n<s.length
 ·simp only[atE,hlt,if_true];omega
 ·exfalso
  apply h
  simp only[atC,List.getElem?_eq_none (by omega:s.length≤skipN fx s n),Option.getD_none]
theorem fJ {n:Nat}(hn:n≤s.length):atE fx s n≤s.length:=by
 have:=y0 (fx:=fx) hn
 unfold atE
 split<;>omega
theorem mJ {c:UInt8}:decide ((c.toNat:Int)=0)= !(c != 0):=by
 by_cases h:c=0
 ·subst h;rfl
 ·have:c.toNat≠0:=fun h2=>h (UInt8.toNat.inj h2)
  have h1:(c != 0)=true:=by simpa using h
  rw[h1]
  simp only[Bool.not_true,decide_eq_false_iff_not]
  omega
theorem Jn (h:Sc μ l i s fx r)(hs:s.length≤1000000){f:FuncId}{p:UInt8→Bool}(hp: ∀c:UInt8,(ev E).call f [LV.int .u8 (c.toNat:Int)] μ=some (.ret (LV.bool (p c)) μ)):
  ∀(k n:Nat) (acc:List UInt8),s.length-n≤k→n≤s.length→acc.length+(s.length-n)≤1000000→wZ (ev E) l i (n:Int) f (bb acc) μ=some (md (acc++bX fx p s n) (runE fx p s n:Nat) μ):=by
 intro k
 induction k with
 |zero=>
  intro n acc hk hn ha
  refine dr ?_
  rw[yn,gr h hs hn]
  simp only[ad,aq,ac,aj,am,ah]
  have h0:atC fx s n=0:=by
   by_cases h0:atC fx s n=0
   ·exact h0
   ·have:=th h0;omega
  obtain⟨h1,h2⟩:=oM (fx:=fx) (s:=s) (p:=p) (n:=n) (by rw[h0];rfl)
  rw[h0,h1,h2]
  simp only[mJ,cN,ac,List.append_nil]
  rfl
 |succ k ih=>
  intro n acc hk hn ha
  refine dr ?_
  rw[yn,gr h hs hn]
  simp only[ad,aq,ac,aj,am,ah,mJ]
  by_cases h0:atC fx s n=0
  ·obtain⟨h1,h2⟩:=oM (fx:=fx) (s:=s) (p:=p) (n:=n) (by rw[h0];rfl)
   rw[h0,h1,h2]
   simp only[cN,ac,List.append_nil]
   rfl
  ·have h3:(atC fx s n != 0)=true:=by simp[h0]
   rw[h3,Bool.not_true,cond_false,hp,ad,af,ac]
   cases hpc:p (atC fx s n)with
   |false=>
    obtain⟨h1,h2⟩:=oM (fx:=fx) (s:=s) (p:=p) (n:=n) (by rw[hpc];simp)
    rw[h1,h2]
    simp only[Bool.not_false,cond_true,cN,ac,List.append_nil]
   |true=>
    obtain⟨h1,h2⟩:=vZ (fx:=fx) (s:=s) (p:=p) (n:=n) (by rw[hpc,h3];rfl)
    obtain⟨h4,h5⟩:=th h0
    have h6:D6 (ev E) l i f (bb acc) ((atC fx s n).toNat:Int) (atE fx s n:Nat) μ=some (pA l i (atE fx s n:Nat) f (bb (acc++[atC fx s n])) μ):=by
     refine bc ?_
     have e:[CV.int .u8 ((atC fx s n).toNat:Int)]=bb [atC fx s n]:=rfl
     rw[Hv,e,rq (by simp;omega),aE,mG]
    simp only[Bool.not_true,cond_false,h6,ac,Ae]
    rw[ih (atE fx s n) (acc++[atC fx s n]) (by omega) h5 (by simp;omega),h1,h2]
    simp
theorem na (h:Sc μ l i s fx r)(hs:s.length≤1000000){f:FuncId}{p:UInt8→Bool}(hp: ∀c:UInt8,(ev E).call f [LV.int .u8 (c.toNat:Int)] μ=some (.ret (LV.bool (p c)) μ)){n:Nat}(hn:n≤s.length):
  (ev E).call 169 [LV.cv (CV.ref l i 0),LV.int .i64 (n:Int),LV.cv (CV.clo f [])] μ=some (.ret (.ltup [LV.str (bX fx p s n),LV.int .i64 (runE fx p s n:Nat)]) μ):=by
 refine aS ?_
 have:=Jn h hs hp (s.length-n) n [] (Nat.le_refl _) hn (by simp;omega)
 have e:bb []=[]:=rfl
 rw[e,List.nil_append]at this
 rw[LP,this,ac,Ax]
end
end Go.Abs
namespace Go.Abs
def aY (c:UInt8):Bool:=(decide (97≤c.toNat)&&decide (c.toNat≤122))||(decide (65≤c.toNat)&&decide (c.toNat≤90))
def ak (c:UInt8):Bool:=decide (48≤c.toNat)&&decide (c.toNat≤57)
def bi (c:UInt8):Bool:=aY c||ak c||decide (c.toNat=95)
end Go.Abs
set_option linter.unusedVariables false
set_option linter.unusedSimpArgs false
set_option maxRecDepth 100000
namespace Go.Abs
open Go Go.Proofs
section
variable {μ:Mu}
theorem dI (a b:Nat):decide ((a:Int)≤(b:Int))=decide (a≤b):=by simp
theorem wD {c:UInt8}:(ev E).call 90 [LV.int .u8 (c.toNat:Int)] μ=some (.ret (LV.bool (aY c)) μ):=by
 refine aS ?_
 rw[MX]
 have e1:decide ((97:Int)≤(c.toNat:Int))=decide (97≤c.toNat):=dI 97 _
 have e2:decide ((c.toNat:Int)≤122)=decide (c.toNat≤122):=dI _ 122
 have e3:decide ((65:Int)≤(c.toNat:Int))=decide (65≤c.toNat):=dI 65 _
 have e4:decide ((c.toNat:Int)≤90)=decide (c.toNat≤90):=dI _ 90
 rw[e1,e2,e3,e4]
 unfold aY
 cases decide (97≤c.toNat)<;>cases decide (c.toNat≤122)<;>cases decide (65≤c.toNat)<;>rfl
theorem kE {c:UInt8}:(ev E).call 132 [LV.int .u8 (c.toNat:Int)] μ=some (.ret (LV.bool (ak c)) μ):=by
 refine aS ?_
 rw[LK]
 have e1:decide ((48:Int)≤(c.toNat:Int))=decide (48≤c.toNat):=dI 48 _
 have e2:decide ((c.toNat:Int)≤57)=decide (c.toNat≤57):=dI _ 57
 rw[e1,e2]
 unfold ak
 cases decide (48≤c.toNat)<;>rfl
theorem LF {c:UInt8}:(ev E).call 93 [LV.int .u8 (c.toNat:Int)] μ=some (.ret (LV.bool (bi c)) μ):=by
 refine aS ?_
 rw[MY,wD]
 simp only[ad,aq,ac,aj,am,ae,af,ah,aE,cond_true,cond_false,Bool.not_true,Bool.not_false,ax,av,ao]
 unfold bi
 cases aY c
 ·simp only[ad,aq,ac,aj,am,ae,af,ah,aE,cond_true,cond_false,Bool.not_true,Bool.not_false,ax,av,ao,kE]
  cases ak c
  ·simp only[ad,aq,ac,aj,am,ae,af,ah,aE,cond_true,cond_false,Bool.not_true,Bool.not_false,ax,av,ao,Bool.false_or]
   have:decide ((c.toNat:Int)=95)=decide (c.toNat=95):=by simp;omega
   rw[this]
  ·rfl
 ·rfl
def oz (x:List UInt8):List (List UInt8)→Nat→Int
 |[],_=> -1
 |a::r,j=>if x=a then(j:Int)else oz x r (j+1)
theorem sC (x:List UInt8): ∀(l:List (List UInt8)) (j:Nat),decide (0≤oz x l j)=l.contains x
 |[],j=>rfl
 |a::r,j=>by
  unfold oz
  by_cases h:x=a
  ·simp[h]
  ·have h1:(x == a)=false:=by simp[h]
   rw[if_neg h,sC x r (j+1),List.contains_cons,h1,Bool.false_or]
noncomputable def CD (n:Int)(μ:Mu):St:=if n= -1 then sw μ else sv n μ
theorem KK {l:List (List UInt8)}{x:List UInt8}(hl:l.length≤1000000): ∀(k j:Nat),j+k=l.length→
  Cj (ev E) (fi l) x (l.length:Int) (j:Int) μ=some (CD (oz x (l.drop j) j) μ):=by
 intro k
 induction k with
 |zero=>
  intro j hj
  refine dr ?_
  rw[BS]
  have:List.drop j l=[]:=List.drop_eq_nil_of_le (by omega)
  have h1:decide ((j:Int)<(l.length:Int))=false:=by simp;omega
  rw[h1,this]
  rfl
 |succ k ih=>
  intro j hj
  refine dr ?_
  rw[BS]
  have hlt:j<l.length:=by omega
  have h1:decide ((j:Int)<(l.length:Int))=true:=by simp;omega
  have hd:List.drop j l=l[j]::List.drop (j+1) l:=List.drop_eq_getElem_cons hlt
  have hg:(fi l)[j]? =some (CV.str l[j]):=by simp[fi,hlt]
  have e:IntKind.wrap .i64 ((j:Int)+1)=((j+1:Nat):Int):=by rw[d5 (by omega) (by omega)];omega
  rw[h1,lZ,hg,hd,e]
  simp only[ad,aq,ac,aj,am,ae,af,ah,aE,cond_true,cond_false,Bool.not_true,Bool.not_false,ax,av,ao,Fh,oz]
  by_cases h:x=l[j]
  ·rw[if_pos h]
   have:decide (x=l[j])=true:=by simp[h]
   rw[this,cond_true,CD,if_neg (by omega)]
  ·rw[if_neg h]
   have:decide (x=l[j])=false:=by simp[h]
   rw[this,cond_false,ih (j+1) (by omega)]
theorem Gq {l:List (List UInt8)}{x:List UInt8}(hl:l.length≤1000000):aJ E (ev E) 94 [LV.cv (CV.sl (fi l)),LV.str x] μ=some (.ret (LV.int .i64 (oz x l 0)) μ):=by
  have e:(fi l).length=l.length:=by simp[fi]
  have:=KK (μ:=μ) (l:=l) (x:=x) hl l.length 0 (by omega)
  rw[List.drop_zero]at this
  rw[MZ,e]
  have e0:((0:Nat):Int)=(0:Int):=rfl
  rw[←e0,this,ac,CD]
  by_cases h:oz x l 0= -1
  ·rw[if_pos h,DH,h]
  ·rw[if_neg h,DG]
theorem LG {l:List (List UInt8)}{x:List UInt8}(hl:l.length≤1000000):(ev E).call 94 [LV.cv (CV.sl (fi l)),LV.str x] μ=some (.ret (LV.int .i64 (oz x l 0)) μ):=aS (Gq hl)
theorem tH {l:List (List UInt8)}{x:List UInt8}(hl:l.length≤1000000):(ev E).call 50 [LV.cv (CV.sl (fi l)),LV.str x] μ=some (.ret (LV.bool (l.contains x)) μ):=by
 refine aS ?_
 rw[ML,LG hl]
 simp only[ad,aq,ac,aj,am,ae,af,ah,aE,cond_true,cond_false,Bool.not_true,Bool.not_false,ax,av,ao]
 rw[sC]
end
end Go.Abs
set_option linter.unusedVariables false
set_option linter.unusedSimpArgs false
set_option maxRecDepth 100000
namespace Go.Abs
open Go Go.Proofs
def upB (c:UInt8):UInt8:=if 97≤c.toNat∧c.toNat≤122 then c-32 else c
theorem JY: ∀i:Fin 128,(if 0≤Lib.toUpperU (i.val:Int)then Lib.encodeRune (Lib.toUpperU (i.val:Int))else [])=[upB (UInt8.ofNat i.val)]:=by decide
theorem j3: ∀(l:List UInt8),(∀b∈l,b.toNat<128)→Lib.toUpperD l=l.map upB
 |[],_=>rfl
 |b::t,ha=>by
  have hb:=ha b List.mem_cons_self
  have ih:=j3 t (fun x hx=>ha x (List.mem_cons_of_mem _ hx))
  have h1:=JY ⟨b.toNat,hb⟩
  simp only at h1
  unfold Lib.toUpperD at ih ⊢
  rw[Lib.mapD_step Lib.toUpperU (b::t) (by simp),Lib.decodeL_ascii b t hb]
  dsimp only
  rw[h1,List.drop_succ_cons,List.drop_zero,ih]
  simp
theorem sR {fx:Bool}{p:UInt8→Bool}: ∀(l:List UInt8) (k:Nat),∀b∈(eu fx p l k).1,p b=true
 |[],k,b,hb=>by simp[eu]at hb
 |c::r,k,b,hb=>by
  unfold eu at hb
  split at hb
  ·exact sR r (k+1) b hb
  ·split at hb
   ·rename_i h
    simp only[List.mem_cons]at hb
    rcases hb with rfl|hb
    ·simp only[Bool.and_eq_true]at h;exact h.2
    ·exact sR r 0 b hb
   ·simp at hb
theorem gC {fx:Bool}{p:UInt8→Bool}{s:List UInt8}{n:Nat}: ∀b∈bX fx p s n,p b=true:=sR _ _
end Go.Abs
set_option linter.unusedVariables false
set_option linter.unusedSimpArgs false
set_option maxRecDepth 100000
namespace Go.Abs
open Go Go.Proofs
def b9:List (List UInt8):=[[46,76,84,46],[46,76,69,46],[46,69,81,46],[46,78,69,46],[46,71,69,46],[46,71,84,46],[46,78,79,84,46],[46,65,78,68,46],[46,79,82,46],[46,69,81,86,46],[46,78,69,81,86,46]]
def bC:List (List UInt8):=[[42,42],[47,47],[61,62],[42],[47],[43],[45],[40],[41],[44],[58],[61],[37]]
def iz:List UInt8:=[46,84,82,85,69,46]
def gm:List UInt8:=[46,70,65,76,83,69,46]
abbrev up (s:List UInt8):List UInt8:=Lib.toUpperD s
theorem rm {fx:Bool}{p:UInt8→Bool}: ∀(l:List UInt8) (k:Nat),(eu fx p l k).1.length≤l.length∧(eu fx p l k).2≤k+l.length
 |[],k=>⟨Nat.le_refl _,by simp[eu]⟩
 |c::r,k=>by
  unfold eu
  have h1:=rm (fx:=fx) (p:=p) r (k+1)
  have h2:=rm (fx:=fx) (p:=p) r 0
  split
  ·simp only[List.length_cons];omega
  ·split
   ·simp only[List.length_cons];omega
   ·simp
section
variable {μ:Mu}{l i:Nat}{s:List UInt8}{fx:Bool}{r:List LV}
theorem gV {p:UInt8→Bool}{n:Nat}(hn:n≤s.length):runE fx p s n≤s.length:=by
 have:=(rm (fx:=fx) (p:=p) (s.drop n) 0).2
 rw[List.length_drop]at this
 unfold runE
 omega
theorem iF {p:UInt8→Bool}{n:Nat}:(bX fx p s n).length≤s.length:=by
 have:=(rm (fx:=fx) (p:=p) (s.drop n) 0).1
 rw[List.length_drop]at this
 unfold bX
 omega
theorem kb {c:UInt8}(h:aY c=true):c.toNat<128:=by
 simp only[aY,Bool.or_eq_true,Bool.and_eq_true,decide_eq_true_eq]at h
 omega
theorem Lf {n:Nat}:Lib.toUpperD (bX fx aY s n)=(bX fx aY s n).map upB:=j3 _ fun b hb=>kb (gC b hb)
theorem IE:(ev E).call 51 [] μ=some (.ret (LV.osl (fi b9)) μ):=aS (by rw[MM];rfl)
theorem CW:(ev E).call 52 [] μ=some (.ret (LV.osl (fi bC)) μ):=aS (by rw[MN];rfl)
def ce (fx:Bool)(s:List UInt8)(n:Nat):List UInt8:=[46]++up (bX fx aY s (atE fx s n))++[46]
def dotEnd (fx:Bool)(s:List UInt8)(n:Nat):Nat:=atE fx s (runE fx aY s (atE fx s n))
def dK (fx:Bool)(s:List UInt8)(n:Nat):Bool:=decide (atC fx s (runE fx aY s (atE fx s n))=46)&&(b9.contains (ce fx s n)||decide (ce fx s n=iz)||decide (ce fx s n=gm))
def bq (fx:Bool)(s:List UInt8)(n:Nat):List UInt8×Nat×Bool:=if atC fx s n=46 then(ce fx s n,dotEnd fx s n,dK fx s n)else([],n,false)
theorem f9 {c:UInt8}{k:Nat}(hk:k<256):decide ((c.toNat:Int)=(k:Int))=decide (c=UInt8.ofNat k):=by
 have h2:(UInt8.ofNat k).toNat=k:=by simp[hk]
 by_cases h:c=UInt8.ofNat k
 ·subst h
  rw[h2];simp
 ·have h1:c.toNat≠k:=fun e=>h (UInt8.toNat.inj (by rw[e,h2]))
  simp only[h,decide_false,decide_eq_false_iff_not]
  omega
theorem Fu (h:Sc μ l i s fx r)(hs:s.length≤200000){n:Nat}(hn:n≤s.length):
  (ev E).call 172 [LV.cv (CV.ref l i 0),LV.int .i64 (n:Int)] μ=some (.ret (.ltup [LV.str (bq fx s n).1,LV.int .i64 ((bq fx s n).2.1:Nat),LV.bool (bq fx s n).2.2]) μ):=by
 refine aS ?_
 rw[LS,gr h (by omega) hn]
 have e46: ∀c:UInt8,decide ((c.toNat:Int)=46)=decide (c=46):=fun c=>f9 (k:=46) (by omega)
 simp only[ad,aq,ac,aj,am,ae,af,ah,aE,cond_true,cond_false,Bool.not_true,Bool.not_false,ax,av,ao,e46]
 by_cases hc:atC fx s n=46
 ·have hle:=fJ (fx:=fx) hn
  have hle2:=gV (fx:=fx) (p:=aY) hle
  have hr:=iF (fx:=fx) (s:=s) (p:=aY) (n:=atE fx s n)
  have hu:(Lib.toUpperD (bX fx aY s (atE fx s n))).length≤s.length:=by rw[Lf,List.length_map];exact hr
  have hG:D7 (ev E) l i (atE fx s n:Nat) μ=some (fm (ce fx s n) (dotEnd fx s n:Nat) (dK fx s n) μ):=by
   refine bc ?_
   rw[Hx,na h (by omega) (fun c=>wD) hle]
   simp only[ad,aq,ac,aj,am,ae,af,ah,aE,cond_true,cond_false,Bool.not_true,Bool.not_false,ax,av,ao]
   rw[gr h (by omega) hle2]
   simp only[ad,aq,ac,aj,am,ae,af,ah,aE,cond_true,cond_false,Bool.not_true,Bool.not_false,ax,av,ao]
   rw[CY (by omega)]
   simp only[ad,aq,ac,aj,am,ae,af,ah,aE,cond_true,cond_false,Bool.not_true,Bool.not_false,ax,av,ao]
   rw[cJ (by simp;omega),cJ (by simp;omega)]
   simp only[ad,aq,ac,aj,am,ae,af,ah,aE,cond_true,cond_false,Bool.not_true,Bool.not_false,ax,av,ao,IE]
   rw[tH (l:=b9) (by decide)]
   simp only[ad,aq,ac,aj,am,ae,af,ah,aE,cond_true,cond_false,Bool.not_true,Bool.not_false,ax,av,ao,e46]
   have ht:[46]++Lib.toUpperD (bX fx aY s (atE fx s n))++[46]=ce fx s n:=rfl
   have h3:([46,84,82,85,69,46]:List UInt8)=iz:=rfl
   have h4:([46,70,65,76,83,69,46]:List UInt8)=gm:=rfl
   rw[ht,h3,h4]
   unfold dK
   have he:atE fx s (runE fx aY s (atE fx s n))=dotEnd fx s n:=rfl
   rw[he]
   cases b9.contains (ce fx s n)<;>cases decide (ce fx s n=iz)<;>cases decide (atC fx s (runE fx aY s (atE fx s n))=46)<;>simp
  rw[hG]
  simp only[hc,decide_true,ad,aq,ac,aj,am,ae,af,ah,aE,cond_true,cond_false,Bool.not_true,Bool.not_false,ax,av,ao,Ai,bq,if_true]
 ·simp only[hc,decide_false,ad,aq,ac,aj,am,ae,af,ah,aE,cond_true,cond_false,Bool.not_true,Bool.not_false,ax,av,ao,bq,if_false]
end
end Go.Abs
set_option linter.unusedVariables false
set_option linter.unusedSimpArgs false
set_option maxRecDepth 100000
namespace Go.Abs
open Go Go.Proofs
section
variable {μ:Mu}{l i:Nat}{s:List UInt8}{fx:Bool}{r:List LV}
theorem zD: ∀i:Fin 256,IntKind.wrap .u8 ((BitVec.ofInt (IntKind.bits .u8) (i.val:Int) &&& ~~~BitVec.ofInt (IntKind.bits .u8) (32:Int)).toNat:Int)=(((UInt8.ofNat i.val) &&& 223).toNat:Int):=by decide
theorem I7 (c:UInt8):IntKind.wrap .u8 ((BitVec.ofInt (IntKind.bits .u8) (c.toNat:Int) &&& ~~~BitVec.ofInt (IntKind.bits .u8) (32:Int)).toNat:Int)=((c &&& 223).toNat:Int):=by
 have:=zD ⟨c.toNat,c.toNat_lt⟩
 simpa using this
def cz (fx:Bool)(s:List UInt8)(n:Nat):UInt8:=atC fx s n &&& 223
def bF (fx:Bool)(s:List UInt8)(n:Nat):List UInt8:=if atC fx s (atE fx s n)=45 then [45]else []
def expStart (fx:Bool)(s:List UInt8)(n:Nat):Nat:=if atC fx s (atE fx s n)=43∨atC fx s (atE fx s n)=45 then atE fx s (atE fx s n)else atE fx s n
def aM (fx:Bool)(s:List UInt8)(n:Nat):List UInt8:=bX fx ak s (expStart fx s n)
def aL (fx:Bool)(s:List UInt8)(n:Nat):UInt8×List UInt8×Nat×Bool:=
 if cz fx s n=69∨cz fx s n=68 then(cz fx s n,bF fx s n++aM fx s n,runE fx ak s (expStart fx s n),!decide (aM fx s n=[]))else(0,[],n,false)
theorem Ku (h:Sc μ l i s fx r)(hs:s.length≤200000){n:Nat}(hn:n≤s.length):
  (ev E).call 191 [LV.cv (CV.ref l i 0),LV.int .i64 (n:Int)] μ=some (.ret (.ltup [LV.int .u8 ((aL fx s n).1.toNat:Int),LV.str (aL fx s n).2.1,LV.int .i64 ((aL fx s n).2.2.1:Nat),LV.bool (aL fx s n).2.2.2]) μ):=by
 have e69: ∀c:UInt8,decide ((c.toNat:Int)=69)=decide (c=69):=fun c=>f9 (k:=69) (by omega)
 have e68: ∀c:UInt8,decide ((c.toNat:Int)=68)=decide (c=68):=fun c=>f9 (k:=68) (by omega)
 have e43: ∀c:UInt8,decide ((c.toNat:Int)=43)=decide (c=43):=fun c=>f9 (k:=43) (by omega)
 have e45: ∀c:UInt8,decide ((c.toNat:Int)=45)=decide (c=45):=fun c=>f9 (k:=45) (by omega)
 have hle:=fJ (fx:=fx) hn
 have hle2:=fJ (fx:=fx) hle
 have hst:expStart fx s n≤s.length:=by unfold expStart;split<;>assumption
 have hr:=iF (fx:=fx) (s:=s) (p:=ak) (n:=expStart fx s n)
 have hG: ∀(sg:List UInt8),sg.length≤1→ls (ev E) l i ((cz fx s n).toNat:Int) (expStart fx s n:Nat) sg μ=some (nU ((cz fx s n).toNat:Int) (sg++aM fx s n) (runE fx ak s (expStart fx s n):Nat) (!decide (aM fx s n=[])) μ):=by
  intro sg hsg
  refine bc ?_
  rw[FM,na h (by omega) (fun c=>kE) hst]
  simp only[ad,aq,ac,aj,am,ae,af,ah,aE,cond_true,cond_false,Bool.not_true,Bool.not_false,ax,av,ao]
  rw[cJ (by omega)]
  rfl
 have hG5:wV (ev E) l i ((cz fx s n).toNat:Int) (atE fx s n:Nat) μ=some (pC ((cz fx s n).toNat:Int) (bF fx s n++aM fx s n) (runE fx ak s (expStart fx s n):Nat) (!decide (aM fx s n=[])) μ):=by
  refine bc ?_
  rw[HB,gr h (by omega) hle]
  simp only[ad,aq,ac,aj,am,ae,af,ah,aE,cond_true,cond_false,Bool.not_true,Bool.not_false,ax,av,ao,e43,e45]
  by_cases h1:atC fx s (atE fx s n)=43
  ·have hx:expStart fx s n=atE fx s (atE fx s n):=by simp[expStart,h1]
   have hg:bF fx s n=[]:=by simp[bF,h1]
   have:=hG [] (by simp)
   rw[hx]at this
   simp only[h1,decide_true,ad,aq,ac,aj,am,ae,af,ah,aE,cond_true,cond_false,Bool.not_true,Bool.not_false,ax,av,ao,hg]
   have h2:decide ((43:UInt8)=45)=false:=by decide
   rw[h2,cond_false,this,ac,lT,hx]
  ·by_cases h2:atC fx s (atE fx s n)=45
   ·have hx:expStart fx s n=atE fx s (atE fx s n):=by simp[expStart,h2]
    have hg:bF fx s n=[45]:=by simp[bF,h2]
    have:=hG [45] (by simp)
    rw[hx]at this
    have h3:decide ((45:UInt8)=43)=false:=by decide
    simp only[h2,h3,decide_true,ad,aq,ac,aj,am,ae,af,ah,aE,cond_true,cond_false,Bool.not_true,Bool.not_false,ax,av,ao,hg]
    rw[this,ac,lT,hx]
   ·have hx:expStart fx s n=atE fx s n:=by simp[expStart,h1,h2]
    have hg:bF fx s n=[]:=by simp[bF,h2]
    have:=hG [] (by simp)
    rw[hx]at this
    simp only[h1,h2,decide_false,ad,aq,ac,aj,am,ae,af,ah,aE,cond_true,cond_false,Bool.not_true,Bool.not_false,ax,av,ao,hg]
    rw[this,ac,lT,hx]
 refine aS ?_
 rw[L0,gr h (by omega) hn]
 simp only[ad,aq,ac,aj,am,ae,af,ah,aE,cond_true,cond_false,Bool.not_true,Bool.not_false,ax,av,ao,I7]
 have hL:atC fx s n &&& 223=cz fx s n:=rfl
 rw[hL]
 simp only[e69,e68]
 by_cases h1:cz fx s n=69
 ·have:aL fx s n=(cz fx s n,bF fx s n++aM fx s n,runE fx ak s (expStart fx s n),!decide (aM fx s n=[])):=by simp[aL,h1]
  rw[this,hG5]
  simp only[h1,decide_true,ad,aq,ac,aj,am,ae,af,ah,aE,cond_true,cond_false,Bool.not_true,Bool.not_false,ax,av,ao]
  rw[←h1,rD]
 ·by_cases h2:cz fx s n=68
  ·have:aL fx s n=(cz fx s n,bF fx s n++aM fx s n,runE fx ak s (expStart fx s n),!decide (aM fx s n=[])):=by simp[aL,h2]
   rw[this,hG5]
   have h3:decide ((68:UInt8)=69)=false:=by decide
   simp only[h2,h3,decide_true,ad,aq,ac,aj,am,ae,af,ah,aE,cond_true,cond_false,Bool.not_true,Bool.not_false,ax,av,ao]
   rw[←h2,rD]
  ·have:aL fx s n=(0,[],n,false):=by simp[aL,h1,h2]
   rw[this]
   simp only[h1,h2,decide_false,ad,aq,ac,aj,am,ae,af,ah,aE,cond_true,cond_false,Bool.not_true,Bool.not_false,ax,av,ao]
   rfl
structure Tok where
 kind:Int
 type:Int
 text:List UInt8
 deriving DecidableEq
def Tok.cv (t:Tok):CV:=CV.agg [CV.int .i64 t.kind,CV.int .i64 t.type,CV.str t.text]
def gc (e:Int):CV:=CV.iface 162 (CV.agg [CV.int .i64 e])
theorem jn {e:Int}:(ev E).call 170 [LV.int .i64 e] μ=some (.panic (gc e) μ):=aS (by rw[LQ];rfl)
def bj (s:List UInt8):List UInt8:=if s=[]then [48]else s
def cS (s:List UInt8):List UInt8:=Lib.trimLeftB s 48
def bD (s:List UInt8):List UInt8:=Lib.trimRightB s 48
theorem KA {t:List UInt8}:(ev E).call 65 [LV.str t,LV.bool true] μ=some (.ret (LV.str (bj (cS t))) μ):=by
 refine aS ?_
 rw[KP,IF (by decide)]
 simp only[ad,aq,ac,aj,am,ae,af,ah,aE,cond_true,cond_false,Bool.not_true,Bool.not_false,ax,av,ao,bj,cS]
 by_cases h:Lib.trimLeftB t 48=[]<;>simp[h]
theorem KB {t:List UInt8}(ht:t.length≤1000000):(ev E).call 65 [LV.str t,LV.bool false] μ=some (.ret (LV.str (bj (bD t))) μ):=by
 refine aS ?_
 rw[KP,IG (by decide) ht]
 simp only[ad,aq,ac,aj,am,ae,af,ah,aE,cond_true,cond_false,Bool.not_true,Bool.not_false,ax,av,ao,bj,bD]
 by_cases h:Lib.trimRightB t 48=[]<;>simp[h]
theorem qJ (t:List UInt8):(cS t).length≤t.length:=by
 unfold cS Lib.trimLeftB
 exact(List.dropWhile_suffix _).length_le
theorem qK (t:List UInt8):(bD t).length≤t.length:=by
 unfold bD Lib.trimRightB
 rw[List.length_reverse]
 exact Nat.le_trans (List.dropWhile_suffix _).length_le (by simp)
theorem Kw {a b:List UInt8}(ha:a.length≤1000000)(hb:b.length≤1000000):(ev E).call 193 [LV.str a,LV.str b] μ=some (.ret (LV.int .i64 ((cS a).length+(bD b).length:Nat)) μ):=by
 refine aS ?_
 rw[L3,IF (by decide)]
 simp only[ad,aq,ac,aj,am,ae,af,ah,aE,cond_true,cond_false,Bool.not_true,Bool.not_false,ax,av,ao]
 rw[IG (by decide) hb]
 simp only[ad,aq,ac,aj,am,ae,af,ah,aE,cond_true,cond_false,Bool.not_true,Bool.not_false,ax,av,ao]
 have h1:=qJ a
 have h2:=qK b
 have e1:Lib.trimLeftB a 48=cS a:=rfl
 have e2:Lib.trimRightB b 48=bD b:=rfl
 rw[e1,e2,d5 (by omega) (by omega)]
 simp
def bB (s:List UInt8):Int:=match Lib.atoiAll s with| .ok v=>v| .range=>Lib.atoiSat s|_=>0
def j5 (s:List UInt8):Bool:=match Lib.atoiAll s with| .ok _=>true|_=>false
def wy (s:List UInt8):CV:=match j5 s with|true=> .v .nilIface|false=> .iface 146 .undef
theorem og (s:List UInt8):ti 146 s= .ltup [LV.int .i64 (bB s),.cv (wy s)]:=by
 unfold ti wy bB j5
 cases Lib.atoiAll s<;>rfl
theorem DI (s:List UInt8):wH (.cv (wy s))=some (j5 s):=by
 unfold wy
 cases j5 s<;>rfl
theorem mD (s:List UInt8): -9223372036854775808≤bB s∧bB s≤9223372036854775807:=by
 unfold bB
 split
 ·rename_i v h
  unfold Lib.atoiAll at h
  cases s with
  |nil=>cases h
  |cons c r=>
   simp only at h
   split at h
   ·cases h
   ·cases h
   ·rename_i u hu
    split at h
    ·cases h
    ·rename_i h1
     split at h
     ·cases h
     ·rename_i h2
      injection h with h
      subst h
      split<;>omega
 ·unfold Lib.atoiSat
  split<;>omega
 ·omega
theorem ez {c:CV}:cP (.cv c)=some c:=rfl
def K0 (μ:Mu):Except Int Tok→Out
 | .ok t=> .ret (.cv t.cv) μ
 | .error e=> .panic (gc e) μ
def bS (d:List UInt8):Except Int Tok:=if 10<d.length∨j5 d=false∨2147483647<bB d then .error 28 else .ok ⟨1,0,Lib.itoa (bB d)⟩
theorem zt {n:Nat}{e:Int}:below n (gc e)=true:=rfl
theorem Kv {d:List UInt8}(hd:d.length≤1000000):(ev E).call 192 [LV.str d] μ=some (K0 μ (bS d)):=by
 refine aS ?_
 rw[L1,wC hd,og]
 have hr:=mD d
 simp only[ad,aq,ac,aj,am,ae,af,ah,aE,cond_true,cond_false,Bool.not_true,Bool.not_false,ax,av,ao,ez,jn,dJ,zt]
 by_cases h1:10<d.length
 ·have e1:decide ((10:Int)<(d.length:Int))=true:=by simp;omega
  have e2:bS d= .error 28:=by simp[bS,h1]
  rw[e1,e2,cond_true]
  rfl
 ·have e1:decide ((10:Int)<(d.length:Int))=false:=by simp;omega
  rw[e1,cond_false,DI,ac]
  cases h2:j5 d with
  |false=>
   have e2:bS d= .error 28:=by simp[bS,h2]
   rw[e2];rfl
  |true=>
   simp only[ad,aq,ac,aj,am,ae,af,ah,aE,cond_true,cond_false,Bool.not_true,Bool.not_false,ax,av,ao]
   by_cases h3:2147483647<bB d
   ·have e2:bS d= .error 28:=by simp[bS,h3]
    have e3:decide (2147483647<bB d)=true:=by simp[h3]
    rw[e2,e3];rfl
   ·have e2:bS d= .ok ⟨1,0,Lib.itoa (bB d)⟩:=by simp[bS,h1,h2,h3]
    have e3:decide (2147483647<bB d)=false:=by simp[h3]
    rw[e2,e3,cond_false,IH hr.1 hr.2]
    rfl
end
end Go.Abs
set_option linter.unusedVariables false
set_option linter.unusedSimpArgs false
set_option maxRecDepth 100000
namespace Go.Abs
open Go Go.Proofs
def qt (μ:Mu):Except Int (Tok×Nat)→Out
 | .ok q=> .ret (.ltup [.cv q.1.cv,LV.int .i64 (q.2:Int)]) μ
 | .error e=> .panic (gc e) μ
def da (whole part:List UInt8):List UInt8:=bj (cS whole)++[46]++bj (bD part)
def dM (digits:List UInt8)(ok:Bool):List UInt8:=if ok then Lib.itoa (bB digits)else [48]
def cp (text pow:List UInt8)(letter:UInt8)(ok:Bool):Tok:=
 if letter=68∧ok=true then⟨1,2,text++[68]++pow⟩else if pow=[48]then⟨1,1,text⟩else⟨1,1,text++([69]++pow)⟩
def iU (whole part digits:List UInt8)(ok:Bool):Bool:=decide (30<(cS whole).length+(bD part).length)||(decide (3<(Lib.trimPrefix digits [45]).length)&&ok)
def real (whole part digits:List UInt8)(letter:UInt8)(ok:Bool)(e:Nat):Except Int (Tok×Nat):=
 if iU whole part digits ok then .error 7 else .ok (cp (da whole part) (dM digits ok) letter ok,e)
def aW (fx:Bool)(s:List UInt8)(n:Nat):List UInt8:=bX fx ak s n
def bL (fx:Bool)(s:List UInt8)(n:Nat):Bool:=decide (atC fx s (runE fx ak s n)=46)&&(!(bq fx s (runE fx ak s n)).2.2||decide (aW fx s n=[]))
def bG (fx:Bool)(s:List UInt8)(n:Nat):List UInt8:=if bL fx s n then bX fx ak s (atE fx s (runE fx ak s n))else []
def numEnd (fx:Bool)(s:List UInt8)(n:Nat):Nat:=if bL fx s n then runE fx ak s (atE fx s (runE fx ak s n))else runE fx ak s n
def bR (fx:Bool)(s:List UInt8)(n:Nat):Except Int (Tok×Nat):=
 let q:=aL fx s (numEnd fx s n)
 if !bL fx s n&& !q.2.2.2 then(match bS (aW fx s n)with| .ok t=> .ok (t,numEnd fx s n)| .error e=> .error e)
 else real (aW fx s n) (bG fx s n) q.2.1 q.1 q.2.2.2 (if q.2.2.2 then q.2.2.1 else numEnd fx s n)
def stT (μ:Mu)(xr:Int→Int→Int→List UInt8→Mu→St)(xp:CV→Mu→St):Except Int (Tok×Nat)→St
 | .ok q=>xr (q.2:Int) q.1.kind q.1.type q.1.text μ
 | .error e=>xp (gc e) μ
section
variable {μ:Mu}{l i:Nat}{s:List UInt8}{fx:Bool}{r:List LV}
theorem Mc {e:Nat}{text pow:List UInt8}{a b:Int}{c:List UInt8}(h:text.length+pow.length≤1000000):
  uE (ev E) (e:Int) text pow a b c μ=some (kZ (e:Int) 1 1 (if pow=[48]then text else text++([69]++pow)) μ):=by
 refine bc ?_
 rw[FJ]
 by_cases hp:pow=[48]
 ·have:decide (pow=[48])=true:=by simp[hp]
  rw[this,if_pos hp];rfl
 ·have:decide (pow=[48])=false:=by simp[hp]
  rw[this,if_neg hp]
  simp only[ad,aq,ac,aj,am,ae,af,ah,aE,cond_true,cond_false,Bool.not_true,Bool.not_false,ax,av,ao]
  rw[cJ (by simp;omega),cJ (by simp;omega)]
  simp only[ad,aq,ac,aj,am,ae,af,ah,aE,cond_true,cond_false,Bool.not_true,Bool.not_false,ax,av,ao]
theorem IP {e:Nat}{letter:UInt8}{ok:Bool}{text pow:List UInt8}{a b:Int}{c:List UInt8}(h:text.length+pow.length≤1000000):
  uD (ev E) (e:Int) (letter.toNat:Int) ok text pow a b c μ=some (kY (e:Int) (cp text pow letter ok).kind (cp text pow letter ok).type (cp text pow letter ok).text μ):=by
 have e68:decide ((letter.toNat:Int)=68)=decide (letter=68):=f9 (k:=68) (by omega)
 refine bc ?_
 rw[FI,e68,Mc h,ac,yy]
 by_cases hl:letter=68
 ·cases ok with
  |true=>
   have:cp text pow letter true=⟨1,2,text++[68]++pow⟩:=by simp[cp,hl]
   rw[this]
   simp only[hl,decide_true,ad,aq,ac,aj,am,ae,af,ah,aE,cond_true,cond_false,Bool.not_true,Bool.not_false,ax,av,ao]
   rw[cJ (by simp;omega),cJ (by simp;omega)]
   simp only[ad,aq,ac,aj,am,ae,af,ah,aE,cond_true,cond_false,Bool.not_true,Bool.not_false,ax,av,ao]
  |false=>
   simp only[hl,decide_true,ad,aq,ac,aj,am,ae,af,ah,aE,cond_true,cond_false,Bool.not_true,Bool.not_false,ax,av,ao]
   by_cases hp:pow=[48]<;>simp[cp,hp]
 ·simp only[hl,decide_false,ad,aq,ac,aj,am,ae,af,ah,aE,cond_true,cond_false,Bool.not_true,Bool.not_false,ax,av,ao]
  by_cases hp:pow=[48]<;>simp[cp,hp,hl]
theorem li (t:List UInt8):(bj t).length≤t.length+1:=by
 unfold bj
 split<;>simp
theorem Mb {e:Nat}{letter:UInt8}{ok:Bool}{whole part digits:List UInt8}{a b:Int}{c:List UInt8}(h1:whole.length≤200000)(h2:part.length≤200000)(h3:digits.length≤200001)(h4:(dM digits ok).length≤100):
  mV (ev E) (e:Int) whole part (letter.toNat:Int) digits ok a b c μ=some (nS (e:Int) (cp (da whole part) (dM digits ok) letter ok).kind (cp (da whole part) (dM digits ok) letter ok).type (cp (da whole part) (dM digits ok) letter ok).text μ):=by
 refine bc ?_
 have k1:=qJ whole
 have k2:=qK part
 have k3:=li (cS whole)
 have k4:=li (bD part)
 rw[FH,KA]
 simp only[ad,aq,ac,aj,am,ae,af,ah,aE,cond_true,cond_false,Bool.not_true,Bool.not_false,ax,av,ao]
 rw[cJ (by simp;omega)]
 simp only[ad,aq,ac,aj,am,ae,af,ah,aE,cond_true,cond_false,Bool.not_true,Bool.not_false,ax,av,ao]
 rw[KB (by omega)]
 simp only[ad,aq,ac,aj,am,ae,af,ah,aE,cond_true,cond_false,Bool.not_true,Bool.not_false,ax,av,ao]
 rw[cJ (by simp;omega)]
 have ht:bj (cS whole)++[46]++bj (bD part)=da whole part:=rfl
 have hl:(da whole part).length≤400003:=by rw[←ht];simp;omega
 cases ok with
 |true=>
  have hr:=mD digits
  simp only[ad,aq,ac,aj,am,ae,af,ah,aE,cond_true,cond_false,Bool.not_true,Bool.not_false,ax,av,ao,wC (show digits.length≤1000000 by omega),og,ez,IH hr.1 hr.2]
  have hp:Lib.itoa (bB digits)=dM digits true:=rfl
  rw[hp,ht,IP (by omega),ac,qp]
 |false=>
  simp only[ad,aq,ac,aj,am,ae,af,ah,aE,cond_true,cond_false,Bool.not_true,Bool.not_false,ax,av,ao]
  have hp:([48]:List UInt8)=dM digits false:=rfl
  rw[hp,ht,IP (by omega),ac,qp]
theorem ve (a b:List UInt8):(Lib.trimPrefix a b).length≤a.length:=Lib.trimPrefix_le a b
theorem IN {e:Nat}{letter:UInt8}{ok:Bool}{whole part digits:List UInt8}{a b:Int}{c:List UInt8}(h1:whole.length≤200000)(h2:part.length≤200000)(h3:digits.length≤200001)(h4:(dM digits ok).length≤100):
  uC (ev E) (e:Int) whole part (letter.toNat:Int) digits ok a b c μ=some (stT μ nR gH (real whole part digits letter ok e)):=by
 refine bc ?_
 rw[FG,Kw (by omega) (by omega)]
 simp only[ad,aq,ac,aj,am,ae,af,ah,aE,cond_true,cond_false,Bool.not_true,Bool.not_false,ax,av,ao,jn,dJ,Kx]
 have k0:=ve digits [45]
 have e30:decide ((30:Int)<(((cS whole).length+(bD part).length:Nat):Int))=decide (30<(cS whole).length+(bD part).length):=by simp;omega
 have e3:decide ((3:Int)<((Lib.trimPrefix digits [45]).length:Int))=decide (3<(Lib.trimPrefix digits [45]).length):=by simp;omega
 rw[e30,e3,Mb h1 h2 h3 h4,ac,yx]
 unfold real iU
 cases decide (30<(cS whole).length+(bD part).length)<;>cases decide (3<(Lib.trimPrefix digits [45]).length)<;>cases ok<;>rfl
theorem Ma {e x:Nat}{letter:UInt8}{ok:Bool}{whole part digits:List UInt8}{a b:Int}{c:List UInt8}(h1:whole.length≤200000)(h2:part.length≤200000)(h3:digits.length≤200001)(h4:(dM digits ok).length≤100):
  uB (ev E) (e:Int) whole part (letter.toNat:Int) digits (x:Int) ok a b c μ=some (stT μ kV kW (real whole part digits letter ok (if ok then x else e))):=by
 refine bc ?_
 rw[FF]
 cases ok with
 |true=>
  rw[cond_true,IN h1 h2 h3 h4,ac]
  simp only[if_true]
  cases real whole part digits letter true x with
  |ok q=>exact qn _ _ _ _ _ _
  |error e=>exact qo _ _ _
 |false=>
  rw[cond_false,IN h1 h2 h3 h4,ac]
  simp only[Bool.false_eq_true,if_false]
  cases real whole part digits letter false e with
  |ok q=>exact qn _ _ _ _ _ _
  |error e=>exact qo _ _ _
theorem bP {β:Type}{t:Tok}{k:Int→Int→List UInt8→Option β}:dC (.cv t.cv) k=k t.kind t.type t.text:=rfl
theorem M3 (h:Sc μ l i s fx r)(hs:s.length≤200000){whole part:List UInt8}{dot:Bool}{n:Nat}(hn:n≤s.length)(h1:whole.length≤200000)(h2:part.length≤200000)(h3:(aL fx s n).2.1.length≤200001)(h4:(dM (aL fx s n).2.1 (aL fx s n).2.2.2).length≤100):
  mW (ev E) l i (n:Int) whole part dot 0 0 [] μ=some (stT μ iJ gf (if !dot&& !(aL fx s n).2.2.2 then(match bS whole with| .ok t=> .ok (t,n)| .error e=> .error e)else real whole part (aL fx s n).2.1 (aL fx s n).1 (aL fx s n).2.2.2 (if(aL fx s n).2.2.2 then(aL fx s n).2.2.1 else n))):=by
 refine bc ?_
 rw[Hw,Ku h hs hn]
 simp only[ad,aq,ac,aj,am,ae,af,ah,aE,cond_true,cond_false,Bool.not_true,Bool.not_false,ax,av,ao]
 rw[Ma h1 h2 h3 h4,ac,Kv (by omega)]
 have hreal:kS (ev E) cE [] [(4,0),(5,0)] (stT μ kV kW (real whole part (aL fx s n).2.1 (aL fx s n).1 (aL fx s n).2.2.2 (if(aL fx s n).2.2.2 then(aL fx s n).2.2.1 else n)))=
   some (stT μ iJ gf (real whole part (aL fx s n).2.1 (aL fx s n).1 (aL fx s n).2.2.2 (if(aL fx s n).2.2.2 then(aL fx s n).2.2.1 else n))):=by
  cases real whole part (aL fx s n).2.1 (aL fx s n).1 (aL fx s n).2.2.2 (if(aL fx s n).2.2.2 then(aL fx s n).2.2.1 else n)with
  |ok q=>exact yv _ _ _ _ _ _
  |error e=>exact yw _ _ _
 rw[hreal]
 cases dot with
 |true=>rfl
 |false=>
  cases (aL fx s n).2.2.2 with
  |true=>rfl
  |false=>
   simp only[ad,aq,ac,aj,am,ae,af,ah,aE,cond_true,cond_false,Bool.not_true,Bool.not_false,ax,av,ao,Bool.and_self,if_true]
   cases bS whole with
   |ok t=>simp only[K0,ad,bP];rfl
   |error e=>rfl
theorem F4 (digits:List UInt8)(ok:Bool):(dM digits ok).length≤100:=by
 have hr:=mD digits
 have:=Lib.itoa_length_le _ hr.1 hr.2
 unfold dM
 split
 ·omega
 ·simp
theorem Ft (h:Sc μ l i s fx r)(hs:s.length≤200000){n:Nat}(hn:n≤s.length):
  (ev E).call 171 [LV.cv (CV.ref l i 0),LV.int .i64 (n:Int)] μ=some (qt μ (bR fx s n)):=by
 have e46: ∀c:UInt8,decide ((c.toNat:Int)=46)=decide (c=46):=fun c=>f9 (k:=46) (by omega)
 have hle:=gV (fx:=fx) (p:=ak) hn
 have hle2:=fJ (fx:=fx) hle
 have hle3:=gV (fx:=fx) (p:=ak) hle2
 have hr1:=iF (fx:=fx) (s:=s) (p:=ak) (n:=n)
 have hr2:=iF (fx:=fx) (s:=s) (p:=ak) (n:=atE fx s (runE fx ak s n))
 have hx: ∀m,(aL fx s m).2.1.length≤200001:=by
  intro m
  unfold aL
  split
  ·have:=iF (fx:=fx) (s:=s) (p:=ak) (n:=expStart fx s m)
   simp only[List.length_append,bF,aM]
   split<;>simp<;>omega
  ·simp
 have fin: ∀q:Except Int (Tok×Nat),kB (ev E) 171 cE [] (stT μ iJ gf q)=some (qt μ q):=by
  intro q
  cases q with
  |ok q=>exact Af _ _ _ _ _ _
  |error e=>
   simp only[stT]
   rw[Ah]
   rfl
 have hend:numEnd fx s n≤s.length:=by unfold numEnd;split<;>assumption
 have key: ∀(dot:Bool),bL fx s n=dot→(opt (mW (ev E) l i (numEnd fx s n:Nat) (aW fx s n) (bG fx s n) dot 0 0 [] μ) (kB (ev E) 171 cE []))=some (qt μ (bR fx s n)):=by
  intro dot hd
  rw[M3 h hs hend (by unfold aW;omega) (by unfold bG;split<;>first|omega|simp) (hx _) (F4 _ _),ac,fin]
  unfold bR
  rw[hd]
 refine aS ?_
 rw[LR,na h (by omega) (fun c=>kE) hn]
 simp only[ad,aq,ac,aj,am,ae,af,ah,aE,cond_true,cond_false,Bool.not_true,Bool.not_false,ax,av,ao]
 rw[gr h (by omega) hle]
 simp only[ad,aq,ac,aj,am,ae,af,ah,aE,cond_true,cond_false,Bool.not_true,Bool.not_false,ax,av,ao,e46]
 have hw:bX fx ak s n=aW fx s n:=rfl
 by_cases hc:atC fx s (runE fx ak s n)=46
 ·have hc':decide (atC fx s (runE fx ak s n)=46)=true:=by simp[hc]
  rw[hc',cond_true,Fu h hs hle]
  simp only[ad,aq,ac,aj,am,ae,af,ah,aE,cond_true,cond_false,Bool.not_true,Bool.not_false,ax,av,ao]
  rw[na h (by omega) (fun c=>kE) hle2]
  simp only[ad,aq,ac,aj,am,ae,af,ah,aE,cond_true,cond_false,Bool.not_true,Bool.not_false,ax,av,ao]
  cases hdo:(bq fx s (runE fx ak s n)).2.2 with
  |false=>
   have hd:bL fx s n=true:=by simp[bL,hc,hdo]
   have:=key true hd
   simp only[numEnd,bG,hd,if_true]at this
   simp only[ad,aq,ac,aj,am,ae,af,ah,aE,cond_true,cond_false,Bool.not_true,Bool.not_false,ax,av,ao,hw]
   exact this
  |true=>
   simp only[ad,aq,ac,aj,am,ae,af,ah,aE,cond_true,cond_false,Bool.not_true,Bool.not_false,ax,av,ao,hw]
   by_cases hz:aW fx s n=[]
   ·have hd:bL fx s n=true:=by simp[bL,hc,hz]
    have:=key true hd
    simp only[numEnd,bG,hd,if_true]at this
    have h5:decide (aW fx s n=[])=true:=by simp[hz]
    rw[h5,cond_true]
    exact this
   ·have hd:bL fx s n=false:=by simp[bL,hdo,hz]
    have:=key false hd
    simp only[numEnd,bG,hd,Bool.false_eq_true,if_false]at this
    have h5:decide (aW fx s n=[])=false:=by simp[hz]
    rw[h5,cond_false]
    exact this
 ·have hc':decide (atC fx s (runE fx ak s n)=46)=false:=by simp[hc]
  have hd:bL fx s n=false:=by simp[bL,hc]
  have:=key false hd
  simp only[numEnd,bG,hd,Bool.false_eq_true,if_false]at this
  rw[hc',cond_false,hw]
  exact this
end
end Go.Abs
set_option linter.unusedVariables false
set_option linter.unusedSimpArgs false
namespace Go.Abs
open Go
def bN (q:UInt8):List UInt8→Option (List UInt8×Nat)
 |[]=>none
 |[c]=>if c=q then some ([],1)else none
 |c::d::r=>if c=q then(if d=q then(bN q r).map (fun x=>(q::x.1,x.2+2))else some ([],1))else(bN q (d::r)).map fun x=>(c::x.1,x.2+1)
theorem iE {q c:UInt8}(h:c≠q)(r:List UInt8):bN q (c::r)=(bN q r).map fun x=>(c::x.1,x.2+1):=by
 cases r with
 |nil=>simp[bN,h]
 |cons d r=>rw[bN,if_neg h]
theorem gA {q:UInt8}(r:List UInt8):bN q (q::q::r)=(bN q r).map fun x=>(q::x.1,x.2+2):=by
 rw[bN,if_pos rfl,if_pos rfl]
theorem ft {q:UInt8}{r:List UInt8}(h: ∀d t,r=d::t→d≠q):bN q (q::r)=some ([],1):=by
 cases r with
 |nil=>simp[bN]
 |cons d r=>rw[bN,if_pos rfl,if_neg (h d r rfl)]
theorem vV {q:UInt8}: ∀(a l:List UInt8),(∀b∈a,b≠q)→bN q (a++l)=(bN q l).map fun x=>(a++x.1,a.length+x.2)
 |[],l,_=>by
  simp only[List.nil_append,List.length_nil,Nat.zero_add]
  cases bN q l<;>rfl
 |c::a,l,h=>by
  rw[List.cons_append,iE (h c List.mem_cons_self),vV a l (fun b hb=>h b (List.mem_cons_of_mem _ hb))]
  cases bN q l with
  |none=>rfl
  |some x=>simp only[Option.map_some,List.cons_append,List.length_cons];congr 2;omega
theorem t8 {q:UInt8}: ∀(l:List UInt8),(∀b∈l,b≠q)→bN q l=none
 |[],_=>rfl
 |c::r,h=>by rw[iE (h c List.mem_cons_self),t8 r (fun b hb=>h b (List.mem_cons_of_mem _ hb))];rfl
theorem kI {q:UInt8}: ∀(n:Nat) (l:List UInt8),l.length≤n→ ∀t k,bN q l=some (t,k)→1≤k∧k≤l.length∧t.length+1≤k
 |0,l,hn,t,k,h=>by
  have:l=[]:=List.eq_nil_of_length_eq_zero (by omega)
  subst this
  cases h
 |n+1,[],hn,t,k,h=>by cases h
 |n+1,c::r,hn,t,k,h=>by
  simp only[List.length_cons]at hn ⊢
  by_cases hc:c=q
  ·subst hc
   cases r with
   |nil=>
    rw[ft (by intro d t h;cases h)]at h
    cases h
    simp
   |cons d r=>
    by_cases hd:d=c
    ·subst hd
     rw[gA]at h
     cases hq:bN d r with
     |none=>rw[hq]at h;cases h
     |some x=>
      rw[hq]at h
      cases h
      simp only[List.length_cons]at hn ⊢
      have:=kI n r (by omega) x.1 x.2 hq
      omega
    ·rw[ft (by intro e t h;cases h;exact hd)]at h
     cases h
     simp
  ·rw[iE hc]at h
   cases hq:bN q r with
   |none=>rw[hq]at h;cases h
   |some x=>
    rw[hq]at h
    cases h
    have:=kI n r (by omega) x.1 x.2 hq
    simp only[List.length_cons]
    omega
theorem ic (l:List UInt8)(q:UInt8):(Lib.index l [q]= -1∧ ∀b∈l,b≠q)∨(∃a r,l=a++q::r∧(∀b∈a,b≠q)∧Lib.index l [q]=(a.length:Int)):=by
 induction l with
 |nil=>exact Or.inl ⟨rfl,by simp⟩
 |cons c l ih=>
  by_cases hc:c=q
  ·subst hc
   refine Or.inr ⟨[],l,rfl,by simp,?_⟩
   simp[Lib.index,List.isPrefixOf]
  ·have hp:([q].isPrefixOf (c::l))=false:=by
    have:(q == c)=false:=by simpa using fun h:q=c=>hc h.symm
    simp[List.isPrefixOf,this]
   rcases ih with⟨h1,h2⟩|⟨a,r,h1,h2,h3⟩
   ·refine Or.inl ⟨?_,?_⟩
    ·simp only[Lib.index,hp,h1];rfl
    ·intro b hb
     rcases List.mem_cons.1 hb with rfl|hb
     ·exact hc
     ·exact h2 b hb
   ·refine Or.inr ⟨c::a,r,by rw[h1];rfl,?_,?_⟩
    ·intro b hb
     rcases List.mem_cons.1 hb with rfl|hb
     ·exact hc
     ·exact h2 b hb
    ·have hne:(Lib.index l [q] == -1)=false:=by rw[h3];simp;try omega
     simp only[Lib.index,hp,hne,h3]
     simp
def dbl:List UInt8→List UInt8
 |[]=>[]
 |c::r=>if c=39 then 39::39::dbl r else c::dbl r
theorem iM: ∀(a l:List UInt8),(∀b∈a,b≠39)→dbl (a++l)=a++dbl l
 |[],l,_=>rfl
 |c::a,l,h=>by
  rw[List.cons_append,dbl,if_neg (h c List.mem_cons_self),iM a l (fun b hb=>h b (List.mem_cons_of_mem _ hb))]
  rfl
theorem m0: ∀(l:List UInt8),(dbl l).length≤2*l.length
 |[]=>Nat.le_refl _
 |c::r=>by
  have:=m0 r
  unfold dbl
  split<;>simp only[List.length_cons]<;>omega
theorem qy: ∀(k:Nat) (l:List UInt8),Lib.count l [39]≤k→Lib.replaceK [39] [39,39] k l=dbl l
 |0,l,h=>by
  rcases ic l 39 with⟨h1,h2⟩|⟨a,r,h1,h2,h3⟩
  ·have:=iM l [] h2
   simp only[List.append_nil,dbl]at this
   rw[this];rfl
  ·exfalso
   have:=Lib.count_hit (sub:=[39]) (by simp) h3
   omega
 |k+1,l,h=>by
  rcases ic l 39 with⟨h1,h2⟩|⟨a,r,h1,h2,h3⟩
  ·have:=iM l [] h2
   simp only[List.append_nil,dbl]at this
   rw[this,Lib.replaceK,h1];rfl
  ·have hc:=Lib.count_hit (sub:=[39]) (by simp) h3
   rw[Lib.replaceK_hit _ _ _ _ _ h3]
   have hd:l.drop (a.length+([39]:List UInt8).length)=r:=by
    rw[h1,List.length_singleton,←List.drop_drop,List.drop_left' rfl];rfl
   have ht:l.take a.length=a:=by rw[h1,List.take_left' rfl]
   have hc':Lib.count l [39]=1+Lib.count r [39]:=by rw[hc,hd]
   rw[hd,ht,qy k r (by omega),h1,iM a _ h2,dbl,if_pos rfl]
   simp
theorem vc (l:List UInt8):Lib.replaceAll l [39] [39,39]=dbl l:=by
 unfold Lib.replaceAll Lib.replace Lib.replaceNum
 rw[if_neg (by decide),if_pos (Or.inl (by decide))]
 exact qy _ _ (Nat.le_refl _)
end Go.Abs
set_option linter.unusedVariables false
set_option linter.unusedSimpArgs false
set_option maxRecDepth 100000
namespace Go.Abs
open Go Go.Proofs
def HI:LV:= .cv (.v (.slice none 0 0))
def ay (l:List Tok):List CV:=l.map Tok.cv
def br (l:List Nat):List CV:=l.map fun(n:Nat)=>CV.int .i64 (n:Int)
def tL (l:List Tok):LV:=if l=[]then HI else .osl (ay l)
def kL (l:List Nat):LV:=if l=[]then HI else .osl (br l)
def scO (s:List UInt8)(fx:Bool)(out:List Tok)(kept:List Nat):Ob:= .cells [LV.str s,LV.bool fx,tL out,kL kept]
def scM (b:Mu)(s:List UInt8)(fx:Bool)(out:List Tok)(kept:List Nat):Mu:=b++[[scO s fx out kept]]
theorem nx (b:Mu)(o:Ob):aU (b++[[o]]) b.length 0=o:=by simp[aU]
theorem ny (b:Mu)(o o':Ob):bp (b++[[o]]) b.length 0 o'=b++[[o']]:=by simp[bp]
section
variable {b:Mu}{s:List UInt8}{fx:Bool}{out:List Tok}{kept:List Nat}
theorem kl:Sc (scM b s fx out kept) b.length 0 s fx [tL out,kL kept]:=nx _ _
theorem F0:eI (tL out)=some (ay out):=by unfold tL;split<;>rename_i h<;>(try subst h)<;>rfl
theorem FZ:eI (kL kept)=some (br kept):=by unfold kL;split<;>rename_i h<;>(try subst h)<;>rfl
theorem DY:bM (strip (tL out))=some (ay out):=by unfold tL;split<;>rename_i h<;>(try subst h)<;>rfl
theorem Mg {a b c d:LV}:gw E.P 38 (.cells [a,b,c,d]) 3=some (d,.cells [a,b,c,strip d]):=by kernel_rfl
theorem Ll {a b c d:LV}{l:List CV}:bv E.P 38 (.cells [a,b,c,d]) 3 (LV.osl l)=some (.cells [a,b,c,.osl l]):=by kernel_rfl
theorem Mf {a b c d:LV}:gw E.P 32 (.cells [a,b,c,d]) 2=some (c,.cells [a,b,strip c,d]):=by kernel_rfl
theorem Lk {a b c d:LV}{l:List CV}:bv E.P 32 (.cells [a,b,c,d]) 2 (LV.osl l)=some (.cells [a,b,.osl l,d]):=by kernel_rfl
theorem IM {a b c d:LV}:bA E.P 32 (.cells [a,b,c,d]) 2=some (strip c):=by kernel_rfl
theorem oc: ∀(l:List Nat),e7 1 (br l)=true
 |[]=>rfl
 |a::l=>by
  have e:br (a::l)=CV.int .i64 (a:Int)::br l:=rfl
  rw[e]
  simp only[e7]
  have:gk 1 (CV.int .i64 (a:Int))=true:=rfl
  rw[this]
  exact oc l
theorem od: ∀(l:List Tok),e7 3 (ay l)=true
 |[]=>rfl
 |a::l=>by
  have e:ay (a::l)=a.cv::ay l:=rfl
  rw[e]
  simp only[e7]
  have:gk 3 a.cv=true:=rfl
  rw[this]
  exact od l
theorem mE {n:Nat}: ∀(l:List Nat),bx n (br l)=true
 |[]=>rfl
 |a::l=>by
  have e:br (a::l)=CV.int .i64 (a:Int)::br l:=rfl
  rw[e]
  simp only[bx]
  have:below n (CV.int .i64 (a:Int))=true:=rfl
  rw[this]
  exact mE l
theorem j6 {n:Nat}: ∀(l:List Tok),bx n (ay l)=true
 |[]=>rfl
 |a::l=>by
  have e:ay (a::l)=a.cv::ay l:=rfl
  rw[e]
  simp only[bx]
  have:below n a.cv=true:=rfl
  rw[this]
  exact j6 l
theorem Cn {a c:List Nat}(h:a.length+c.length≤1000000):gI 1 (br a) (br c)=true:=by
 unfold gI
 rw[oc,oc]
 simp[bK,br]
 omega
theorem te {a c:List Tok}(h:a.length+c.length≤1000000):gI 3 (ay a) (ay c)=true:=by
 unfold gI
 rw[od,od]
 simp[bK,ay]
 omega
theorem Kk {n:Nat}:LV.osl (br kept++[CV.int .i64 (n:Int)])=kL (kept++[n]):=by
 unfold kL
 rw[if_neg (by simp)]
 simp[br]
theorem La {t:Tok}:LV.osl (ay out++[t.cv])=tL (out++[t]):=by
 unfold tL
 rw[if_neg (by simp)]
 simp[ay]
theorem Jp (hs:s.length≤200000): ∀(k a e:Nat) (kept:List Nat),a+k=e→e≤300000→kept.length+k≤600000→
  w5 (ev E) b.length 0 (e:Int) (a:Int) (scM b s fx out kept)=some (pM (scM b s fx out (kept++List.range' a k))):=by
 intro k
 induction k with
 |zero=>
  intro a e kept hk he hq
  refine dr ?_
  rw[yp]
  have h1:decide ((a:Int)<(e:Int))=false:=by simp;omega
  rw[h1,cond_false]
  simp
 |succ k ih=>
  intro a e kept hk he hq
  refine dr ?_
  rw[yp]
  have h1:decide ((a:Int)<(e:Int))=true:=by simp;omega
  rw[h1,cond_true]
  unfold scM
  rw[nx]
  unfold scO
  rw[Mg,ac,FZ,ac]
  have ha:[CV.int .i64 (a:Int)]=br [a]:=rfl
  rw[ha,Cn (by simp;omega),aE]
  have hb:bx (b.length+1) (br kept++br [a])=true:=by
   have:br kept++br [a]=br (kept++[a]):=by simp[br]
   rw[this];exact mE _
  rw[hb,aE,ny,nx,Ll,ac,ny,d5 (by omega) (by omega)]
  have:=ih (a+1) e (kept++[a]) (by omega) he (by simp;omega)
  unfold scM scO at this
  rw[←ha,Kk]
  have e1:((a+1:Nat):Int)=(a:Int)+1:=by omega
  rw[←e1,this]
  simp[List.range'_succ]
theorem Fv (hs:s.length≤200000){a e:Nat}(h:a≤e)(he:e≤300000)(hk:kept.length+(e-a)≤600000):
  (ev E).call 189 [LV.cv (CV.ref b.length 0 0),LV.int .i64 (a:Int),LV.int .i64 (e:Int)] (scM b s fx out kept)=some (.ret (.ltup []) (scM b s fx out (kept++List.range' a (e-a)))):=by
 refine aS ?_
 rw[LW,Jp hs (e-a) a e kept (by omega) he hk,ac,AA]
def bh (t:List UInt8):List UInt8:=[39]++dbl t++[39]
theorem II {t:List UInt8}{μ:Mu}(h:t.length≤200000):(ev E).call 86 [LV.str t] μ=some (.ret (.cv (Tok.cv ⟨1,6,bh t⟩)) μ):=by
 refine aS ?_
 have hd:=m0 t
 rw[MW,LD (by omega) (by simp) (by simp),ad,ae,ac,vc,cJ (by simp;omega),aE,cJ (by simp;omega),aE]
 rfl
theorem q5 {α:Type}{l:List α}{a e:Nat}(h1:a≤e)(h2:e≤l.length):hB l (a:Int) (e:Int)=some ((l.drop a).take (e-a)):=by
 unfold hB
 have:(decide ((0:Int)≤(a:Int))&&decide ((a:Int)≤(e:Int))&&decide ((e:Int)≤(l.length:Int)))=true:=by simp;omega
 rw[this]
 have e1:((a:Int)).toNat=a:=by omega
 have e2:((e:Int) -(a:Int)).toNat=e-a:=by omega
 simp only[e1,e2]
theorem sy {α:Type}{l:List α}{a:Nat}(h1:a≤l.length):hB l (a:Int) (l.length:Int)=some (l.drop a):=by
 rw[q5 h1 (Nat.le_refl _)]
 congr 1
 apply List.take_of_length_le
 simp
noncomputable def xJ (b:Mu)(q:Int)(from_ i:Nat)(t:List UInt8)(μ:Mu):Option (List UInt8×Nat)→St
 |none=>me (gc 7) μ
 |some (x,k)=>pL b.length 0 ((i+k:Nat):Int) (from_:Int) (t++x) 0 0 [] μ
theorem wm {c:UInt8}(l:List UInt8):Lib.hasPrefix l [c]=(match l with|[]=>false|d::_=>decide (d=c)):=by
 cases l with
 |nil=>simp[Lib.hasPrefix]
 |cons d r=>
  by_cases h:d=c
  ·subst h;simp[Lib.hasPrefix,List.isPrefixOf]
  ·have:(c == d)=false:=by simpa using fun e:c=d=>h e.symm
   simp[Lib.hasPrefix,List.isPrefixOf,h,this]
noncomputable def sA (b:Mu)(i:Int)(q:UInt8)(from_:Int)(t:List UInt8)(μ:Mu):List UInt8→St
 |[]=>mc b.length 0 i [q] from_ t 0 0 [] μ
 |d::_=>if d=q then pB b.length 0 i [q] from_ (t++[q]) 0 0 [] μ else mc b.length 0 i [q] from_ t 0 0 [] μ
theorem Jo (hs:s.length≤200000){q:UInt8}{from_:Nat}: ∀(k i:Nat) (t:List UInt8),s.length-i≤k→i≤s.length→t.length≤i→
  w4 (ev E) b.length 0 (i:Int) [q] (from_:Int) t 0 0 [] (scM b s fx out kept)=some (xJ b 0 from_ i t (scM b s fx out kept) (bN q (s.drop i))):=by
 intro k
 induction k with
 |zero=>
  intro i t hk hi ht
  refine dr ?_
  have h:=kl (b:=b) (s:=s) (fx:=fx) (out:=out) (kept:=kept)
  have hd:s.drop i=[]:=List.drop_eq_nil_of_le (by omega)
  rw[yo,h,eP,cR,ac,ae,ac,sy hi,ac,hd,Fq (by simp)]
  simp only[ad,aq,ac,aj,am,ae,af,ah,aE,cond_true,cond_false,Bool.not_true,Bool.not_false,ax,av,ao]
  have hx:Lib.index [] [q]= -1:=rfl
  have hx2:decide ((-1:Int)<0)=true:=by decide
  rw[hx,hx2,cond_true,jn,dJ]
  rfl
 |succ k ih=>
  intro i t hk hi ht
  refine dr ?_
  have h:=kl (b:=b) (s:=s) (fx:=fx) (out:=out) (kept:=kept)
  rw[yo,h,eP,cR,ac,ae,ac,sy hi,ac,Fq (by simp;omega)]
  simp only[ad,aq,ac,aj,am,ae,af,ah,aE,cond_true,cond_false,Bool.not_true,Bool.not_false,ax,av,ao]
  rcases ic (s.drop i) q with⟨h1,h2⟩|⟨a,r,h1,h2,h3⟩
  ·have hx2:decide ((-1:Int)<0)=true:=by decide
   rw[h1,hx2,cond_true,jn,dJ,t8 _ h2]
   rfl
  ·have hx2:decide ((a.length:Int)<0)=false:=by simp
   have hlen:a.length+1+r.length=s.length-i:=by
    have:(s.drop i).length=(a++q::r).length:=by rw[h1]
    simp only[List.length_drop,List.length_append,List.length_cons]at this
    omega
   have hr:s.drop (i+(a.length+1))=r:=by
    rw[←List.drop_drop,h1]
    have:a++q::r=(a++[q])++r:=by simp
    rw[this,List.drop_left' (by simp)]
   have hta:(s.drop i).take a.length=a:=by rw[h1,List.take_left' rfl]
   rw[h3,hx2,cond_false]
   have hG:wT (ev E) b.length 0 (i:Int) [q] (from_:Int) t (a.length:Int) 0 0 [] (scM b s fx out kept)=
     some (sA b ((i+(a.length+1):Nat):Int) q (from_:Int) (t++a) (scM b s fx out kept) r):=by
    refine bc ?_
    have w1:IntKind.wrap .i64 ((i:Int)+(a.length:Int))=((i+a.length:Nat):Int):=by rw[d5 (by omega) (by omega)];omega
    have w2:IntKind.wrap .i64 ((a.length:Int)+1)=((a.length+1:Nat):Int):=by rw[d5 (by omega) (by omega)];omega
    have w3:IntKind.wrap .i64 ((i:Int)+((a.length+1:Nat):Int))=((i+(a.length+1):Nat):Int):=by rw[d5 (by omega) (by omega)];omega
    rw[Hy,h,eP,cR,w1,w2,w3]
    simp only[ac,ae]
    rw[q5 (by omega) (by omega),ac]
    have e2:i+a.length-i=a.length:=by omega
    rw[e2,hta,cJ (by omega),aE,sy (by omega),ac,hr,Ky,ad,af,ac,wm]
    have hsm:bK ((t++a).length+[q].length)=true:=cJ (by simp;omega)
    cases r with
    |nil=>simp only[Bool.not_false,cond_true,sA]
    |cons d r'=>
     by_cases hdq:d=q
     ·subst hdq
      simp only[decide_true,Bool.not_true,cond_false,sA,if_true]
      rw[hsm,aE]
     ·simp only[hdq,decide_false,Bool.not_false,cond_true,sA,if_false]
   rw[hG,ac,h1,vV a _ h2]
   cases r with
   |nil=>
    rw[ft (by intro d t h;cases h)]
    simp only[sA]
    rw[rC]
    simp[xJ]
   |cons d r'=>
    by_cases hdq:d=q
    ·subst hdq
     simp only[sA,if_true]
     simp only[List.length_cons]at hlen
     rw[gA,Aj,d5 (by omega) (by omega)]
     have e1:((i+(a.length+1):Nat):Int)+1=((i+(a.length+2):Nat):Int):=by omega
     have hr2:s.drop (i+(a.length+2))=r':=by
      have:i+(a.length+2)=(i+(a.length+1))+1:=by omega
      rw[this,←List.drop_drop,hr];rfl
     rw[e1,ih (i+(a.length+2)) _ (by omega) (by omega) (by simp;omega),hr2]
     cases bN d r' with
     |none=>rfl
     |some x=>
      simp only[xJ,Option.map_some]
      congr 2
      ·omega
      ·simp
    ·simp only[sA,hdq,if_false]
     rw[ft (by intro e t h;cases h;exact hdq),rC]
     simp[xJ]
def dw (s:List UInt8)(n:Nat):Except Int (Tok×Nat):=
 match bN ((s[n]?).getD 0) (s.drop (n+1))with
 |none=> .error 7
 |some (t,k)=>if 60<t.length then .error 8 else .ok (⟨1,6,bh t⟩,n+1+k)
def u3 (b:Mu)(s:List UInt8)(fx:Bool)(out:List Tok)(kept:List Nat):Except Int (Tok×Nat×List Nat)→Out
 | .ok q=> .ret (.ltup [.cv q.1.cv,LV.int .i64 (q.2.1:Int)]) (scM b s fx out (kept++q.2.2))
 | .error e=> .panic (gc e) (scM b s fx out kept)
def di (s:List UInt8)(n:Nat):Except Int (Tok×Nat×List Nat):=
 match dw s n with
 | .ok q=> .ok (q.1,q.2,List.range' n (q.2-n))
 | .error e=> .error e
theorem Kr (hs:s.length≤200000)(hk:kept.length≤200000){n:Nat}(hn:n<s.length):
  (ev E).call 173 [LV.cv (CV.ref b.length 0 0),LV.int .i64 (n:Int)] (scM b s fx out kept)=some (u3 b s fx out kept (di s n)):=by
 refine aS ?_
 have h:=kl (b:=b) (s:=s) (fx:=fx) (out:=out) (kept:=kept)
 rw[LT,h,eP,cR,ac,ae,ac,d5 (by omega) (by omega)]
 have e1:(n:Int)+1=((n+1:Nat):Int):=by omega
 have e2:n+1-n=1:=by omega
 have hd:s.drop n=s[n]::s.drop (n+1):=List.drop_eq_getElem_cons hn
 rw[e1,q5 (by omega) (by omega),ac,e2,hd]
 have e3:List.take 1 (s[n]::s.drop (n+1))=[s[n]]:=rfl
 rw[e3,Jo hs s.length (n+1) [] (by omega) (by omega) (by simp),ac]
 unfold di dw
 rw[List.getElem?_eq_getElem hn,Option.getD_some]
 cases hq:bN s[n] (s.drop (n+1))with
 |none=>exact Az _ _ _
 |some x=>
  obtain⟨t,k⟩:=x
  have hl:=kI _ _ (Nat.le_refl _) t k hq
  rw[List.length_drop]at hl
  simp only[xJ,List.nil_append]
  rw[Ay]
  by_cases h60:60<t.length
  ·have:decide ((60:Int)<(t.length:Int))=true:=by simp;omega
   rw[this,cond_true,jn,dJ,if_pos h60]
   rfl
  ·have:decide ((60:Int)<(t.length:Int))=false:=by simp;omega
   rw[this,cond_false,if_neg h60]
   have hG:uF (ev E) b.length 0 ((n+1+k:Nat):Int) (n:Int) t 0 0 [] (scM b s fx out kept)=some (nT ((n+1+k:Nat):Int) 1 6 (bh t) (scM b s fx out (kept++List.range' n (n+1+k-n)))):=by
    refine bc ?_
    rw[FK,Fv hs (by omega) (by omega) (by omega)]
    simp only[ad,aq,ac,aj,am,ae,af,ah,aE,cond_true,cond_false,Bool.not_true,Bool.not_false,ax,av,ao]
    rw[II (by omega),ad,bP]
   rw[hG,ac,yz]
   rfl
end
end Go.Abs
set_option linter.unusedVariables false
set_option linter.unusedSimpArgs false
namespace Go.Proofs.YtfcjjankfjaapaaGreatDoor.Glue
theorem Ji:laidOutB Tryz.prog=true:=by kernel_rfl
end Go.Proofs.YtfcjjankfjaapaaGreatDoor.Glue
namespace Go.Abs.Ga
open Go Go.Proofs
section
variable {P:Program}{t:TypeId}{c:CV}
theorem is_str (ht:jP P t=false)(h:if jP P t=true then ∃ys,c= .agg ys∧IsL [.str] ys else IsL [.str] [c]): ∃s:List UInt8,LV.cv c=LV.str s∧True:=by
 simp only[ht,Bool.false_eq_true,if_false,IsL,Is]at h
 obtain⟨y,r,e,⟨s,rfl,_⟩,_⟩:=h
 injection e with e _
 subst e
 exact⟨s,rfl,trivial⟩
end
end Go.Abs.Ga
set_option linter.unusedVariables false
set_option linter.unusedSimpArgs false
set_option maxRecDepth 100000
namespace Go.Abs
open Go Go.Proofs
section
variable {b:Mu}{s:List UInt8}{fx:Bool}{out:List Tok}{kept:List Nat}
theorem L5 (ρ:Rho)(a:List CV)(b:List UInt8)(μ:Mu):aJ E ρ 50 [LV.osl a,LV.str b] μ=
  callK (ρ.call 94 [LV.osl a,LV.str b] μ) (fun v1 μ2=>opt (aH .i64 v1) fun n5=>some (.ret (LV.bool (decide ((0:Int)≤n5))) μ2)) (fun v4 μ3=>aA (below (List.length μ3) v4) (some (.panic v4 μ3))):=by kernel_rfl
theorem L6 (ρ:Rho)(a:List CV)(b:List UInt8)(μ:Mu):aJ E ρ 94 [LV.osl a,LV.str b] μ=aJ E ρ 94 [LV.cv (CV.sl a),LV.str b] μ:=by kernel_rfl
theorem KC {l:List (List UInt8)}{x:List UInt8}{μ:Mu}(hl:l.length≤1000000):(ev E).call 94 [LV.osl (fi l),LV.str x] μ=some (.ret (LV.int .i64 (oz x l 0)) μ):=by
 refine aS ?_
 rw[L6]
 exact Gq hl
theorem Kz {l:List (List UInt8)}{x:List UInt8}{μ:Mu}(hl:l.length≤1000000):(ev E).call 50 [LV.osl (fi l),LV.str x] μ=some (.ret (LV.bool (l.contains x)) μ):=by
 refine aS ?_
 rw[L5,KC hl]
 simp only[ad,aq,ac,aj,am,ae,af,ah,aE,cond_true,cond_false,Bool.not_true,Bool.not_false,ax,av,ao]
 rw[sC]
def eV (fx:Bool)(s:List UInt8)(n:Nat):Int:=bB (bX fx ak s n)
def ox (fx:Bool)(s:List UInt8)(n:Nat):UInt8:=atC fx s (runE fx ak s n)
def holE (fx:Bool)(s:List UInt8)(n:Nat):Nat:=atE fx s (runE fx ak s n)
def lg (fx:Bool)(s:List UInt8)(n:Nat):Prop:=(bX fx ak s n).length≤2∧1≤eV fx s n∧eV fx s n≤60∧(ox fx s n=72∨ox fx s n=104)
instance (fx:Bool)(s:List UInt8)(n:Nat):Decidable (lg fx s n):=by unfold lg;infer_instance
def oy (fx:Bool)(s:List UInt8)(n:Nat):Except Int (Tok×Nat×List Nat):=
 if s.length<holE fx s n+(eV fx s n).toNat then .error 7
 else .ok (⟨1,6,bh ((s.drop (holE fx s n)).take (eV fx s n).toNat)⟩,holE fx s n+(eV fx s n).toNat,List.range' (holE fx s n) (eV fx s n).toNat)
def HL (b:Mu)(s:List UInt8)(fx:Bool)(out:List Tok)(kept:List Nat):Except Int (Tok×Nat×List Nat)→Out
 | .ok q=> .ret (.ltup [.cv q.1.cv,LV.int .i64 (q.2.1:Int),LV.bool true]) (scM b s fx out (kept++q.2.2))
 | .error e=> .panic (gc e) (scM b s fx out kept)
def IL:Tok:=⟨0,0,[]⟩
theorem Kq (hs:s.length≤200000)(hk:kept.length≤200000){n:Nat}(hn:n≤s.length):
  (ev E).call 167 [LV.cv (CV.ref b.length 0 0),LV.int .i64 (n:Int)] (scM b s fx out kept)=some (if lg fx s n then HL b s fx out kept (oy fx s n)else .ret (.ltup [.cv IL.cv,LV.int .i64 (n:Int),LV.bool false]) (scM b s fx out kept)):=by
 have h:=kl (b:=b) (s:=s) (fx:=fx) (out:=out) (kept:=kept)
 have hr:=iF (fx:=fx) (s:=s) (p:=ak) (n:=n)
 have hle:=gV (fx:=fx) (p:=ak) hn
 have hE:holE fx s n≤s.length:=fJ hle
 have e72: ∀c:UInt8,decide ((c.toNat:Int)=72)=decide (c=72):=fun c=>f9 (k:=72) (by omega)
 have e104: ∀c:UInt8,decide ((c.toNat:Int)=104)=decide (c=104):=fun c=>f9 (k:=104) (by omega)
 refine aS ?_
 rw[LN,na h (by omega) (fun c=>kE) hn]
 simp only[ad,aq,ac,aj,am,ae,af,ah,aE,cond_true,cond_false,Bool.not_true,Bool.not_false,ax,av,ao]
 rw[gr h (by omega) hle]
 simp only[ad,aq,ac,aj,am,ae,af,ah,aE,cond_true,cond_false,Bool.not_true,Bool.not_false,ax,av,ao]
 rw[wC (by omega),og]
 simp only[ad,aq,ac,aj,am,ae,af,ah,aE,cond_true,cond_false,Bool.not_true,Bool.not_false,ax,av,ao,ez,e72,e104]
 have hNd:bB (bX fx ak s n)=eV fx s n:=rfl
 have hCd:atC fx s (runE fx ak s n)=ox fx s n:=rfl
 have hEd:atE fx s (runE fx ak s n)=holE fx s n:=rfl
 rw[hNd,hCd,hEd]
 by_cases h1:2<(bX fx ak s n).length
 ·have:decide ((2:Int)<((bX fx ak s n).length:Int))=true:=by simp;omega
  rw[this,cond_true,if_neg (by unfold lg;omega)]
  rfl
 ·have e1:decide ((2:Int)<((bX fx ak s n).length:Int))=false:=by simp;omega
  rw[e1,cond_false]
  by_cases h2:eV fx s n<1
  ·have:decide (eV fx s n<1)=true:=by simp[h2]
   rw[this,cond_true,if_neg (by unfold lg;omega)]
   rfl
  ·have e2:decide (eV fx s n<1)=false:=by simp[h2]
   rw[e2,cond_false]
   by_cases h3:60<eV fx s n
   ·have:decide (60<eV fx s n)=true:=by simp[h3]
    rw[this,cond_true,if_neg (by unfold lg;omega)]
    rfl
   ·have e3:decide (60<eV fx s n)=false:=by simp[h3]
    rw[e3,cond_false]
    obtain⟨m,hm⟩: ∃m:Nat,eV fx s n=(m:Int):=⟨(eV fx s n).toNat,by omega⟩
    have hG:sX (ev E) b.length 0 (holE fx s n:Nat) (eV fx s n) 0 0 [] (scM b s fx out kept)=some (match oy fx s n with| .ok q=>pw (q.2.1:Int) true q.1.kind q.1.type q.1.text (scM b s fx out (kept++q.2.2))| .error e=>px (gc e) (scM b s fx out kept)):=by
     refine bc ?_
     have w1:IntKind.wrap .i64 ((holE fx s n:Int)+(m:Int))=((holE fx s n+m:Nat):Int):=by rw[d5 (by omega) (by omega)];omega
     have e0:((m:Int)).toNat=m:=by omega
     unfold oy
     rw[Hs,h,eP,cR,hm,w1,e0]
     simp only[ad,aq,ac,aj,am,ae,af,ah,aE,cond_true,cond_false,Bool.not_true,Bool.not_false,ax,av,ao]
     by_cases h4:s.length<holE fx s n+m
     ·have:decide ((s.length:Int)<((holE fx s n+m:Nat):Int))=true:=by simp;omega
      rw[this,cond_true,jn,dJ,if_pos h4]
     ·have:decide ((s.length:Int)<((holE fx s n+m:Nat):Int))=false:=by simp;omega
      rw[this,cond_false,if_neg h4]
      have hG8:wS (ev E) b.length 0 (holE fx s n:Nat) (m:Int) 0 0 [] (scM b s fx out kept)=some (py ((holE fx s n+m:Nat):Int) true 1 6 (bh ((s.drop (holE fx s n)).take m)) (scM b s fx out (kept++List.range' (holE fx s n) m))):=by
       refine bc ?_
       have h':=kl (b:=b) (s:=s) (fx:=fx) (out:=out) (kept:=kept++List.range' (holE fx s n) m)
       have e5:holE fx s n+m-holE fx s n=m:=by omega
       rw[Ht,w1,Fv hs (by omega) (by omega) (by omega),e5]
       simp only[ad,aq,ac,aj,am,ae,af,ah,aE,cond_true,cond_false,Bool.not_true,Bool.not_false,ax,av,ao]
       rw[h',eP,cR]
       simp only[ad,aq,ac,aj,am,ae,af,ah,aE,cond_true,cond_false,Bool.not_true,Bool.not_false,ax,av,ao]
       rw[q5 (by omega) (by omega),ac,e5,II (by simp;omega),ad,bP]
      rw[hG8,ac,Ac]
    have hfin:(opt (sX (ev E) b.length 0 (holE fx s n:Nat) (eV fx s n) 0 0 [] (scM b s fx out kept)) (kB (ev E) 167 lB []))=some (HL b s fx out kept (oy fx s n)):=by
     rw[hG,ac]
     cases oy fx s n with
     |ok q=>exact Aa _ _ _ _ _ _ _
     |error e=>exact Ab _ _ _
    by_cases h5:ox fx s n=72
    ·have:decide (ox fx s n=72)=true:=by simp[h5]
     rw[this,if_pos ⟨by omega,by omega,by omega,Or.inl h5⟩]
     exact hfin
    ·have e5:decide (ox fx s n=72)=false:=by simp[h5]
     rw[e5]
     by_cases h6:ox fx s n=104
     ·have:decide (ox fx s n=104)=true:=by simp[h6]
      rw[this,if_pos ⟨by omega,by omega,by omega,Or.inr h6⟩]
      exact hfin
     ·have e6:decide (ox fx s n=104)=false:=by simp[h6]
      rw[e6,if_neg (by unfold lg;intro hh;exact hh.2.2.2.elim h5 h6)]
      rfl
def sG (fx:Bool)(out:List Tok):Bool:=fx&&(match out.getLast? with|none=>true|some t=>decide (t.kind=2)&&[[40],[44],[47],[61]].contains t.text)
theorem Kp (ho:out.length≤200000):(ev E).call 166 [LV.cv (CV.ref b.length 0 0)] (scM b s fx out kept)=some (.ret (LV.bool (sG fx out)) (scM b s fx out kept)):=by
 refine aS ?_
 have h:=kl (b:=b) (s:=s) (fx:=fx) (out:=out) (kept:=kept)
 rw[LM,h,sO,oQ]
 simp only[ad,aq,ac,aj,am,ae,af,ah,aE,cond_true,cond_false,Bool.not_true,Bool.not_false,ax,av,ao]
 cases fx with
 |false=>rfl
 |true=>
  simp only[ad,aq,ac,aj,am,ae,af,ah,aE,cond_true,cond_false,Bool.not_true,Bool.not_false,ax,av,ao]
  have hlen:(ay out).length=out.length:=by simp[ay]
  have hG:D3 (ev E) b.length 0 (scM b s true out kept)=some (ma (sG true out) (scM b s true out kept)):=by
   refine bc ?_
   rw[Hq,h,IM,ac,DY,ac,hlen]
   by_cases h0:out=[]
   ·subst h0;rfl
   ·have hpos:0<out.length:=by
     cases out with
     |nil=>exact absurd rfl h0
     |cons a r=>simp
    have e0:decide ((out.length:Int)=0)=false:=by simp[h0]
    rw[e0,cond_false]
    have hg:out.getLast?=some (out.getLast h0):=List.getLast?_eq_some_getLast h0
    have hG5:D4 (ev E) b.length 0 (scM b s true out kept)=some (mb (sG true out) (scM b s true out kept)):=by
     refine bc ?_
     rw[Hr,h,IM,ac,DY,ac,ac,DY,ac,hlen,d5 (by omega) (by omega)]
     have e1:(out.length:Int) -1=((out.length-1:Nat):Int):=by omega
     have e2:(ay out)[out.length-1]? =some (out.getLast h0).cv:=by
      unfold ay
      rw[List.getElem?_map,List.getElem?_eq_getElem (by omega),List.getLast_eq_getElem]
      rfl
     rw[e1,lZ,e2,ac,bP]
     unfold sG
     rw[hg]
     simp only[Bool.true_and]
     by_cases hk:(out.getLast h0).kind=2
     ·have:decide ((out.getLast h0).kind=2)=true:=by simp[hk]
      rw[this,cond_true]
      have e3:LV.osl [CV.str ([40]:List UInt8),CV.str ([44]:List UInt8),CV.str ([47]:List UInt8),CV.str ([61]:List UInt8)]=LV.osl (fi [[40],[44],[47],[61]]):=rfl
      rw[e3,Kz (by simp)]
      simp only[ad,aq,ac,aj,am,ae,af,ah,aE,cond_true,cond_false,Bool.not_true,Bool.not_false,ax,av,ao,Bool.true_and]
     ·have:decide ((out.getLast h0).kind=2)=false:=by simp[hk]
      rw[this,cond_false,Bool.false_and]
    rw[hG5,ac,z8]
  rw[hG,ac,z7]
def dO (t:List UInt8):Option (List UInt8):=
 if t=[60,61]then some [46,76,69,46]else if t=[62,61]then some [46,71,69,46]else if t=[61,61]then some [46,69,81,46]else if t=[47,61]then some [46,78,69,46]
 else if t=[60]then some [46,76,84,46]else if t=[62]then some [46,71,84,46]else none
def dW (fx:Bool)(s:List UInt8)(n:Nat):Except Int (Tok×Nat):=
 let a:=atC fx s n
 let m:=atE fx s n
 let c:=atC fx s m
 match dO [a,c]with
 |some w=> .ok (⟨2,0,w⟩,atE fx s m)
 |none=>if c≠0∧bC.contains [a,c]then .ok (⟨2,0,[a,c]⟩,atE fx s m)
  else match dO [a]with
   |some w=> .ok (⟨2,0,w⟩,m)
   |none=>if bC.contains [a]then .ok (⟨2,0,[a]⟩,m)else .error 7
end
end Go.Abs
set_option linter.unusedVariables false
set_option linter.unusedSimpArgs false
set_option maxRecDepth 100000
namespace Go.Abs
open Go Go.Proofs
def ksV:List Value:=[Value.string ⟨⟨([60,61]:List UInt8)⟩⟩,Value.string ⟨⟨([62,61]:List UInt8)⟩⟩,Value.string ⟨⟨([61,61]:List UInt8)⟩⟩,Value.string ⟨⟨([47,61]:List UInt8)⟩⟩,Value.string ⟨⟨([60]:List UInt8)⟩⟩,Value.string ⟨⟨([62]:List UInt8)⟩⟩]
def vsV:List CV:=[CV.str ([46,76,69,46]:List UInt8),CV.str ([46,71,69,46]:List UInt8),CV.str ([46,69,81,46]:List UInt8),CV.str ([46,78,69,46]:List UInt8),CV.str ([46,76,84,46]:List UInt8),CV.str ([46,71,84,46]:List UInt8)]
section
variable {b:Mu}{s:List UInt8}{fx:Bool}{out:List Tok}{kept:List Nat}{μ:Mu}
theorem Fw:(ev E).call 196 [] μ=some (.ret (LV.cv (CV.mview ksV vsV)) μ):=aS (by rw[L4];rfl)
theorem yh {s:S}:rc (LV.cv (CV.mview ksV vsV)) s μ=some (ksV,vsV):=rfl
theorem BE:jl .string ksV=true:=by decide
theorem tz (t:List UInt8):fg ksV vsV (Value.string ⟨⟨t⟩⟩)=(dO t).map CV.str:=by
 have h: ∀u:List UInt8,oB (Value.string ⟨⟨t⟩⟩) (Value.string ⟨⟨u⟩⟩)=decide (t=u):=fun u=>rfl
 simp only[ksV,vsV,fg,h]
 unfold dO
 by_cases h1:t=[60,61]
 ·simp[h1]
 ·by_cases h2:t=[62,61]
  ·simp[h2]
  ·by_cases h3:t=[61,61]
   ·simp[h3]
   ·by_cases h4:t=[47,61]
    ·simp[h4]
    ·by_cases h5:t=[60]
     ·simp[h5]
     ·by_cases h6:t=[62]
      ·simp[h6]
      ·simp[h1,h2,h3,h4,h5,h6]
theorem J9 {a:UInt8}:bg [CV.int .u8 (a.toNat:Int)]=some [a]:=cN [a]
theorem Ka {a c:UInt8}:bg [CV.int .u8 (a.toNat:Int),CV.int .u8 (c.toNat:Int)]=some [a,c]:=cN [a,c]
theorem Ge {a:UInt8}{m:Nat}{x y:Int}{z:List UInt8}:A0 (ev E) (m:Int) [a] x y z μ=some (stT μ k7 i8 (if bC.contains [a]then .ok (⟨2,0,[a]⟩,m)else .error 7)):=by
 refine bc ?_
 rw[FL,CW]
 simp only[ad,aq,ac,aj,am,ae,af,ah,aE,cond_true,cond_false,Bool.not_true,Bool.not_false,ax,av,ao]
 rw[tH (l:=bC) (by decide)]
 simp only[ad,aq,ac,aj,am,ae,af,ah,aE,cond_true,cond_false,Bool.not_true,Bool.not_false,ax,av,ao]
 cases bC.contains [a]with
 |true=>rfl
 |false=>rw[Bool.not_false,cond_true,jn,dJ];rfl
def one (a:UInt8)(m:Nat):Except Int (Tok×Nat):=match dO [a]with
   |some w=> .ok (⟨2,0,w⟩,m)
   |none=>if bC.contains [a]then .ok (⟨2,0,[a]⟩,m)else .error 7
theorem yX {a:UInt8}{m:Nat}{x y:Int}{z:List UInt8}:wU (ev E) (a.toNat:Int) (m:Int) x y z μ=some (stT μ kw kx (one a m)):=by
 refine bc ?_
 rw[HA,J9,ac,Fw,ad]
 simp only[ad,aq,ac,aj,am,ae,af,ah,aE,cond_true,cond_false,Bool.not_true,Bool.not_false,ax,av,ao,ez,yh,BE,tz]
 unfold one
 cases dO [a]with
 |some w=>rfl
 |none=>
  simp only[Option.map_none,optE]
  rw[Ge,ac]
  cases bC.contains [a]with
  |true=>exact yA _ _ _ _ _ _
  |false=>exact yB _ _ _
theorem H2 {a c:UInt8}{m e:Nat}{x y:Int}{z:List UInt8}:D8 (ev E) (a.toNat:Int) (m:Int) (c.toNat:Int) (e:Int) [a,c] x y z μ=some (stT μ iK gg (if c≠0∧bC.contains [a,c]then .ok (⟨2,0,[a,c]⟩,e)else one a m)):=by
 refine bc ?_
 have hone:kS (ev E) g9 [] [(4,0),(5,0)] (stT μ kw kx (one a m))=some (stT μ iK gg (one a m)):=by
  cases one a m with
  |ok q=>exact Am _ _ _ _ _ _
  |error e=>exact Ao _ _ _
 rw[Hz,mJ,yX,ac,hone,CW]
 simp only[ad,aq,ac,aj,am,ae,af,ah,aE,cond_true,cond_false,Bool.not_true,Bool.not_false,ax,av,ao]
 rw[tH (l:=bC) (by decide)]
 simp only[ad,aq,ac,aj,am,ae,af,ah,aE,cond_true,cond_false,Bool.not_true,Bool.not_false,ax,av,ao]
 by_cases hc:c=0
 ·subst hc;rfl
 ·have h1:(c != 0)=true:=by simp[hc]
  rw[h1]
  simp only[ad,aq,ac,aj,am,ae,af,ah,aE,cond_true,cond_false,Bool.not_true,Bool.not_false,ax,av,ao,hc,ne_eq,not_false_eq_true,true_and]
  cases bC.contains [a,c]with
  |true=>rfl
  |false=>
   rw[cond_false,yX,ac,hone]
   rfl
theorem Ks {l i:Nat}{r:List LV}(h:Sc μ l i s fx r)(hs:s.length≤200000){n:Nat}(hn:n≤s.length):
  (ev E).call 174 [LV.cv (CV.ref l i 0),LV.int .i64 (n:Int)] μ=some (qt μ (dW fx s n)):=by
 have hle:=fJ (fx:=fx) hn
 refine aS ?_
 rw[LU,gr h (by omega) hn]
 simp only[ad,aq,ac,aj,am,ae,af,ah,aE,cond_true,cond_false,Bool.not_true,Bool.not_false,ax,av,ao]
 rw[gr h (by omega) hle]
 simp only[ad,aq,ac,aj,am,ae,af,ah,aE,cond_true,cond_false,Bool.not_true,Bool.not_false,ax,av,ao]
 rw[Ka,ac,Fw,ad]
 simp only[ad,aq,ac,aj,am,ae,af,ah,aE,cond_true,cond_false,Bool.not_true,Bool.not_false,ax,av,ao,ez,yh,BE,tz]
 unfold dW
 simp only
 rw[H2,ac]
 cases dO [atC fx s n,atC fx s (atE fx s n)]with
 |some w=>rfl
 |none=>
  simp only[Option.map_none,optE]
  have: ∀q:Except Int (Tok×Nat),kB (ev E) 174 g9 [] (stT μ iK gg q)=some (qt μ q):=by
   intro q
   cases q with
   |ok q=>exact Ak _ _ _ _ _ _
   |error e=>exact Al _ _ _
  rw[this]
  rfl
def noK:Except Int (Tok×Nat)→Except Int (Tok×Nat×List Nat)
 | .ok q=> .ok (q.1,q.2,[])
 | .error e=> .error e
def cD (w:List UInt8):Tok:=if w=iz∨w=gm then⟨1,5,w⟩else⟨2,0,w⟩
def cK (fx:Bool)(s:List UInt8)(n:Nat)(c:UInt8):Except Int (Tok×Nat×List Nat):=
 if aY c then(if 31<(bX fx bi s n).length then .error 4 else .ok (⟨0,0,up (bX fx bi s n)⟩,runE fx bi s n,[]))
 else if ak c||(decide (c=46)&&ak (atC fx s (n+1)))then noK (bR fx s n)
 else if c=46 then(if(bq fx s n).2.2 then .ok (cD (bq fx s n).1,(bq fx s n).2.1,[])else .error 7)
 else if c=39∨c=34 then di s n
 else noK (dW fx s n)
def fk (fx:Bool)(s:List UInt8)(out:List Tok)(n:Nat):Except Int (Tok×Nat×List Nat):=
 if sG fx out&&ak ((s[n]?).getD 0)&&decide (lg fx s n)then oy fx s n else cK fx s n ((s[n]?).getD 0)
def stK (b:Mu)(s:List UInt8)(fx:Bool)(out:List Tok)(kept:List Nat):Except Int (Tok×Nat×List Nat)→St
 | .ok q=>cq (q.2.1:Int) q.1.kind q.1.type q.1.text (scM b s fx out (kept++q.2.2))
 | .error e=>bo (gc e) (scM b s fx out kept)
theorem B2 {q:Except Int (Tok×Nat)}:stT (scM b s fx out kept) cq bo q=stK b s fx out kept (noK q):=by
 cases q with
 |ok q=>simp only[stT,noK,stK,List.append_nil]
 |error e=>rfl
theorem Gc {w:List UInt8}{e:Nat}{x y:Int}{z:List UInt8}:(opt (iG (ev E) w (e:Int) x y z μ) (kS (ev E) d6 [.block 0,.seq (cA 148 [1,1,1,1,1])] [(4,0),(5,0)]))=some (cq (e:Int) (cD w).kind (cD w).type (cD w).text μ):=by
 have:iG (ev E) w (e:Int) x y z μ=some (i7 (e:Int) (cD w).kind (cD w).type (cD w).text μ):=by
  refine bc ?_
  rw[FD]
  have h3:([46,84,82,85,69,46]:List UInt8)=iz:=rfl
  have h4:([46,70,65,76,83,69,46]:List UInt8)=gm:=rfl
  rw[h3,h4]
  unfold cD
  by_cases h1:w=iz
  ·simp[h1]
  ·by_cases h2:w=gm
   ·simp[h2]
   ·simp[h1,h2]
 rw[this,ac,yr]
theorem Gd (hs:s.length≤200000){n:Nat}(hn:n≤s.length){x y:Int}{z:List UInt8}:(opt (mU (ev E) b.length 0 (n:Int) x y z (scM b s fx out kept)) (kS (ev E) d6 [] [(4,0),(5,0)]))=some (stK b s fx out kept (noK (dW fx s n))):=by
 have:mU (ev E) b.length 0 (n:Int) x y z (scM b s fx out kept)=some (stT (scM b s fx out kept) nN nO (dW fx s n)):=by
  refine bc ?_
  rw[FE,Ks kl hs hn]
  cases dW fx s n with
  |ok q=>simp only[qt,ad,aq,ac,aj,am,ae,af,ah,aE,cond_true,cond_false,Bool.not_true,Bool.not_false,ax,av,ao,bP];rfl
  |error e=>rfl
 rw[this,ac,←B2]
 cases dW fx s n with
 |ok q=>exact yt _ _ _ _ _ _
 |error e=>exact yu _ _ _
theorem H0 (hs:s.length≤200000)(hk:kept.length≤200000){n:Nat}(hn:n<s.length){x y:Int}{z:List UInt8}:pj (ev E) b.length 0 (n:Int) (((s[n]?).getD 0).toNat:Int) x y z (scM b s fx out kept)=some (stK b s fx out kept (cK fx s n ((s[n]?).getD 0))):=by
 have h:=kl (b:=b) (s:=s) (fx:=fx) (out:=out) (kept:=kept)
 have e46: ∀c:UInt8,decide ((c.toNat:Int)=46)=decide (c=46):=fun c=>f9 (k:=46) (by omega)
 have e39: ∀c:UInt8,decide ((c.toNat:Int)=39)=decide (c=39):=fun c=>f9 (k:=39) (by omega)
 have e34: ∀c:UInt8,decide ((c.toNat:Int)=34)=decide (c=34):=fun c=>f9 (k:=34) (by omega)
 have w1:IntKind.wrap .i64 ((n:Int)+1)=((n+1:Nat):Int):=by rw[d5 (by omega) (by omega)];omega
 have hr:=iF (fx:=fx) (s:=s) (p:=bi) (n:=n)
 obtain⟨c,hc⟩: ∃c,c=(s[n]?).getD 0:=⟨_,rfl⟩
 rw[←hc]
 have hnum: ∀{k1 k2:CV→Mu→Option St},callK (some (qt (scM b s fx out kept) (bR fx s n))) (fun v μ=>opt (aQ v) fun xs=>opt (aw xs) fun q=>dC q.1 fun n1 n2 s3=>opt (aw q.2) fun q2=>opt (aH .i64 q2.1) fun n4=>opt (aK q2.2) fun u=>some (cq n4 n1 n2 s3 μ)) (fun v μ=>some (bo v μ))=some (stK b s fx out kept (noK (bR fx s n))):=by
  intro k1 k2
  rw[←B2]
  cases bR fx s n with
  |ok q=>simp only[qt,ad,aq,ac,aj,am,ae,af,ah,aE,cond_true,cond_false,Bool.not_true,Bool.not_false,ax,av,ao,bP];rfl
  |error e=>rfl
 have hquo:callK (some (u3 b s fx out kept (di s n))) (fun v μ=>opt (aQ v) fun xs=>opt (aw xs) fun q=>dC q.1 fun n1 n2 s3=>opt (aw q.2) fun q2=>opt (aH .i64 q2.1) fun n4=>opt (aK q2.2) fun u=>some (cq n4 n1 n2 s3 μ)) (fun v μ=>some (bo v μ))=some (stK b s fx out kept (di s n)):=by
  cases di s n with
  |ok q=>simp only[u3,ad,aq,ac,aj,am,ae,af,ah,aE,cond_true,cond_false,Bool.not_true,Bool.not_false,ax,av,ao,bP];rfl
  |error e=>rfl
 refine bc ?_
 rw[Ho,w1,gr h (by omega) (by omega)]
 simp only[ad,aq,ac,aj,am,ae,af,ah,aE,cond_true,cond_false,Bool.not_true,Bool.not_false,ax,av,ao]
 rw[wD]
 simp only[ad,aq,ac,aj,am,ae,af,ah,aE,cond_true,cond_false,Bool.not_true,Bool.not_false,ax,av,ao]
 unfold cK
 cases hlet:aY c with
 |true=>
  rw[cond_true,na h (by omega) (fun c=>LF) (by omega)]
  simp only[ad,aq,ac,aj,am,ae,af,ah,aE,cond_true,cond_false,Bool.not_true,Bool.not_false,ax,av,ao,if_true]
  by_cases h31:31<(bX fx bi s n).length
  ·have:decide ((31:Int)<((bX fx bi s n).length:Int))=true:=by simp;omega
   rw[this,cond_true,jn,dJ,if_pos h31]
   rfl
  ·have:decide ((31:Int)<((bX fx bi s n).length:Int))=false:=by simp;omega
   rw[this,cond_false,CY (by omega),ad,ae,ac,if_neg h31]
   simp only[stK,List.append_nil]
 |false=>
  rw[cond_false,kE]
  simp only[ad,aq,ac,aj,am,ae,af,ah,aE,cond_true,cond_false,Bool.not_true,Bool.not_false,ax,av,ao,Bool.false_eq_true,if_false,e46,e39,e34]
  have hdot: ∀(o:Option St),(decide (c=46)&&ak (atC fx s (n+1)))=false→ak c=false→
    cond (decide (c = 46)) (callK ((ev E).call 172 [LV.cv (CV.ref b.length 0 0), LV.int .i64 (n : Int)] (scM b s fx out kept)) (fun v103 μ104 =>
     opt (aQ v103) fun xs107=>
     opt (aw xs107) fun q108=>
     opt (aN q108.1) fun s109=>
     opt (aw q108.2) fun q110=>
     opt (aH .i64 q110.1) fun n111=>
     opt (aw q110.2) fun q112=>
     opt (aT q112.1) fun b113=>
     opt (aK q112.2) fun u114=>
     cond (!b113) (
     callK ((ev E).call 170 [LV.int .i64 (7 : Int)] μ104) (fun v115 μ116 =>
     opt (aQ v115) fun xs119=>
     opt (aK xs119) fun u120=>
     opt (iG (ev E) s109 n111 x y z μ116) (kS (ev E) d6 [.block 0,.seq (cA 148 [1,1,1,1,1])] [(4,0),(5,0)])) (fun v118 μ117=>
     some (bo v118 μ117))) (
     opt (iG (ev E) s109 n111 x y z μ104) (kS (ev E) d6 [.block 0,.seq (cA 148 [1,1,1,1,1])] [(4,0),(5,0)]))) (fun v106 μ105=>
     some (bo v106 μ105))) o=if c=46 then some (stK b s fx out kept (if(bq fx s n).2.2 then .ok (cD (bq fx s n).1,(bq fx s n).2.1,[])else .error 7))else o:=by
   intro o h1 h2
   by_cases h46:c=46
   ·have:decide (c=46)=true:=by simp[h46]
    rw[this,cond_true,Fu h hs (by omega),if_pos h46]
    simp only[ad,aq,ac,aj,am,ae,af,ah,aE,cond_true,cond_false,Bool.not_true,Bool.not_false,ax,av,ao]
    cases hd:(bq fx s n).2.2 with
    |true=>
     rw[Bool.not_true,cond_false,Gc]
     simp only[if_true,stK,List.append_nil]
    |false=>
     rw[Bool.not_false,cond_true,jn,dJ]
     rfl
   ·have:decide (c=46)=false:=by simp[h46]
    rw[this,cond_false,if_neg h46]
  have htail: ∀(o1:Option St),o1=some (stK b s fx out kept (di s n))→
    cond (decide (c=39)) o1 (cond (decide (c=34)) o1 (opt (mU (ev E) b.length 0 (n:Int) x y z (scM b s fx out kept)) (kS (ev E) d6 [] [(4,0),(5,0)])))=
     some (stK b s fx out kept (if c=39∨c=34 then di s n else noK (dW fx s n))):=by
   intro o1 ho
   rw[Gd hs (by omega),ho]
   by_cases h1:c=39
   ·simp[h1]
   ·by_cases h2:c=34
    ·simp[h2]
    ·simp[h1,h2]
  cases hdig:ak c with
  |true=>
   rw[cond_true,Ft h hs (by omega)]
   simp only[Bool.true_or,if_true]
   exact hnum (k1:=fun _ _=>none) (k2:=fun _ _=>none)
  |false=>
   rw[cond_false]
   by_cases h46:c=46
   ·have h1:decide (c=46)=true:=by simp[h46]
    rw[h1,cond_true,kE]
    simp only[ad,aq,ac,aj,am,ae,af,ah,aE,cond_true,cond_false,Bool.not_true,Bool.not_false,ax,av,ao,Bool.false_or,Bool.true_and]
    cases hd2:ak (atC fx s (n+1))with
    |true=>
     rw[cond_true,Ft h hs (by omega)]
     simp only[if_true]
     exact hnum (k1:=fun _ _=>none) (k2:=fun _ _=>none)
    |false=>
     have:=hdot none (by rw[hd2];simp) hdig
     rw[h1,cond_true]at this
     simp only[ad,aq,ac,aj,am,ae,af,ah,aE,cond_true,cond_false,Bool.not_true,Bool.not_false,ax,av,ao,Bool.false_eq_true,if_false]
     rw[this,if_pos h46,if_pos h46]
   ·have h1:decide (c=46)=false:=by simp[h46]
    rw[h1,cond_false,cond_false,Kr hs hk hn]
    simp only[Bool.false_or,Bool.false_and,Bool.false_eq_true,if_false]
    rw[if_neg h46]
    exact htail _ hquo
theorem Fs (hs:s.length≤200000)(hk:kept.length≤200000)(ho:out.length≤200000){n:Nat}(hn:n<s.length):
  (ev E).call 148 [LV.cv (CV.ref b.length 0 0),LV.int .i64 (n:Int)] (scM b s fx out kept)=some (u3 b s fx out kept (fk fx s out n)):=by
 have h:=kl (b:=b) (s:=s) (fx:=fx) (out:=out) (kept:=kept)
 have hfin: ∀{x y:Int} {z:List UInt8},(opt (pj (ev E) b.length 0 (n:Int) (((s[n]?).getD 0).toNat:Int) x y z (scM b s fx out kept)) (kB (ev E) 148 d6 []))=some (u3 b s fx out kept (cK fx s n ((s[n]?).getD 0))):=by
  intro x y z
  rw[H0 hs hk hn,ac]
  cases cK fx s n ((s[n]?).getD 0)with
  |ok q=>exact zY _ _ _ _ _ _
  |error e=>exact zZ _ _ _
 refine aS ?_
 have hg:s[n]? =some ((s[n]?).getD 0):=by rw[List.getElem?_eq_getElem hn,Option.getD_some]
 rw[LL,h,eP,cR,ac,ae,ac,mA,hg,ac,Kp ho]
 simp only[ad,aq,ac,aj,am,ae,af,ah,aE,cond_true,cond_false,Bool.not_true,Bool.not_false,ax,av,ao]
 unfold fk
 cases hm:sG fx out with
 |false=>
  rw[cond_false,hfin]
  rfl
 |true=>
  rw[cond_true,kE]
  simp only[ad,aq,ac,aj,am,ae,af,ah,aE,cond_true,cond_false,Bool.not_true,Bool.not_false,ax,av,ao]
  cases hd:ak ((s[n]?).getD 0)with
  |false=>
   rw[cond_false,hfin]
   rfl
  |true=>
   rw[cond_true,Kq hs hk (by omega)]
   by_cases hh:lg fx s n
   ·simp only[hh,if_true,Bool.true_and,decide_true]
    cases oy fx s n with
    |ok q=>simp only[HL,ad,aq,ac,aj,am,ae,af,ah,aE,cond_true,cond_false,Bool.not_true,Bool.not_false,ax,av,ao,bP];rfl
    |error e=>rfl
   ·simp only[hh,if_false,Bool.true_and,decide_false,Bool.false_eq_true]
    simp only[ad,aq,ac,aj,am,ae,af,ah,aE,cond_true,cond_false,Bool.not_true,Bool.not_false,ax,av,ao,bP]
    exact hfin
end
end Go.Abs
set_option linter.unusedVariables false
set_option linter.unusedSimpArgs false
set_option maxRecDepth 100000
namespace Go.Abs
open Go Go.Proofs
section
variable {b:Mu}{s:List UInt8}{fx:Bool}{out:List Tok}{kept:List Nat}{μ:Mu}
theorem JT {n:Nat}{c:UInt8}(h:s[n]? =some c)(hc:c≠32):skipN fx s n=n:=by
 unfold skipN
 split
 ·have hn:n<s.length:=by
   rcases Nat.lt_or_ge n s.length with h1|h1
   ·exact h1
   ·rw[List.getElem?_eq_none h1]at h;cases h
  have hd:s.drop n=s[n]::s.drop (n+1):=List.drop_eq_getElem_cons hn
  rw[List.getElem?_eq_getElem hn]at h
  injection h with h
  rw[hd,aP,h,if_neg hc]
  rfl
 ·rfl
theorem iR {n:Nat}{c:UInt8}(h:s[n]? =some c):n<s.length:=by
 rcases Nat.lt_or_ge n s.length with h1|h1
 ·exact h1
 ·rw[List.getElem?_eq_none h1]at h;cases h
theorem pQ {n:Nat}{c:UInt8}(h:s[n]? =some c)(hc:c≠32):atC fx s n=c∧atE fx s n=n+1:=by
 have hn:=iR h
 unfold atC atE
 rw[JT h hc,h]
 exact⟨rfl,by rw[if_pos hn]⟩
theorem lH {n:Nat}:n≤atE fx s n:=by
 have:=yZ (fx:=fx) (s:=s) (n:=n)
 unfold atE
 split<;>omega
theorem ly {p:UInt8→Bool}{n:Nat}:n≤runE fx p s n:=by unfold runE;omega
theorem BY {p:UInt8→Bool}{n:Nat}{c:UInt8}(h:s[n]? =some c)(hc:c≠32)(h0:c≠0)(hp:p c=true):n+1≤runE fx p s n:=by
 obtain⟨h1,h2⟩:=pQ (fx:=fx) h hc
 have:=(vZ (fx:=fx) (s:=s) (p:=p) (n:=n) (by rw[h1,hp];simp[h0])).2
 rw[this,h2]
 exact ly
def B8 (s:List UInt8)(n:Nat):Except Int (Tok×Nat×List Nat)→Prop
 | .ok q=>n<q.2.1∧q.2.1≤s.length∧q.2.2.length+n≤q.2.1
 | .error _=>True
theorem G9 {n:Nat}(hn:n≤s.length):n≤(aL fx s n).2.2.1∧(aL fx s n).2.2.1≤s.length:=by
 unfold aL
 have hle:=fJ (fx:=fx) hn
 have hle2:=fJ (fx:=fx) hle
 have hst:expStart fx s n≤s.length:=by unfold expStart;split<;>assumption
 have hst2:n≤expStart fx s n:=by
  have h1:=lH (fx:=fx) (s:=s) (n:=n)
  have h2:=lH (fx:=fx) (s:=s) (n:=atE fx s n)
  unfold expStart;split<;>omega
 split
 ·have h1:=ly (fx:=fx) (s:=s) (p:=ak) (n:=expStart fx s n)
  have h2:=gV (fx:=fx) (p:=ak) hst
  simp only
  omega
 ·simp only;omega
theorem HV {whole part digits:List UInt8}{letter:UInt8}{ok:Bool}{e:Nat}{q:Tok×Nat}(h:real whole part digits letter ok e= .ok q):q.2=e:=by
 unfold real at h
 split at h
 ·cases h
 ·injection h with h
  rw[←h]
theorem AC {n:Nat}{c:UInt8}(h:s[n]? =some c)(hc:ak c=true∨c=46):B8 s n (noK (bR fx s n)):=by
 have hn:=iR h
 have h32:c≠32:=by
  rintro rfl
  rcases hc with h1|h1
  ·exact absurd h1 (by decide)
  ·exact absurd h1 (by decide)
 have h0:c≠0:=by
  rintro rfl
  rcases hc with h1|h1
  ·exact absurd h1 (by decide)
  ·exact absurd h1 (by decide)
 obtain⟨ha,hb⟩:=pQ (fx:=fx) h h32
 have hle:=gV (fx:=fx) (p:=ak) (Nat.le_of_lt hn)
 have hle2:=fJ (fx:=fx) hle
 have hle3:=gV (fx:=fx) (p:=ak) hle2
 have hend:numEnd fx s n≤s.length:=by unfold numEnd;split<;>assumption
 have hgt:n<numEnd fx s n:=by
  have g1:=ly (fx:=fx) (p:=ak) (s:=s) (n:=n)
  have g2:=lH (fx:=fx) (s:=s) (n:=runE fx ak s n)
  have g3:=ly (fx:=fx) (p:=ak) (s:=s) (n:=atE fx s (runE fx ak s n))
  rcases hc with hd|hd
  ·have:=BY (fx:=fx) h h32 h0 hd
   unfold numEnd;split<;>omega
  ·obtain⟨e1,e2⟩:=oM (fx:=fx) (s:=s) (p:=ak) (n:=n) (by rw[ha,hd];decide)
   have hdot:bL fx s n=true:=by
    unfold bL aW
    rw[e2,ha,e1,hd]
    simp
   unfold numEnd
   rw[if_pos hdot,e2,hb]
   rw[e2,hb]at g3
   omega
 have hx:=G9 (fx:=fx) (s:=s) hend
 unfold bR
 simp only
 split
 ·cases bS (aW fx s n)with
  |ok t=>exact⟨hgt,hend,by simp;omega⟩
  |error e=>trivial
 ·cases hr:real (aW fx s n) (bG fx s n) (aL fx s (numEnd fx s n)).2.1 (aL fx s (numEnd fx s n)).1 (aL fx s (numEnd fx s n)).2.2.2 (if(aL fx s (numEnd fx s n)).2.2.2 then(aL fx s (numEnd fx s n)).2.2.1 else numEnd fx s n)with
  |error e=>trivial
  |ok q=>
   have:=HV hr
   refine⟨?_,?_,?_⟩
   ·show n<q.2
    rw[this];split<;>omega
   ·show q.2≤s.length
    rw[this];split<;>omega
   ·show 0+n≤q.2
    rw[this];split<;>omega
theorem AM {n:Nat}(hn:n<s.length):B8 s n (di s n):=by
 unfold di dw
 cases hq:bN ((s[n]?).getD 0) (s.drop (n+1))with
 |none=>trivial
 |some x=>
  obtain⟨t,k⟩:=x
  have:=kI _ _ (Nat.le_refl _) t k hq
  rw[List.length_drop]at this
  simp only
  split
  ·rename_i q heq
   split at heq
   ·cases heq
   ·injection heq with heq
    subst heq
    refine⟨?_,?_,?_⟩
    ·show n<n+1+k
     omega
    ·show n+1+k≤s.length
     omega
    ·show (List.range' n (n+1+k-n)).length+n≤n+1+k
     simp;omega
  ·trivial
theorem JN {n:Nat}{c:UInt8}(h:s[n]? =some c)(hc:c≠32):B8 s n (noK (dW fx s n)):=by
 have hn:=iR h
 obtain⟨ha,hb⟩:=pQ (fx:=fx) h hc
 have g1:=lH (fx:=fx) (s:=s) (n:=n+1)
 have g2:=fJ (fx:=fx) (s:=s) (n:=n+1) hn
 unfold dW
 simp only[hb]
 split
 ·exact⟨by show n<atE fx s (n+1);omega,g2,by show 0+n≤atE fx s (n+1);omega⟩
 ·split
  ·exact⟨by show n<atE fx s (n+1);omega,g2,by show 0+n≤atE fx s (n+1);omega⟩
  ·split
   ·exact⟨by show n<n+1;omega,hn,by show 0+n≤n+1;omega⟩
   ·split
    ·exact⟨by show n<n+1;omega,hn,by show 0+n≤n+1;omega⟩
    ·trivial
theorem ul {n:Nat}{c:UInt8}(h:s[n]? =some c)(hc:c≠32):B8 s n (fk fx s out n):=by
 have hn:=iR h
 obtain⟨ha,hb⟩:=pQ (fx:=fx) h hc
 unfold fk
 rw[h,Option.getD_some]
 split
 ·rename_i hh
  simp only[Bool.and_eq_true,decide_eq_true_eq]at hh
  obtain⟨_,hN⟩:=hh
  unfold oy
  split
  ·trivial
  ·rename_i hlen
   have g1:=ly (fx:=fx) (p:=ak) (s:=s) (n:=n)
   have g2:=lH (fx:=fx) (s:=s) (n:=runE fx ak s n)
   have g3:runE fx ak s n≤holE fx s n:=g2
   have g4:=hN.2.1
   refine⟨?_,?_,?_⟩
   ·show n<holE fx s n+(eV fx s n).toNat
    omega
   ·show holE fx s n+(eV fx s n).toNat≤s.length
    omega
   ·show (List.range' (holE fx s n) (eV fx s n).toNat).length+n≤holE fx s n+(eV fx s n).toNat
    simp;omega
 ·unfold cK
  split
  ·rename_i hl
   have h0:c≠0:=by rintro rfl;exact absurd hl (by decide)
   have hp:bi c=true:=by unfold bi;rw[hl];rfl
   have g1:=BY (fx:=fx) h hc h0 hp
   have g2:=gV (fx:=fx) (p:=bi) (Nat.le_of_lt hn)
   split
   ·trivial
   ·exact⟨by show n<runE fx bi s n;omega,g2,by show 0+n≤runE fx bi s n;omega⟩
  ·split
   ·rename_i hd
    refine AC h ?_
    rw[Bool.or_eq_true,Bool.and_eq_true,decide_eq_true_eq]at hd
    rcases hd with hd|hd
    ·exact Or.inl hd
    ·exact Or.inr hd.1
   ·split
    ·rename_i h46
     subst h46
     split
     ·have e:bq fx s n=(ce fx s n,dotEnd fx s n,dK fx s n):=by unfold bq;rw[if_pos ha]
      rw[e]
      have g1:=ly (fx:=fx) (p:=aY) (s:=s) (n:=atE fx s n)
      have g2:=lH (fx:=fx) (s:=s) (n:=runE fx aY s (atE fx s n))
      have g3:=fJ (fx:=fx) (Nat.le_of_lt hn)
      have g4:=gV (fx:=fx) (p:=aY) g3
      have g5:=fJ (fx:=fx) g4
      have g6:runE fx aY s (atE fx s n)≤dotEnd fx s n:=g2
      rw[hb]at g1 g6
      exact⟨by show n<dotEnd fx s n;omega,g5,by show 0+n≤dotEnd fx s n;omega⟩
     ·trivial
    ·split
     ·exact AM hn
     ·exact JN h hc
def b7 (fx:Bool)(s:List UInt8):Nat→Nat→List Tok→List Nat→Option (Nat×Int)×List Tok×List Nat
 |0,_,out,kept=>(none,out,kept)
 |k+1,n,out,kept=>
  if s.length≤n+aP (s.drop n)then(none,out,kept)
  else match fk fx s out (n+aP (s.drop n))with
   | .error e=>(some (n+aP (s.drop n),e),out,kept)
   | .ok q=>b7 fx s k q.2.1 (out++[q.1]) (kept++q.2.2)
def G7 (b:Mu)(s:List UInt8)(fx:Bool):Option (Nat×Int)×List Tok×List Nat→St
 |(none,out,kept)=>pJ 0 0 (scM b s fx out kept)
 |(some (n,e),out,kept)=>pK (gc e) (n:Int) 0 (scM b s fx out kept)
theorem Hk {l i:Nat}{r:List LV}(h:Sc μ l i s fx r)(hs:s.length≤1000000): ∀(k n:Nat),n+k=s.length→uH (ev E) l i (n:Int) 0 μ=some (k8 l i ((n+aP (s.drop n):Nat):Int) 0 μ):=by
 intro k
 induction k with
 |zero=>
  intro n hk
  refine dr ?_
  rw[vP,h]
  simp only[ac,eP,cR,ae]
  have:List.drop n s=[]:=List.drop_eq_nil_of_le (by omega)
  have h1:decide ((n:Int)<(s.length:Int))=false:=by simp;omega
  rw[h1,this]
  simp[aP]
 |succ k ih=>
  intro n hk
  refine dr ?_
  rw[vP,h]
  simp only[ac,eP,cR,ae]
  have h1:decide ((n:Int)<(s.length:Int))=true:=by simp;omega
  have hn:n<s.length:=by omega
  rw[h1,mA,List.getElem?_eq_getElem hn,ac]
  have hd:List.drop n s=s[n]::List.drop (n+1) s:=List.drop_eq_getElem_cons hn
  have e:IntKind.wrap .i64 ((n:Int)+1)=((n+1:Nat):Int):=by rw[d5 (by omega) (by omega)];omega
  have e32: ∀c:UInt8,decide ((c.toNat:Int)=32)=decide (c=32):=fun c=>f9 (k:=32) (by omega)
  rw[e,ih (n+1) (by omega),e32,hd,aP]
  by_cases hc:s[n]=32
  ·simp only[hc,decide_true,cond_true,if_true]
   congr 2
   omega
  ·simp only[hc,decide_false,cond_false,cond_true,if_false]
   rfl
theorem Cs {n:Nat}(h:n+aP (s.drop n)<s.length): ∃c,s[n+aP (s.drop n)]? =some c∧c≠32:=by
 refine⟨s[n+aP (s.drop n)],List.getElem?_eq_getElem h,?_⟩
 have hd:=List.drop_eq_getElem_cons h
 refine j8 (s.drop n) _ (s.drop (n+aP (s.drop n)+1)) ?_
 rw[List.drop_drop]
 exact hd
theorem Jm (hs:s.length≤200000): ∀(k n:Nat) (out:List Tok) (kept:List Nat),s.length<n+k→n≤s.length→out.length≤n→kept.length≤n→
  wY (ev E) b.length 0 (n:Int) 0 (scM b s fx out kept)=some (G7 b s fx (b7 fx s k n out kept)):=by
 intro k
 induction k with
 |zero=>intro n out kept hk hn ho hq;omega
 |succ k ih=>
  intro n out kept hk hn ho hq
  have h:=kl (b:=b) (s:=s) (fx:=fx) (out:=out) (kept:=kept)
  have hb:=kC (s.drop n)
  rw[List.length_drop]at hb
  refine dr ?_
  rw[HH,Hk h (by omega) (s.length-n) n (by omega),ac,yC,h,eP,cR,ac,ae,ac]
  unfold b7
  by_cases hm:s.length≤n+aP (s.drop n)
  ·have:decide ((s.length:Int)≤((n+aP (s.drop n):Nat):Int))=true:=by simp;omega
   rw[this,cond_true,if_pos hm]
   rfl
  ·have:decide ((s.length:Int)≤((n+aP (s.drop n):Nat):Int))=false:=by simp;omega
   rw[this,cond_false,if_neg hm]
   obtain⟨c,hc1,hc2⟩:=Cs (s:=s) (n:=n) (by omega)
   have hf:=ul (fx:=fx) (out:=out) hc1 hc2
   obtain⟨m,hmd⟩: ∃m,m=n+aP (s.drop n):=⟨_,rfl⟩
   rw[←hmd]at hm hf ⊢
   cases ht:fk fx s out m with
   |error e=>
    have hG:wQ (ev E) b.length 0 (m:Int) 0 (scM b s fx out kept)=some (pr (gc e) (m:Int) 0 (scM b s fx out kept)):=by
     refine bc ?_
     rw[yl,Fs hs (by omega) (by omega) (by omega),ht]
     rfl
    rw[hG,ac,zV]
    rfl
   |ok q=>
    rw[ht]at hf
    obtain⟨f1,f2,f3⟩:=hf
    have hG:wQ (ev E) b.length 0 (m:Int) 0 (scM b s fx out kept)=some (pp b.length 0 (q.2.1:Int) 0 (scM b s fx (out++[q.1]) (kept++q.2.2))):=by
     refine bc ?_
     rw[yl,Fs hs (by omega) (by omega) (by omega),ht]
     simp only[u3,ad,aq,ac,aj,am,ae,af,ah,aE,cond_true,cond_false,Bool.not_true,Bool.not_false,ax,av,ao,bP]
     unfold scM
     rw[nx]
     unfold scO
     rw[Mf,ac,F0,ac]
     have ha:[CV.agg [CV.int .i64 q.1.kind,CV.int .i64 q.1.type,CV.str q.1.text]]=ay [q.1]:=rfl
     have hc:CV.agg [CV.int .i64 q.1.kind,CV.int .i64 q.1.type,CV.str q.1.text]=q.1.cv:=rfl
     rw[ha,te (by simp;omega),aE]
     have hbl:bx (b.length+1) (ay out++ay [q.1])=true:=by
      have:ay out++ay [q.1]=ay (out++[q.1]):=by simp[ay]
      rw[this];exact j6 _
     rw[hbl,aE,ny,nx,Lk,ac,ny]
     have e2:ay [q.1]=[q.1.cv]:=rfl
     rw[e2,La]
    rw[hG,ac,zU,ih q.2.1 _ _ (by omega) f2 (by simp;omega) (by simp;omega)]
theorem u7 (b:Mu)(x:Lam):cZ (b++[x])=some (b,x):=by simp[cZ]
theorem GD {e:Int}:bv E.P 25 (.cells [LV.int .i64 (0:Int)]) 0 (LV.int .i64 e)=some (.cells [LV.int .i64 e]):=by kernel_rfl
theorem yS {e:Int}:bA E.P 25 (aD [Ob.cells [LV.int .i64 e]] 0) 0=some (LV.int .i64 e):=by kernel_rfl
def cC:Option (Nat×Int)→Nat×Int
 |none=>(0,0)
 |some q=>q
theorem Ko (hs:s.length≤200000){r:Option (Nat×Int)×List Tok×List Nat}(hr:b7 fx s (s.length+1) 0 [] []=r):
  (ev E).call 118 [LV.cv (CV.ref b.length 0 0)] (scM b s fx [] [])=some (.ret (.ltup [LV.int .i64 ((cC r.1).1:Int),LV.int .i64 (cC r.1).2]) (scM b s fx r.2.1 r.2.2)):=by
 refine aS ?_
 have hl:=Jm (b:=b) (fx:=fx) hs (s.length+1) 0 [] [] (by omega) (by omega) (by simp) (by simp)
 have e0:((0:Nat):Int)=0:=rfl
 rw[hr,e0]at hl
 rw[LJ,hl,ac]
 obtain⟨x,o,q⟩:=r
 cases x with
 |none=>
  simp only[G7]
  have hd:(ev E).dcall 147 none [LV.cv (CV.ref (scM b s fx o q).length 0 0)] (scM b s fx o q++[[Ob.cells [LV.int .i64 0]]])=some (scM b s fx o q++[[Ob.cells [LV.int .i64 0]]]):=xN (by rw[Jr])
  rw[Av,hd,ac,u7,ac]
  simp only[yS,ac,cC]
  rfl
 |some w=>
  obtain⟨n,e⟩:=w
  simp only[G7]
  have hd:(ev E).dcall 147 (some (gc e)) [LV.cv (CV.ref (scM b s fx o q).length 0 0)] (scM b s fx o q++[[Ob.cells [LV.int .i64 0]]])=some (scM b s fx o q++[[Ob.cells [LV.int .i64 e]]]):=by
   refine xN ?_
   unfold gc
   rw[Js,nx,GD,ac,ny]
  rw[Aw,hd,ac,u7,ac]
  simp only[yS,ac,cC]
  rfl
def fT (s:List UInt8):Bool:= !(s.any fun b=>decide (b.toNat<32)||decide (126<b.toNat))
def cg (s:List UInt8):Int:=if 1320<s.length then 8 else if fT s then 0 else 3
theorem CU {g:FuncId}{p:UInt8→Bool}(hg:kK g=some p):(ev E).call 43 [LV.str s,LV.cv (CV.clo g [])] μ=some (.ret (LV.bool (s.any p)) μ):=by
 refine dg (g:=fL kK) (by kernel_rfl) ?_
 simp only[fL,aj,ac,ah,ae,hg]
theorem LE:(ev E).call 85 [LV.str s] μ=some (.ret (LV.bool (fT s)) μ):=by
 refine aS ?_
 rw[MV,CU (g:=122) rfl]
 simp only[ad,aq,ac,aj,am,ae,af,ah,aE,cond_true,cond_false,Bool.not_true,Bool.not_false,ax,av,ao]
 rfl
theorem Km:(ev E).call 117 [LV.str s] μ=some (.ret (LV.int .i64 (cg s)) μ):=by
 refine aS ?_
 rw[LI,LE]
 simp only[ad,aq,ac,aj,am,ae,af,ah,aE,cond_true,cond_false,Bool.not_true,Bool.not_false,ax,av,ao]
 unfold cg
 by_cases h:1320<s.length
 ·have:decide ((1320:Int)<(s.length:Int))=true:=by simp;omega
  rw[this,if_pos h]
  rfl
 ·have:decide ((1320:Int)<(s.length:Int))=false:=by simp;omega
  rw[this,if_neg h]
  cases fT s<;>rfl
structure Scan where
 toks:List Tok
 kept:List Nat
 n:Nat
 e:Int
def ba (fx:Bool)(s:List UInt8):Scan:=
 if cg s=0 then
  let r:=b7 fx s (s.length+1) 0 [] []
  if(cC r.1).2=0 then(if 300<r.2.1.length then⟨r.2.1,r.2.2,0,8⟩else⟨r.2.1,r.2.2,r.2.1.length,0⟩)else⟨r.2.1,r.2.2,(cC r.1).1,(cC r.1).2⟩
 else⟨[],[],0,cg s⟩
def ll (fx:Bool)(s:List UInt8):List CV:=if cg s=0 then [CV.str s,CV.bool fx,CV.sl (ay (ba fx s).toks),CV.sl (br (ba fx s).kept)]else [CV.str s,CV.bool fx,CV.v (.slice none 0 0),CV.v (.slice none 0 0)]
theorem KU {α:Type}{k:Lam→Option α}:mN [(0,[0,0,1,1])] [scO s fx out kept] k=k [.cells [LV.str s,LV.bool fx,.osl (ay out),.osl (br kept)]]:=by
 have h1:=F0 (out:=out)
 have h2:=FZ (kept:=kept)
 unfold scO
 simp only[mN,aD,List.getElem?_cons_zero,eE,tn,h1,h2,ac,List.set_cons_zero]
theorem J7 {n:Nat}:below n (CV.view [CV.str s,CV.bool fx,CV.sl (ay out),CV.sl (br kept)])=true:=by
 simp only[below,bx]
 rw[j6,mE]
theorem CX (hs:s.length≤200000):(ev E).call 78 [LV.str s,LV.bool fx] μ=some (.ret (.ltup [LV.cv (CV.view (ll fx s)),LV.int .i64 ((ba fx s).n:Int),LV.int .i64 (ba fx s).e]) μ):=by
 refine aS ?_
 rw[MU,Km]
 simp only[ad,aq,ac,aj,am,ae,af,ah,aE,cond_true,cond_false,Bool.not_true,Bool.not_false,ax,av,ao]
 by_cases ht:cg s=0
 ·have:decide (cg s=0)=true:=by simp[ht]
  rw[this,Bool.not_true,cond_false]
  obtain⟨r,hr⟩: ∃r,b7 fx s (s.length+1) 0 [] []=r:=⟨_,rfl⟩
  have hsc:ba fx s=if(cC r.1).2=0 then(if 300<r.2.1.length then⟨r.2.1,r.2.2,0,8⟩else⟨r.2.1,r.2.2,r.2.1.length,0⟩)else⟨r.2.1,r.2.2,(cC r.1).1,(cC r.1).2⟩:=by
   unfold ba;rw[if_pos ht,hr]
  have htk:(ba fx s).toks=r.2.1∧(ba fx s).kept=r.2.2:=by
   rw[hsc];split
   ·split<;>exact⟨rfl,rfl⟩
   ·exact⟨rfl,rfl⟩
  have hC:ll fx s=[CV.str s,CV.bool fx,CV.sl (ay r.2.1),CV.sl (br r.2.2)]:=by unfold ll;rw[if_pos ht,htk.1,htk.2]
  have hl:=Ko (b:=μ) (fx:=fx) hs hr
  have hlen:(ay r.2.1).length=r.2.1.length:=by simp[ay]
  have h5:Il (ev E) s fx μ=some (if(cC r.1).2=0∧ ¬300<r.2.1.length then r9 s fx (ay r.2.1) (br r.2.2) ((ba fx s).n:Int) (ba fx s).e .dead μ else nY s fx (ay r.2.1) (br r.2.2) ((ba fx s).n:Int) (ba fx s).e μ):=by
   refine bc ?_
   have e0:μ++[[Ob.cells [LV.str s,LV.bool fx,LV.cv (CV.v (.slice none 0 0)),LV.cv (CV.v (.slice none 0 0))]]]=scM μ s fx [] []:=rfl
   rw[JC,e0,hl]
   simp only[ad,aq,ac,aj,am,ae,af,ah,aE,cond_true,cond_false,Bool.not_true,Bool.not_false,ax,av,ao]
   unfold scM
   rw[u7,ac,KU]
   by_cases he:(cC r.1).2=0
   ·have h6:B9 (ev E) ((cC r.1).1:Int) (cC r.1).2 [.cells [LV.str s,LV.bool fx,.osl (ay r.2.1),.osl (br r.2.2)]] μ=some (sb s fx (ay r.2.1) (br r.2.2) μ):=by
     refine bc ?_
     have:decide ((cC r.1).2=0)=true:=by simp[he]
     rw[BL,this]
     rfl
    rw[h6,ac,Dq]
    rw[hsc,if_pos he]
    by_cases h3:300<r.2.1.length
    ·have h8:Ca (ev E) [.cells [LV.str s,LV.bool fx,.osl (ay r.2.1),.osl (br r.2.2)]] μ=some (sc s fx (ay r.2.1) (br r.2.2) 0 8 μ):=by
      refine bc ?_
      have:decide ((300:Int)<((ay r.2.1).length:Int))=true:=by rw[hlen];simp;omega
      rw[BM,this]
      rfl
     rw[h8,ac,Dr,if_pos h3,if_neg (by simp[h3])]
     rfl
    ·have h8:Ca (ev E) [.cells [LV.str s,LV.bool fx,.osl (ay r.2.1),.osl (br r.2.2)]] μ=some (sd s fx (ay r.2.1) (br r.2.2) (r.2.1.length:Int) 0 .dead μ):=by
      refine bc ?_
      have:decide ((300:Int)<((ay r.2.1).length:Int))=false:=by rw[hlen];simp;omega
      have h10:Eb (ev E) s fx (ay r.2.1) (br r.2.2) [Ob.dead] μ=some (pI s fx (ay r.2.1) (br r.2.2) (r.2.1.length:Int) 0 .dead μ):=by
       refine bc ?_
       rw[HG,hlen]
      rw[BM,this,cond_false,h10,ac,Au]
     rw[h8,ac,Ds,if_neg h3,if_pos ⟨he,h3⟩]
   ·have h6:B9 (ev E) ((cC r.1).1:Int) (cC r.1).2 [.cells [LV.str s,LV.bool fx,.osl (ay r.2.1),.osl (br r.2.2)]] μ=some (sa s fx (ay r.2.1) (br r.2.2) ((cC r.1).1:Int) (cC r.1).2 μ):=by
     refine bc ?_
     have:decide ((cC r.1).2=0)=false:=by simp[he]
     rw[BL,this]
     rfl
    rw[h6,ac,Dp,hsc,if_neg he,if_neg (by simp[he])]
  rw[h5,ac]
  have:eU μ.length (LV.ltup [LV.cv (CV.view [CV.str s,CV.bool fx,CV.sl (ay r.2.1),CV.sl (br r.2.2)]),LV.int .i64 ((ba fx s).n:Int),LV.int .i64 (ba fx s).e])=true:=by
   simp only[eU,List.all_cons,kA,J7]
   rfl
  split
  ·rw[Do,this,aE,hC]
  ·rw[Dn,this,aE,hC]
 ·have:decide (cg s=0)=false:=by simp[ht]
  have hC:ll fx s=[CV.str s,CV.bool fx,CV.v (.slice none 0 0),CV.v (.slice none 0 0)]:=by unfold ll;rw[if_neg ht]
  have hsc:ba fx s=⟨[],[],0,cg s⟩:=by unfold ba;rw[if_neg ht]
  rw[this,Bool.not_false,cond_true,hC,hsc]
  rfl
def cQ (fx:Bool)(s:List UInt8):List Tok:=if(ba fx s).e=0 then(ba fx s).toks else []
theorem jW (h:(ba fx s).e=0):cg s=0∧(ba fx s).n=(ba fx s).toks.length∧ll fx s=[CV.str s,CV.bool fx,CV.sl (ay (ba fx s).toks),CV.sl (br (ba fx s).kept)]:=by
 by_cases ht:cg s=0
 ·refine⟨ht,?_,by unfold ll;rw[if_pos ht]⟩
  unfold ba at h ⊢
  rw[if_pos ht]at h ⊢
  simp only at h ⊢
  by_cases he:(cC (b7 fx s (s.length+1) 0 [] []).1).2=0
  ·rw[if_pos he]at h ⊢
   by_cases h3:300<(b7 fx s (s.length+1) 0 [] []).2.1.length
   ·rw[if_pos h3]at h;exact absurd h (by simp)
   ·rw[if_neg h3]
  ·rw[if_neg he]at h
   exact absurd h he
 ·unfold ba at h
  rw[if_neg ht]at h
  exact absurd h ht
theorem oA {l:List CV}:jj (LV.cv (CV.view l))=some false:=rfl
theorem p6 {l:List CV}:fR (LV.cv (j2 (CV.view l)))=some l:=rfl
theorem sB {t:List UInt8}:aN (LV.cv (CV.str t))=some t:=rfl
theorem p5 {t:Bool}:aT (LV.cv (CV.bool t))=some t:=rfl
theorem Lw (hs:s.length≤200000):(ev E).call 57 [LV.str s,LV.bool fx] μ=some (.ret (.ltup [if(ba fx s).e=0 then LV.cv (CV.sl (ay (ba fx s).toks))else HI,LV.int .i64 ((ba fx s).n:Int),LV.int .i64 (ba fx s).e]) μ):=by
 refine aS ?_
 rw[MO,CX hs]
 simp only[ad,aq,ac,aj,am,ae,af,ah,aE,cond_true,cond_false,Bool.not_true,Bool.not_false,ax,av,ao,ez]
 by_cases he:(ba fx s).e=0
 ·have h1:decide ((ba fx s).e=0)=true:=by simp[he]
  obtain⟨_,_,hC⟩:=jW he
  have hG:Ij (ev E) (CV.view (ll fx s)) ((ba fx s).n:Int) μ=some (r6 (ay (ba fx s).toks) ((ba fx s).n:Int) 0 μ):=by
   refine bc ?_
   rw[Jz,oA,ac,Bool.not_false,aE,p6,ac,hC]
   simp only[ad,aq,ac,aj,am,ae,af,ah,aE,cond_true,cond_false,Bool.not_true,Bool.not_false,ax,av,ao,sB,p5]
  rw[h1,Bool.not_true,cond_false,hG,ac,Dk,he]
  simp
 ·have h1:decide ((ba fx s).e=0)=false:=by simp[he]
  rw[h1,Bool.not_false,cond_true,if_neg he]
  rfl
theorem CT (hs:s.length≤200000):(ev E).call 17 [LV.str s] μ=some (.ret (.ltup [LV.cv (CV.sl (ay (cQ false s))),LV.int .i64 ((ba false s).n:Int),LV.int .i64 (ba false s).e]) μ):=by
 refine aS ?_
 rw[ME,Lw hs]
 unfold cQ
 by_cases he:(ba false s).e=0
 ·rw[if_pos he,if_pos he];rfl
 ·rw[if_neg he,if_neg he];rfl
def ii (s:List UInt8):Option Tok:=if(ba false s).e=0∧(ba false s).n=1 then(ba false s).toks[0]? else none
def KZ:Option Tok→List LV
 |some t=>[.cv t.cv,LV.bool true]
 |none=>[.cv IL.cv,LV.bool false]
theorem Lu (hs:s.length≤200000):(ev E).call 46 [LV.str s] μ=some (.ret (.ltup (KZ (ii s))) μ):=by
 refine aS ?_
 rw[MJ,CX hs]
 simp only[ad,aq,ac,aj,am,ae,af,ah,aE,cond_true,cond_false,Bool.not_true,Bool.not_false,ax,av,ao,ez]
 unfold ii
 by_cases he:(ba false s).e=0
 ·have h1:decide ((ba false s).e=0)=true:=by simp[he]
  rw[h1,Bool.not_true,cond_false]
  by_cases hn:(ba false s).n=1
  ·have h2:decide (((ba false s).n:Int)=1)=true:=by simp[hn]
   obtain⟨_,hl,hC⟩:=jW he
   rw[h2,Bool.not_true,cond_false,if_pos ⟨he,hn⟩]
   obtain⟨t,ht⟩: ∃t,(ba false s).toks=[t]:=by
    rw[hn]at hl
    exact List.length_eq_one_iff.1 hl.symm
   have hG:Ii (ev E) (CV.view (ll false s)) 0 0 [] μ=some (r5 true t.kind t.type t.text μ):=by
    refine bc ?_
    rw[Jy,oA,ac,Bool.not_false,aE,p6,ac,hC,ht]
    simp only[ad,aq,ac,aj,am,ae,af,ah,aE,cond_true,cond_false,Bool.not_true,Bool.not_false,ax,av,ao,sB,p5]
    have:dT (ay [t]) (0:Int)=some t.cv:=rfl
    rw[this,ac,bP]
   rw[hG,ac,Dj,ht]
   rfl
  ·have h2:decide (((ba false s).n:Int)=1)=false:=by simp;omega
   rw[h2,Bool.not_false,cond_true,if_neg (by simp[hn])]
   rfl
 ·have h1:decide ((ba false s).e=0)=false:=by simp[he]
  rw[h1,Bool.not_false,cond_true,if_neg (by simp[he])]
  rfl
end
end Go.Abs
set_option linter.unusedVariables false
set_option linter.unusedSimpArgs false
namespace Go.Abs
open Go
def DZ (a:Nat)(c:UInt8):Nat:=a*10+(c.toNat-48)
def valD (acc:Nat)(l:List UInt8):Nat:=l.foldl DZ acc
theorem gE (acc:Nat):valD acc []=acc:=rfl
theorem Gz (c:UInt8)(r:List UInt8)(acc:Nat):valD acc (c::r)=valD (DZ acc c) r:=by unfold valD;rw[List.foldl_cons]
theorem dk (c:UInt8)(r:List UInt8)(acc:Nat):valD acc (c::r)=valD (acc*10+(c.toNat-48)) r:=by rw[Gz];unfold DZ;exact Eq.refl _
theorem cr {c:UInt8}:ak c=true↔48≤c.toNat∧c.toNat≤57:=by
 unfold ak
 rw[Bool.and_eq_true,decide_eq_true_eq,decide_eq_true_eq]
theorem zh (c:UInt8)(l:List UInt8): ∀(acc:Nat),valD acc (l++[c])=valD acc l*10+(c.toNat-48):=by
 induction l with
 |nil=>intro acc;rw[List.nil_append,dk,gE,gE]
 |cons d r ih=>intro acc;rw[List.cons_append,dk,dk,ih]
theorem dP: ∀(l:List UInt8) (acc:Nat),(∀b∈l,ak b=true)→acc*10^l.length≤valD acc l∧valD acc l<(acc+1)*10^l.length
 |[],acc,_=>by rw[gE,List.length_nil,Nat.pow_zero];omega
 |c::r,acc,h=>by
  have hc:=cr.1 (h c List.mem_cons_self)
  obtain⟨h1,h2⟩:=dP r (acc*10+(c.toNat-48)) (fun b hb=>h b (List.mem_cons_of_mem _ hb))
  rw[dk];simp only[List.length_cons,Nat.pow_succ]
  have e1:acc*(10^r.length*10)=(acc*10)*10^r.length:=by rw[Nat.mul_comm (10^r.length) 10,Nat.mul_assoc]
  have e2:(acc+1)*(10^r.length*10)=((acc+1)*10)*10^r.length:=by rw[Nat.mul_comm (10^r.length) 10,Nat.mul_assoc]
  rw[e1,e2]
  refine⟨Nat.le_trans (Nat.mul_le_mul_right _ (by omega)) h1,Nat.lt_of_lt_of_le h2 (Nat.mul_le_mul_right _ (by omega))⟩
theorem nD: ∀(l:List UInt8) (acc:Nat),valD acc l=acc*10^l.length+valD 0 l
 |[],acc=>by simp[gE]
 |c::r,acc=>by
  rw[dk];simp only[List.length_cons,Nat.pow_succ]
  rw[dk c r 0,nD r (acc*10+(c.toNat-48)),nD r (0*10+(c.toNat-48)),Nat.add_mul,Nat.zero_mul,Nat.zero_add,Nat.add_assoc]
  congr 1
  rw[Nat.mul_comm (10^r.length) 10,Nat.mul_assoc]
theorem qu: ∀(l:List UInt8) (acc:Nat),(∀b∈l,ak b=true)→(acc+1)*10^l.length≤10000000000→Lib.parseUint10 acc l= .ok (valD acc l)
 |[],acc,_,_=>rfl
 |c::r,acc,h,hb=>by
  have hc:=cr.1 (h c List.mem_cons_self)
  have hp:1≤10^r.length:=Nat.pow_pos (by omega)
  have e2:(acc+1)*10^(c::r).length=((acc+1)*10)*10^r.length:=by simp only[List.length_cons,Nat.pow_succ];rw[Nat.mul_comm (10^r.length) 10,Nat.mul_assoc]
  rw[e2]at hb
  have h3:(acc+1)*10≤10000000000:=Nat.le_trans (Nat.le_mul_of_pos_right _ hp) hb
  simp only[Lib.parseUint10,dk]
  rw[if_pos hc,if_neg (by omega),if_neg (by omega)]
  exact qu r _ (fun b hb=>h b (List.mem_cons_of_mem _ hb)) (Nat.le_trans (Nat.mul_le_mul_right _ (by omega)) hb)
theorem dm {l:List UInt8}(h: ∀b∈l,ak b=true)(h1:l≠[])(h2:l.length≤10):Lib.atoiAll l= .ok (valD 0 l:Nat):=by
 cases l with
 |nil=>exact absurd rfl h1
 |cons c r=>
  have hc:=cr.1 (h c List.mem_cons_self)
  have hb:(0+1)*10^(c::r).length≤10000000000:=by
   have:10^(c::r).length≤10^10:=Nat.pow_le_pow_right (by omega) h2
   omega
  have hp:=qu (c::r) 0 h hb
  have hlt:=(dP (c::r) 0 h).2
  rw[Lib.atoiAll_plain c r (by omega) (by omega)]
  unfold Lib.parseMag
  rw[if_neg (by simp),hp]
  simp only[Lib.signless]
  rw[if_neg (by omega)]
theorem k9 {l:List UInt8}(h: ∀b∈l,ak b=true)(h1:l≠[])(h2:l.length≤10):Lib.atoiAll (45::l)= .ok (-(valD 0 l:Nat):Int):=by
 have hb:(0+1)*10^l.length≤10000000000:=by
  have:10^l.length≤10^10:=Nat.pow_le_pow_right (by omega) h2
  omega
 have hp:=qu l 0 h hb
 have hlt:=(dP l 0 h).2
 rw[Lib.atoiAll_minus]
 unfold Lib.parseMag
 rw[if_neg h1,hp]
 simp only[Lib.signed]
 rw[if_neg (by omega)]
def bZ:List UInt8→List UInt8
 |[]=>[]
 |[c]=>[c]
 |c::d::r=>if c=48 then bZ (d::r)else c::d::r
theorem qM: ∀(l:List UInt8),valD 0 (bZ l)=valD 0 l
 |[]=>rfl
 |[c]=>rfl
 |c::d::r=>by
  unfold bZ
  split
  ·rename_i hc
   rw[qM (d::r)]
   subst hc
   rfl
  ·rfl
theorem kM: ∀(l:List UInt8),∀b∈bZ l,b∈l
 |[],b,hb=>hb
 |[c],b,hb=>hb
 |c::d::r,b,hb=>by
  unfold bZ at hb
  split at hb
  ·exact List.mem_cons_of_mem _ (kM (d::r) b hb)
  ·exact hb
theorem qL: ∀(l:List UInt8),(bZ l).length≤l.length
 |[]=>Nat.le_refl _
 |[c]=>Nat.le_refl _
 |c::d::r=>by
  unfold bZ
  split
  ·have:=qL (d::r)
   simp only[List.length_cons]at this ⊢
   omega
  ·exact Nat.le_refl _
def fZ (l:List UInt8):Prop:=l.length=1∨ ∃c r,l=c::r∧c≠48
theorem lp: ∀(l:List UInt8),l≠[]→fZ (bZ l)
 |[],h=>absurd rfl h
 |[c],_=>Or.inl rfl
 |c::d::r,_=>by
  unfold bZ
  split
  ·exact lp (d::r) (by simp)
  ·rename_i hc
   exact Or.inr ⟨c,_,rfl,hc⟩
theorem zi {c:UInt8}{r:List UInt8}(h: ∀b∈c::r,ak b=true)(hc:c≠48):1≤valD 0 (c::r):=by
 have h1:=cr.1 (h c List.mem_cons_self)
 have h2:=(dP r (0*10+(c.toNat-48)) (fun b hb=>h b (List.mem_cons_of_mem _ hb))).1
 have hp:1≤10^r.length:=Nat.pow_pos (by omega)
 have h3:c.toNat≠48:=fun e=>hc (UInt8.toNat.inj (by rw[e];rfl))
 have h4:1≤(0*10+(c.toNat-48))*10^r.length:=Nat.one_le_iff_ne_zero.2 (Nat.mul_ne_zero (by omega) (by omega))
 simp only[dk,gE]
 omega
theorem I8 {u d:Nat}(hu:1≤u)(hd:d≤9):Lib.decDigits (u*10+d)=Lib.decDigits u++[UInt8.ofNat (48+d)]:=by
 rw[Lib.decDigits,dif_neg (by omega)]
 have e1:(u*10+d) / 10=u:=by omega
 have e2:(u*10+d) % 10=d:=by omega
 rw[e1,e2]
theorem vQ {c:UInt8}(h:ak c=true):UInt8.ofNat (48+(c.toNat-48))=c:=by
 have h1:=cr.1 h
 have:48+(c.toNat-48)=c.toNat:=by omega
 rw[this];simp
theorem Bx: ∀(n:Nat) (l:List UInt8),l.length=n→(∀b∈l,ak b=true)→fZ l→Lib.decDigits (valD 0 l)=l:=by
 intro n
 induction n with
 |zero=>
  intro l hn _ hl
  rcases hl with h|⟨c,r,rfl,_⟩
  ·omega
  ·simp at hn
 |succ n ih=>
  intro l hn hd hl
  have hne:l≠[]:=by intro h;subst h;simp at hn
  have hsp:=List.dropLast_concat_getLast hne
  have hc:ak (l.getLast hne)=true:=hd _ (List.getLast_mem hne)
  have hc':=cr.1 hc
  by_cases h0:l.dropLast=[]
  ·rw[h0,List.nil_append]at hsp
   rw[←hsp]
   simp only[dk,gE]
   rw[Lib.decDigits_one (by omega),Nat.zero_mul,Nat.zero_add,vQ hc]
  ·rcases hl with h|⟨c,r,e,hne2⟩
   ·exfalso
    apply h0
    apply List.eq_nil_of_length_eq_zero
    rw[List.length_dropLast]
    omega
   ·have hdl: ∀b∈l.dropLast,ak b=true:=fun b hb=>hd b (List.dropLast_subset _ hb)
    have hll: ∃r',l.dropLast=c::r':=by
     rw[e]at h0 ⊢
     cases r with
     |nil=>simp at h0
     |cons d r=>exact⟨_,rfl⟩
    obtain⟨r',hr'⟩:=hll
    have hp:1≤valD 0 l.dropLast:=by rw[hr']at hdl ⊢; exact zi hdl hne2
    have:=ih l.dropLast (by rw[List.length_dropLast];omega) hdl (Or.inr ⟨c,r',hr',hne2⟩)
    rw[←hsp,zh,I8 hp (by omega),this,vQ hc]
theorem xY {l:List UInt8}(h: ∀b∈l,ak b=true)(h1:l≠[]):Lib.itoa (valD 0 l:Nat)=bZ l:=by
 unfold Lib.itoa
 rw[if_neg (by omega)]
 have e:((valD 0 l:Nat):Int).toNat=valD 0 (bZ l):=by rw[qM];omega
 rw[e]
 exact Bx _ _ rfl (fun b hb=>h b (kM l b hb)) (lp l h1)
end Go.Abs
set_option linter.unusedVariables false
set_option linter.unusedSimpArgs false
set_option maxRecDepth 100000
namespace Go.Abs
open Go Go.Proofs
section
variable {s:List UInt8}{n:Nat}
theorem cx:atC false s n=(s[n]?).getD 0:=rfl
theorem dq:atE false s n=if n<s.length then n+1 else n:=rfl
theorem qB {p:UInt8→Bool}(hp:p 0=false): ∀(l:List UInt8),eu false p l 0=(l.takeWhile p,(l.takeWhile p).length)
 |[]=>rfl
 |c::r=>by
  have ih:=qB hp r
  unfold eu
  rw[ih]
  by_cases h0:c=0
  ·subst h0
   simp[hp]
  ·have h1:(c != 0)=true:=by simp[h0]
   cases hc:p c
   ·simp[hc]
   ·simp[hc,h1];omega
theorem ct {p:UInt8→Bool}(hp:p 0=false):bX false p s n=(s.drop n).takeWhile p:=by unfold bX;rw[qB hp]
theorem cu {p:UInt8→Bool}(hp:p 0=false):runE false p s n=n+((s.drop n).takeWhile p).length:=by unfold runE;rw[qB hp]
theorem ji:aY 0=false:=by decide
theorem bW:ak 0=false:=by decide
theorem p9:bi 0=false:=by decide
def gK (s:List UInt8)(n:Nat)(w:List UInt8):Bool:=decide (n+w.length≤s.length)&&decide (((s.drop n).take w.length).map upB=w)
def bI (s:List UInt8)(n:Nat):Nat:=((s.drop n).takeWhile ak).length
theorem m4:bX false ak s n=(s.drop n).take (bI s n)∧runE false ak s n=n+bI s n:=by
 rw[ct bW,cu bW]
 refine⟨?_,rfl⟩
 unfold bI
 exact(List.prefix_iff_eq_take.1 (List.takeWhile_prefix _))
def Fk (w:List UInt8):Prop:= ∃v,w=46::v++[46]∧ ∀b∈v,65≤b.toNat∧b.toNat≤90
theorem B6: ∀i:Fin 256,(upB (UInt8.ofNat i.val)=46→i.val=46)∧(65≤(upB (UInt8.ofNat i.val)).toNat∧(upB (UInt8.ofNat i.val)).toNat≤90→aY (UInt8.ofNat i.val)=true):=by decide
theorem B5 {c:UInt8}(h:upB c=46):c=46:=by
 have:=(B6 ⟨c.toNat,c.toNat_lt⟩).1 (by simpa using h)
 exact UInt8.toNat.inj this
theorem JW {c:UInt8}(h:65≤(upB c).toNat∧(upB c).toNat≤90):aY c=true:=by
 have:=(B6 ⟨c.toNat,c.toNat_lt⟩).2 (by simpa using h)
 simpa using this
theorem fQ {p:UInt8→Bool}: ∀(l:List UInt8),∀c∈l.takeWhile p,p c=true
 |[],c,h=>by simp at h
 |d::r,c,h=>by
  rw[List.takeWhile_cons]at h
  split at h
  ·rename_i hd
   rcases List.mem_cons.1 h with rfl|h
   ·exact hd
   ·exact fQ r c h
  ·simp at h
theorem g0 {p:UInt8→Bool}{d:UInt8}(hd:p d=false): ∀(v r:List UInt8),(∀b∈v,p b=true)→(v++d::r).takeWhile p=v
 |[],r,_=>by simp[hd]
 |c::v,r,h=>by
  have hc:=h c List.mem_cons_self
  rw[List.cons_append,List.takeWhile_cons,hc]
  simp only[if_true]
  rw[g0 hd v r (fun b hb=>h b (List.mem_cons_of_mem _ hb))]
theorem vK {v w:List UInt8}: ∀{l:List UInt8},l.map upB=v++w→ ∃a b,l=a++b∧a.map upB=v∧b.map upB=w:=by
 intro l h
 obtain⟨a,b,e,h1,h2⟩:=List.map_eq_append_iff.1 h
 exact⟨a,b,e,h1,h2⟩
theorem iq {w:List UInt8}(hw:Fk w)(h:gK s n w=true):atC false s n=46∧ce false s n=w∧atC false s (runE false aY s (atE false s n))=46∧dotEnd false s n=n+w.length:=by
 obtain⟨v,rfl,hv⟩:=hw
 simp only[gK,Bool.and_eq_true,decide_eq_true_eq]at h
 obtain⟨hlen,hm⟩:=h
 rw[List.cons_append]at hm hlen
 simp only[List.length_cons,List.length_append,List.length_nil]at hlen hm
 obtain⟨a,b,he,ha,hb⟩:=vK (v:=[46]) (w:=v++[46]) hm
 obtain⟨b1,b2,he2,hb1,hb2⟩:=vK hb
 obtain⟨x,rfl⟩: ∃x,a=[x]:=by
  cases a with
  |nil=>simp at ha
  |cons x t=>cases t with
   |nil=>exact⟨x,rfl⟩
   |cons y t=>simp at ha
 obtain⟨y,rfl⟩: ∃y,b2=[y]:=by
  cases b2 with
  |nil=>simp at hb2
  |cons x t=>cases t with
   |nil=>exact⟨x,rfl⟩
   |cons y t=>simp at hb2
 have hx:x=46:=B5 (by simpa using ha)
 have hy:y=46:=B5 (by simpa using hb2)
 subst hx hy
 have hb1l:b1.length=v.length:=by rw[←hb1,List.length_map]
 have hlet: ∀c∈b1,aY c=true:=by
  intro c hc
  exact JW (hv _ (by rw[←hb1];exact List.mem_map_of_mem hc))
 have hd:s.drop n=46::(b1++46::(s.drop (n+v.length+2))):=by
  have h1:=List.take_append_drop (v.length+(0+1)+1) (s.drop n)
  rw[he,he2,List.drop_drop]at h1
  rw[←h1]
  simp only[List.cons_append,List.nil_append,List.append_assoc]
  congr 4
 have hn:n<s.length:=by omega
 have h0:s[n]? =some 46:=by
  have:(s.drop n)[0]? =some 46:=by rw[hd];rfl
  rw[List.getElem?_drop]at this
  simpa using this
 have hd1:s.drop (n+1)=b1++46::(s.drop (n+v.length+2)):=by
  have:(s.drop n).drop 1=b1++46::(s.drop (n+v.length+2)):=by rw[hd];rfl
  rw[List.drop_drop]at this
  exact this
 have hr:(s.drop (n+1)).takeWhile aY=b1:=by rw[hd1];exact g0 (by decide) _ _ hlet
 have hE:atE false s n=n+1:=by rw[dq,if_pos hn]
 have hR:runE false aY s (n+1)=n+1+v.length:=by rw[cu ji,hr,hb1l]
 have h46:s[n+1+v.length]? =some 46:=by
  have:(s.drop (n+1))[b1.length]? =some 46:=by rw[hd1,List.getElem?_append_right (Nat.le_refl _),Nat.sub_self];rfl
  rw[List.getElem?_drop,hb1l]at this
  exact this
 refine⟨by rw[cx,h0];rfl,?_,?_,?_⟩
 ·unfold ce
  rw[hE,ct ji,hr]
  have:up b1=v:=by
   unfold up
   rw[j3 b1 (fun b hb=>kb (hlet b hb)),hb1]
  rw[this];rfl
 ·rw[hE,hR,cx,h46];rfl
 ·unfold dotEnd
  rw[hE,hR,dq,if_pos (by omega)]
  simp only[List.length_append,List.length_cons,List.length_nil]
  omega
theorem o4 {w:List UInt8}(h0:atC false s n=46)(h1:ce false s n=w)(h2:atC false s (runE false aY s (atE false s n))=46):gK s n w=true:=by
 have hn:n<s.length:=by
  rcases Nat.lt_or_ge n s.length with h|h
  ·exact h
  ·rw[cx,List.getElem?_eq_none h]at h0;simp at h0
 have hE:atE false s n=n+1:=by rw[dq,if_pos hn]
 rw[hE,cu ji,cx]at h2
 have hg:s[n]? =some 46:=by
  rw[cx,List.getElem?_eq_getElem hn]at h0
  rw[List.getElem?_eq_getElem hn]
  simpa using h0
 have hd:s.drop n=46::s.drop (n+1):=by
  rw[List.drop_eq_getElem_cons hn]
  rw[List.getElem?_eq_getElem hn]at hg
  injection hg with hg
  rw[hg]
 obtain⟨v,hv⟩: ∃v,v=(s.drop (n+1)).takeWhile aY:=⟨_,rfl⟩
 rw[←hv]at h2
 have hm:n+1+v.length<s.length:=by
  rcases Nat.lt_or_ge (n+1+v.length) s.length with h|h
  ·exact h
  ·rw[List.getElem?_eq_none h]at h2;simp at h2
 have hg2:s[n+1+v.length]=46:=by
  rw[List.getElem?_eq_getElem hm]at h2
  simpa using h2
 have hp:s.drop (n+1)=v++s.drop (n+1+v.length):=by
  have h3:v <+: s.drop (n+1):=by rw[hv];exact List.takeWhile_prefix _
  have h4:=List.prefix_iff_eq_append.1 h3
  rw[List.drop_drop]at h4
  exact h4.symm
 have hd2:s.drop (n+1+v.length)=46::s.drop (n+1+v.length+1):=by rw[List.drop_eq_getElem_cons hm,hg2]
 have hlet: ∀c∈v,aY c=true:=by
  intro c hc
  rw[hv]at hc
  exact fQ _ c hc
 have hT:ce false s n=[46]++v.map upB++[46]:=by
  unfold ce
  rw[hE,ct ji,←hv]
  unfold up
  rw[j3 v (fun b hb=>kb (hlet b hb))]
 have hwl:w.length=v.length+2:=by rw[←h1,hT];simp
 simp only[gK,Bool.and_eq_true,decide_eq_true_eq]
 refine⟨by omega,?_⟩
 rw[hwl,hd,hp,hd2]
 have e:(46::(v++46::s.drop (n+1+v.length+1)))=(46::v++[46])++s.drop (n+1+v.length+1):=by simp
 rw[e,List.take_left' (by simp),←h1,hT]
 simp[upB]
end
end Go.Abs
set_option linter.unusedVariables false
set_option linter.unusedSimpArgs false
set_option maxRecDepth 100000
namespace Go.Abs
open Go Go.Proofs
section
variable {μ:Mu}
theorem yg {n m:Nat}(h:n<m):decide ((n:Int)<(m:Int))=true:=by simp;omega
theorem yf {n m:Nat}(h:m≤n):decide ((n:Int)<(m:Int))=false:=by simp;omega
theorem ut {n:Nat}(h:n≤1000000000):IntKind.wrap .i64 ((n:Int)+1)=((n+1:Nat):Int):=by rw[d5 (by omega) (by omega)];omega
theorem Mi {n:Nat}(h:n≤1000000000)(h2:1≤n):IntKind.wrap .i64 ((n:Int) -1)=((n-1:Nat):Int):=by rw[d5 (by omega) (by omega)];omega
theorem I9 {s:List UInt8}{n:Nat}(hn:n≤s.length):n+bI s n≤s.length:=by
 unfold bI
 have:=(List.takeWhile_sublist ak (l:=s.drop n)).length_le
 rw[List.length_drop]at this
 omega
def qN (s:List UInt8):List UInt8:=(bZ s.reverse).reverse
def fa (s:List UInt8):Nat:=if s=[48]then 0 else s.length
theorem lO {n:Nat}:Lib.itoa (n:Int)=Lib.decDigits n:=by
 unfold Lib.itoa
 rw[if_neg (by omega)]
 rfl
theorem xW {n:Nat}(h:1≤n):Lib.itoa (-(n:Int))=45::Lib.decDigits n:=by
 unfold Lib.itoa
 rw[if_pos (by omega)]
 congr 2
 omega
theorem zd (x y:Tok):(decide (x.kind=y.kind)&&(decide (x.type=y.type)&&(decide (x.text=y.text)&&true)))=decide (x=y):=by
 cases x;cases y
 simp[Bool.decide_and]
theorem KG {a b:List Tok}(hl:a.length=b.length)(h:a.length≤1000000): ∀(k n:Nat),n+k=a.length→Cf (ev E) (ay a) (ay b) (n:Int) μ=some (if a.drop n=b.drop n then sk μ else sf false μ):=by
 intro k
 induction k with
 |zero=>
  intro n hn
  refine dr ?_
  have e:(ay a).length=a.length:=by simp[ay]
  rw[BN,e,yf (by omega),cond_false,List.drop_eq_nil_of_le (by omega),List.drop_eq_nil_of_le (by omega),if_pos rfl]
 |succ k ih=>
  intro n hn
  have h1:n<a.length:=by omega
  have h2:n<b.length:=by omega
  refine dr ?_
  have e:(ay a).length=a.length:=by simp[ay]
  have ga:dT (ay a) (n:Int)=some a[n].cv:=by rw[lZ];simp[ay,h1]
  have gb:dT (ay b) (n:Int)=some b[n].cv:=by rw[lZ];simp[ay,h2]
  rw[BN,e,yg h1,cond_true,ga,ac,bP,gb,ac,bP,ut (by omega),ih (n+1) (by omega),List.drop_eq_getElem_cons h1,List.drop_eq_getElem_cons h2]
  rw[zd]
  generalize a[n]=x,b[n]=y
  by_cases hab:x=y
  ·subst hab
   simp
  ·have:decide (x=y)=false:=by simp[hab]
   rw[this,Bool.not_false,cond_true,if_neg]
   intro h
   injection h with h
   exact hab h
theorem IB {a b:List Tok}(h:a.length≤1000000):(ev E).call 19 [LV.cv (CV.sl (ay a)),LV.cv (CV.sl (ay b))] μ=some (.ret (LV.bool (decide (a=b))) μ):=by
 refine aS ?_
 have ea:(ay a).length=a.length:=by simp[ay]
 have eb:(ay b).length=b.length:=by simp[ay]
 rw[MF,ea,eb]
 by_cases hl:a.length=b.length
 ·have e1:decide ((a.length:Int)=(b.length:Int))=true:=by simp[hl]
  have:=KG (μ:=μ) hl h a.length 0 (by omega)
  have e0:((0:Nat):Int)=0:=rfl
  rw[e0,List.drop_zero,List.drop_zero]at this
  have hG:Ig (ev E) (ay a) (ay b) μ=some (nV (decide (a=b)) μ):=by
   refine bc ?_
   rw[Jv,this,ac]
   by_cases hab:a=b
   ·rw[if_pos hab,Dz];simp[hab]
   ·rw[if_neg hab,Dy];simp[hab]
  rw[e1,Bool.not_true,cond_false,hG,ac,Dd]
 ·have e1:decide ((a.length:Int)=(b.length:Int))=false:=by simp;omega
  have e2:decide (a=b)=false:=by simp;intro e;subst e;exact hl rfl
  rw[e1,e2];rfl
end
end Go.Abs
set_option linter.unusedVariables false
set_option linter.unusedSimpArgs false
set_option maxRecDepth 100000
namespace Go.Abs
open Go Go.Proofs
def before (whole:List UInt8):List UInt8:=bZ (bj whole)
def after (part:List UInt8):List UInt8:=qN (bj part)
def iw (whole part:List UInt8)(kind exp:Int)(e:Nat):Except Int (Tok×Nat):=
 if 30<fa (before whole)+fa (after part)then .error 7
 else if kind=2 then .ok (⟨1,kind,before whole++[46]++after part++[68]++Lib.itoa exp⟩,e)
 else if exp≠0 then .ok (⟨1,kind,before whole++[46]++after part++[69]++Lib.itoa exp⟩,e)
 else .ok (⟨1,kind,before whole++[46]++after part⟩,e)
def js:List UInt8:=[50,49,52,55,52,56,51,54,52,55]
def CQ (whole:List UInt8)(e:Nat):Except Int (Tok×Nat):=
 if 10<whole.length then .error 28
 else if(bZ whole).length=10∧(Op.bytesLess (bZ whole) js||decide (bZ whole=js))=false then .error 28
 else .ok (⟨1,0,bZ whole⟩,e)
def fK (s:List UInt8)(e:Nat):Int:=if atC false s (e+1)=45 then -((valD 0 (aM false s e):Nat):Int)else((valD 0 (aM false s e):Nat):Int)
def jS (s whole part:List UInt8)(point:Bool)(e:Nat):Except Int (Tok×Nat):=
 if(aL false s e).2.2.2 then(if 3<(aM false s e).length then .error 7 else iw whole part (if(aL false s e).1=68 then 2 else 1) (fK s e) (aL false s e).2.2.1)
 else if point then iw whole part 1 0 e else CQ whole e
def eT:List (List UInt8):=b9++[iz,gm]
def ur (s:List UInt8)(n:Nat):Bool:=decide (0<bI s n)&&eT.any (gK s (n+bI s n))
def ni (s:List UInt8)(n:Nat):Except Int (Tok×Nat):=
 if !ur s n&&decide (s[n+bI s n]? =some 46)then
  jS s ((s.drop n).take (bI s n)) ((s.drop (n+bI s n+1)).take (bI s (n+bI s n+1))) true (n+bI s n+1+bI s (n+bI s n+1))
 else jS s ((s.drop n).take (bI s n)) [] false (n+bI s n)
section
variable {μ:Mu}{s:List UInt8}
theorem uR: ∀i:Fin 256,((UInt8.ofNat i.val &&& 223=69)↔(UInt8.ofNat i.val=69∨UInt8.ofNat i.val=101))∧((UInt8.ofNat i.val &&& 223=68)↔(UInt8.ofNat i.val=68∨UInt8.ofNat i.val=100)):=by decide
theorem CF (c:UInt8):((c &&& 223=69)↔(c=69∨c=101))∧((c &&& 223=68)↔(c=68∨c=100)):=by
 have:=uR ⟨c.toNat,c.toNat_lt⟩
 simpa using this
theorem ko: ∀w∈eT,Fk w:=by
 intro w hw
 simp only[eT,b9,iz,gm,List.cons_append,List.nil_append,List.mem_cons,List.not_mem_nil,or_false]at hw
 rcases hw with rfl|rfl|rfl|rfl|rfl|rfl|rfl|rfl|rfl|rfl|rfl|rfl|rfl
 ·exact⟨[76,84],rfl,by decide⟩
 ·exact⟨[76,69],rfl,by decide⟩
 ·exact⟨[69,81],rfl,by decide⟩
 ·exact⟨[78,69],rfl,by decide⟩
 ·exact⟨[71,69],rfl,by decide⟩
 ·exact⟨[71,84],rfl,by decide⟩
 ·exact⟨[78,79,84],rfl,by decide⟩
 ·exact⟨[65,78,68],rfl,by decide⟩
 ·exact⟨[79,82],rfl,by decide⟩
 ·exact⟨[69,81,86],rfl,by decide⟩
 ·exact⟨[78,69,81,86],rfl,by decide⟩
 ·exact⟨[84,82,85,69],rfl,by decide⟩
 ·exact⟨[70,65,76,83,69],rfl,by decide⟩
end
end Go.Abs
set_option linter.unusedVariables false
set_option linter.unusedSimpArgs false
set_option maxRecDepth 100000
namespace Go.Abs
open Go Go.Proofs
section
variable {s:List UInt8}{n:Nat}
theorem io:eT=b9++[iz,gm]:=rfl
theorem J5 (h:atC false s n=46):eT.any (gK s n)=(bq false s n).2.2:=by
 have hd:(bq false s n).2.2=dK false s n:=by unfold bq;rw[if_pos h]
 rw[hd]
 apply Bool.eq_iff_iff.2
 constructor
 ·intro ha
  rw[List.any_eq_true]at ha
  obtain⟨w,hw,hb⟩:=ha
  obtain⟨_,h2,h3,_⟩:=iq (ko w hw) hb
  unfold dK
  rw[h2,h3]
  rw[io,List.mem_append]at hw
  rcases hw with hw|hw
  ·have:b9.contains w=true:=List.contains_iff_mem.2 hw
   rw[this];rfl
  ·simp only[List.mem_cons,List.not_mem_nil,or_false]at hw
   rcases hw with rfl|rfl
   ·simp
   ·simp
 ·intro ha
  unfold dK at ha
  simp only[Bool.and_eq_true,Bool.or_eq_true,decide_eq_true_eq]at ha
  obtain⟨h3,h4⟩:=ha
  have hm:ce false s n∈eT:=by
   rw[io,List.mem_append]
   rcases h4 with(h4|h4)|h4
   ·exact Or.inl (List.contains_iff_mem.1 h4)
   ·rw[h4];exact Or.inr (by simp)
   ·rw[h4];exact Or.inr (by simp)
  rw[List.any_eq_true]
  exact⟨_,hm,o4 h rfl h3⟩
theorem oV: ∀(l:List UInt8),l≠[]→bZ l=bj (l.dropWhile (· == 48))
 |[],h=>absurd rfl h
 |[c],_=>by
  unfold bZ bj
  by_cases hc:c=48
  ·simp[hc]
  ·simp[hc]
 |c::d::r,_=>by
  unfold bZ
  by_cases hc:c=48
  ·have:(c::d::r).dropWhile (· ==(48:UInt8))=(d::r).dropWhile (· == 48):=by
    rw[List.dropWhile_cons,hc];rfl
   rw[if_pos hc,oV (d::r) (by simp),this]
  ·rw[if_neg hc,List.dropWhile_cons]
   simp[hc,bj]
theorem pS (l:List UInt8):before l=bj (cS l):=by
 unfold before cS Lib.trimLeftB
 by_cases h:l=[]
 ·subst h;rfl
 ·have:bj l=l:=by unfold bj;rw[if_neg h]
  rw[this]
  exact oV l h
theorem DN (l:List UInt8):(bj l).reverse=bj l.reverse:=by
 unfold bj
 by_cases h:l=[]
 ·subst h;rfl
 ·rw[if_neg h,if_neg (by simpa using h)]
theorem sx (l:List UInt8):after l=bj (bD l):=by
 unfold after bD Lib.trimRightB qN
 by_cases h:l=[]
 ·subst h;rfl
 ·have:bj l=l:=by unfold bj;rw[if_neg h]
  rw[this,oV l.reverse (by simpa using h),DN]
theorem om (l:List UInt8):fa (bj (cS l))=(cS l).length:=by
 unfold fa bj
 by_cases h:cS l=[]
 ·rw[if_pos h,if_pos rfl,h];rfl
 ·rw[if_neg h,if_neg]
  intro h2
  unfold cS Lib.trimLeftB at h2
  have:=List.head_dropWhile_not (· ==(48:UInt8)) (l:=l) (by rw[h2];simp)
  simp only[h2]at this
  simp at this
theorem mI (l:List UInt8):fa (bj (bD l))=(bD l).length:=by
 unfold fa bj
 by_cases h:bD l=[]
 ·rw[if_pos h,if_pos rfl,h];rfl
 ·rw[if_neg h,if_neg]
  intro h2
  unfold bD Lib.trimRightB at h2
  have h3:l.reverse.dropWhile (· ==(48:UInt8))=[48]:=by
   have:=congrArg List.reverse h2
   simpa using this
  have:=List.head_dropWhile_not (· ==(48:UInt8)) (l:=l.reverse) (by rw[h3];simp)
  simp only[h3]at this
  simp at this
theorem sE: ∀(a b:List UInt8),a.length=b.length→(∀x∈a,ak x=true)→(∀x∈b,ak x=true)→Op.bytesLess a b=true→valD 0 a<valD 0 b
 |[],[],_,_,_,h=>by simp[Op.bytesLess]at h
 |[],_::_,hl,_,_,_=>by simp at hl
 |_::_,[],hl,_,_,_=>by simp at hl
 |x::a,y::b,hl,ha,hb,h=>by
  simp only[List.length_cons,Nat.add_right_cancel_iff]at hl
  have hx:=cr.1 (ha x List.mem_cons_self)
  have hy:=cr.1 (hb y List.mem_cons_self)
  have ha': ∀x∈a,ak x=true:=fun z hz=>ha z (List.mem_cons_of_mem _ hz)
  have hb': ∀x∈b,ak x=true:=fun z hz=>hb z (List.mem_cons_of_mem _ hz)
  rw[dk,dk,nD a,nD b,hl]
  have h1:=(dP a 0 ha').2
  rw[hl]at h1
  simp only[Op.bytesLess,Bool.or_eq_true,Bool.and_eq_true,decide_eq_true_eq,beq_iff_eq]at h
  rcases h with h|⟨h,h2⟩
  ·have hlt:x.toNat<y.toNat:=UInt8.lt_iff_toNat_lt.1 h
   have h3:(0*10+(x.toNat-48)+1)*10^b.length≤(0*10+(y.toNat-48))*10^b.length:=Nat.mul_le_mul_right _ (by omega)
   rw[Nat.add_mul]at h3
   omega
  ·subst h
   have:=sE a b hl ha' hb' h2
   omega
theorem tI: ∀(a b:List UInt8),a.length=b.length→Op.bytesLess a b=true∨a=b∨Op.bytesLess b a=true
 |[],[],_=>Or.inr (Or.inl rfl)
 |[],_::_,hl=>by simp at hl
 |_::_,[],hl=>by simp at hl
 |x::a,y::b,hl=>by
  simp only[List.length_cons,Nat.add_right_cancel_iff]at hl
  simp only[Op.bytesLess,Bool.or_eq_true,Bool.and_eq_true,decide_eq_true_eq,beq_iff_eq,List.cons.injEq]
  by_cases h1:x<y
  ·exact Or.inl (Or.inl h1)
  ·by_cases h2:y<x
   ·exact Or.inr (Or.inr (Or.inl h2))
   ·have:x=y:=by
     apply UInt8.toNat.inj
     rw[UInt8.lt_iff_toNat_lt]at h1 h2
     omega
    subst this
    rcases tI a b hl with h|h|h
    ·exact Or.inl (Or.inr ⟨rfl,h⟩)
    ·exact Or.inr (Or.inl ⟨rfl,h⟩)
    ·exact Or.inr (Or.inr (Or.inr ⟨rfl,h⟩))
theorem sJ:valD 0 js=2147483647:=by decide
theorem yi: ∀x∈js,ak x=true:=by decide
theorem Ki {w:List UInt8}(hd: ∀b∈w,ak b=true)(h0:w≠[])(e:Nat):CQ w e=(match bS w with| .ok t=> .ok (t,e)| .error x=> .error x):=by
 unfold CQ bS
 by_cases h10:10<w.length
 ·rw[if_pos h10,if_pos (Or.inl h10)]
 ·rw[if_neg h10]
  have ha:=dm hd h0 (by omega)
  have hN:bB w=(valD 0 w:Nat):=by unfold bB;rw[ha]
  have hK:j5 w=true:=by unfold j5;rw[ha]
  have hT:=qM w
  have hTd: ∀b∈bZ w,ak b=true:=fun b hb=>hd b (kM w b hb)
  have key:((bZ w).length=10∧(Op.bytesLess (bZ w) js||decide (bZ w=js))=false)↔2147483647<valD 0 w:=by
   by_cases hl:(bZ w).length=10
   ·have hlm:(bZ w).length=js.length:=hl
    constructor
    ·rintro⟨_,h2⟩
     rw[Bool.or_eq_false_iff]at h2
     rcases tI (bZ w) js hlm with h|h|h
     ·rw[h]at h2;exact absurd h2.1 (by simp)
     ·rw[h]at h2;exact absurd h2.2 (by simp)
     ·have:=sE _ _ hlm.symm yi hTd h
      rw[sJ,hT]at this
      exact this
    ·intro h
     refine⟨hl,?_⟩
     rw[Bool.or_eq_false_iff]
     constructor
     ·cases hb:Op.bytesLess (bZ w) js with
      |false=>rfl
      |true=>
       have:=sE _ _ hlm hTd yi hb
       rw[sJ,hT]at this
       omega
     ·simp only[decide_eq_false_iff_not]
      intro hb
      rw[hb,sJ]at hT
      omega
   ·constructor
    ·rintro⟨h,_⟩;exact absurd h hl
    ·intro h
     exfalso
     have h1:=(dP (bZ w) 0 hTd).2
     have h2:=qL w
     have h3:(10:Nat)^(bZ w).length≤10^9:=Nat.pow_le_pow_right (by omega) (by omega)
     rw[hT]at h1
     omega
  by_cases hm:2147483647<valD 0 w
  ·rw[if_pos (key.2 hm),if_pos (Or.inr (Or.inr (by rw[hN];omega)))]
  ·rw[if_neg (fun h=>hm (key.1 h)),if_neg (by rw[hN,hK];simp;omega),hN,xY hd h0]
theorem vD {x:Int}:Lib.itoa x=[48]↔x=0:=by
 constructor
 ·intro h
  by_cases h0:0≤x
  ·obtain⟨m,rfl⟩: ∃m:Nat,x=(m:Int):=⟨x.toNat,by omega⟩
   rw[lO]at h
   by_cases h9:m<10
   ·rw[Lib.decDigits_one h9]at h
    injection h with h _
    have:=congrArg UInt8.toNat h
    rw[UInt8.toNat_ofNat_of_lt' (by show 48+m<256;omega)]at this
    have h48:(48:UInt8).toNat=48:=rfl
    omega
   ·have hl:=congrArg List.length h
    rw[Lib.decDigits,dif_neg h9]at hl
    have:=Lib.nDigits_pos (m / 10)
    rw[List.length_append,Lib.decDigits_length]at hl
    simp at hl
    omega
  ·obtain⟨m,rfl⟩: ∃m:Nat,x= -(m:Int):=⟨(-x).toNat,by omega⟩
   rw[xW (by omega)]at h
   injection h with h _
   exact absurd h (by decide)
 ·intro h
  subst h
  have:(0:Int)=((0:Nat):Int):=rfl
  rw[this,lO,Lib.decDigits_one (by omega)]
  rfl
theorem ek {D:List UInt8}(hd: ∀b∈D,ak b=true):Lib.trimPrefix D [45]=D∧Lib.trimPrefix ([45]++D) [45]=D:=by
 constructor
 ·cases D with
  |nil=>rfl
  |cons c r=>
   have:c≠45:=by rintro rfl;exact absurd (hd _ List.mem_cons_self) (by decide)
   have h2:(45 == c)=false:=by simpa using fun h:45=c=>this h.symm
   simp[Lib.trimPrefix,Lib.hasPrefix,List.isPrefixOf,h2]
 ·simp[Lib.trimPrefix,Lib.hasPrefix,List.isPrefixOf]
theorem F8 {whole part digits:List UInt8}{letter:UInt8}{e:Nat}:iw whole part 1 0 e=real whole part digits letter false e:=by
 unfold iw real iU cp dM da
 rw[pS,sx,om,mI]
 by_cases h30:30<(cS whole).length+(bD part).length
 ·simp[h30]
 ·simp[h30]
theorem vW {whole part:List UInt8}{e m:Nat}(he:(aL false s e).2.2.2=true):(if 3<(aM false s e).length then .error 7 else iw whole part (if(aL false s e).1=68 then 2 else 1) (fK s e) m)=real whole part (aL false s e).2.1 (aL false s e).1 true m:=by
 have hL:cz false s e=69∨cz false s e=68:=by
  unfold aL at he
  split at he
  ·assumption
  ·simp at he
 have hx:aL false s e=(cz false s e,bF false s e++aM false s e,runE false ak s (expStart false s e),!decide (aM false s e=[])):=by unfold aL;rw[if_pos hL]
 have hne:aM false s e≠[]:=by
  rw[hx]at he
  simpa using he
 have hdig: ∀b∈aM false s e,ak b=true:=gC
 rw[hx]
 simp only
 have hlt:e<s.length:=by
  rcases Nat.lt_or_ge e s.length with h|h
  ·exact h
  ·exfalso
   unfold cz at hL
   rw[cx,List.getElem?_eq_none h]at hL
   exact absurd hL (by decide)
 have hE:atE false s e=e+1:=by rw[dq,if_pos hlt]
 have hS:bF false s e=if atC false s (e+1)=45 then [45]else []:=by unfold bF;rw[hE]
 have hpre:Lib.trimPrefix (bF false s e++aM false s e) [45]=aM false s e:=by
  rw[hS]
  split
  ·exact(ek hdig).2
  ·exact(ek hdig).1
 unfold real iU
 rw[hpre]
 by_cases h3:3<(aM false s e).length
 ·simp[h3]
 ·rw[if_neg h3]
  have hval:bB (bF false s e++aM false s e)=fK s e:=by
   unfold fK
   rw[hS]
   by_cases h45:atC false s (e+1)=45
   ·rw[if_pos h45,if_pos h45]
    unfold bB
    rw[List.singleton_append,k9 hdig hne (by omega)]
   ·rw[if_neg h45,if_neg h45]
    unfold bB
    rw[List.nil_append,dm hdig hne (by omega)]
  unfold iw cp dM da
  rw[pS,sx,om,mI,hval]
  by_cases h30:30<(cS whole).length+(bD part).length
  ·simp[h30]
  ·have hz:=vD (x:=fK s e)
   have h3d:decide (3<(aM false s e).length)=false:=by simp[h3]
   have h30d:decide (30<(cS whole).length+(bD part).length)=false:=by simp[h30]
   rw[if_neg h30,h3d,h30d]
   simp only[Bool.false_and,Bool.or_self,Bool.false_eq_true,if_false,and_true,if_true]
   by_cases h68:cz false s e=68
   ·rw[if_pos h68,if_pos rfl,if_pos h68]
   ·rw[if_neg h68,if_neg (by decide),if_neg h68]
    by_cases h0:fK s e=0
    ·rw[if_neg (by simp[h0]),if_pos (hz.2 h0)]
    ·rw[if_pos h0,if_neg (fun h=>h0 (hz.1 h))]
     simp
theorem tV {c:UInt8}(h:s[n]? =some c)(hc:ak c=true∨(c=46∧ak ((s[n+1]?).getD 0)=true)):ni s n=bR false s n:=by
 have hn:=iR h
 have hw:=I9 (s:=s) (n:=n) (by omega)
 have hwhole:aW false s n=(s.drop n).take (bI s n):=(m4).1
 have hrun:runE false ak s n=n+bI s n:=(m4).2
 have hdig: ∀b∈aW false s n,ak b=true:=gC
 have hwl:(aW false s n).length=bI s n:=by rw[hwhole];simp;omega
 have hdot:(!ur s n&&decide (s[n+bI s n]? =some 46))=bL false s n:=by
  unfold bL ur
  rw[hrun]
  by_cases h46:s[n+bI s n]? =some 46
  ·have ha:atC false s (n+bI s n)=46:=by rw[cx,h46];rfl
   rw[J5 ha,ha]
   have:decide (aW false s n=[])= !decide (0<bI s n):=by
    by_cases h0:0<bI s n
    ·have:aW false s n≠[]:=by intro hh;rw[hh]at hwl;simp at hwl;omega
     simp[h0,this]
    ·have:aW false s n=[]:=List.eq_nil_of_length_eq_zero (by omega)
     simp[h0,this]
   rw[this]
   simp only[h46,decide_true,Bool.and_true,Bool.true_and]
   cases decide (0<bI s n)<;>cases (bq false s (n+bI s n)).2.2<;>rfl
  ·have ha:atC false s (n+bI s n)≠46:=by
    rw[cx]
    cases hg:s[n+bI s n]? with
    |none=>decide
    |some x=>intro hh;apply h46;rw[hg];simpa using hh
   simp[h46,ha]
 have hdotne:bL false s n=false→aW false s n≠[]:=by
  intro hf hnil
  rcases hc with hc|⟨hc1,hc2⟩
  ·have:bI s n=0:=by rw[←hwl,hnil];rfl
   unfold bI at this
   rw[List.drop_eq_getElem_cons hn,List.takeWhile_cons]at this
   rw[List.getElem?_eq_getElem hn]at h
   injection h with h
   rw[h,hc]at this
   simp at this
  ·unfold bL at hf
   have h0:bI s n=0:=by rw[←hwl,hnil];rfl
   have ha:atC false s (n+bI s n)=46:=by rw[h0,Nat.add_zero,cx,h,hc1];rfl
   rw[hrun,ha,hnil]at hf
   simp at hf
 unfold ni bR
 rw[hdot,←hwhole]
 cases hD:bL false s n with
 |true=>
  have hlt:n+bI s n<s.length:=by
   have:=hdot
   rw[hD,Bool.and_eq_true,decide_eq_true_eq]at this
   exact iR this.2
  have hE:atE false s (n+bI s n)=n+bI s n+1:=by rw[dq,if_pos hlt]
  have hend:numEnd false s n=n+bI s n+1+bI s (n+bI s n+1):=by
   unfold numEnd;rw[if_pos hD,hrun,hE];exact(m4).2
  have hpart:bG false s n=(s.drop (n+bI s n+1)).take (bI s (n+bI s n+1)):=by
   unfold bG;rw[if_pos hD,hrun,hE];exact(m4).1
  rw[if_pos rfl,←hend,←hpart]
  simp only[Bool.not_true,Bool.false_and,Bool.false_eq_true,if_false]
  unfold jS
  cases hq:(aL false s (numEnd false s n)).2.2.2 with
  |true=>
   rw[if_pos rfl]
   simp only[if_true]
   exact vW hq
  |false=>
   rw[if_neg (by simp),if_pos rfl]
   exact F8
 |false=>
  have hend:numEnd false s n=n+bI s n:=by unfold numEnd;rw[if_neg (by rw[hD];simp),hrun]
  have hpart:bG false s n=[]:=by unfold bG;rw[if_neg (by rw[hD];simp)]
  rw[if_neg (by simp),←hend,hpart]
  unfold jS
  have hq1: ∀{α:Type} {x y:α},(aL false s (numEnd false s n)).2.2.2=true→(if(!false&& !(aL false s (numEnd false s n)).2.2.2)=true then x else y)=y:=by
   intro α x y h;rw[h];rfl
  have hq2: ∀{α:Type} {x y:α},(aL false s (numEnd false s n)).2.2.2=false→(if(!false&& !(aL false s (numEnd false s n)).2.2.2)=true then x else y)=x:=by
   intro α x y h;rw[h];rfl
  cases hq:(aL false s (numEnd false s n)).2.2.2 with
  |true=>
   simp only[hq,Bool.not_false,Bool.not_true,Bool.and_false,Bool.false_eq_true,if_false,if_true]
   exact vW hq
  |false=>
   simp only[hq,Bool.not_false,Bool.and_true,Bool.false_eq_true,if_false,if_true]
   exact Ki hdig (hdotne hD) _
end
end Go.Abs
set_option linter.unusedVariables false
set_option linter.unusedSimpArgs false
set_option maxRecDepth 100000
namespace Go.Abs
open Go Go.Proofs
section
variable {μ:Mu}{s:List UInt8}
end
end Go.Abs
set_option linter.unusedVariables false
set_option linter.unusedSimpArgs false
set_option maxRecDepth 100000
namespace Go.Abs
open Go Go.Proofs
def lc:Except Int (Tok×Nat×List Nat)→Except Int (Tok×Nat)
 | .ok q=> .ok (q.1,q.2.1)
 | .error e=> .error e
section
variable {s:List UInt8}{n:Nat}
theorem gi:lc (di s n)=dw s n:=by
 unfold di
 cases dw s n<;>rfl
theorem rP: ∀w∈b9,w≠iz∧w≠gm:=by decide
theorem mq {w:List UInt8}(h:w∈b9):w∈eT:=by rw[io];exact List.mem_append_left _ h
theorem qh {w:List UInt8}(h:w∈([iz,gm]:List (List UInt8))):w∈eT:=by rw[io];exact List.mem_append_right _ h
theorem rx {c:UInt8}(h:bi c=true):c.toNat<128:=by
 unfold bi at h
 simp only[Bool.or_eq_true,decide_eq_true_eq]at h
 rcases h with(h|h)|h
 ·exact kb h
 ·have:=cr.1 h;omega
 ·omega
theorem Ld:up (bX false bi s n)=((s.drop n).takeWhile bi).map upB:=by
 rw[ct p9]
 exact j3 _ fun b hb=>rx (fQ _ b hb)
def opC (c:UInt8)(d:Option UInt8)(n:Nat):Except Int (Tok×Nat):=
 match dO [c,d.getD 0]with
 |some w=> .ok (⟨2,0,w⟩,n+2)
 |none=>if d.getD 0≠0∧bC.contains [c,d.getD 0]then .ok (⟨2,0,[c,d.getD 0]⟩,n+2)
  else match dO [c]with
   |some w=> .ok (⟨2,0,w⟩,n+1)
   |none=>if bC.contains [c]then .ok (⟨2,0,[c]⟩,n+1)else .error 7
theorem Gk {a b:UInt8}{w:List UInt8}(h:dO [a,b]=some w):b=61:=by
 unfold dO at h
 simp only[List.cons.injEq,and_true]at h
 split at h
 ·rename_i h1;exact h1.2
 ·split at h
  ·rename_i h1;exact h1.2
  ·split at h
   ·rename_i h1;exact h1.2
   ·split at h
    ·rename_i h1;exact h1.2
    ·simp at h
theorem KW {c:UInt8}(h:s[n]? =some c)(hc:c≠32):dW false s n=opC c s[n+1]? n:=by
 obtain⟨ha,hb⟩:=pQ (fx:=false) h hc
 unfold dW opC
 simp only[ha,hb,cx,dq]
 by_cases h2:n+1<s.length
 ·rw[if_pos h2]<;>(cases dO [c,(s[n+1]?).getD 0]<;>rfl)
 ·rw[if_neg h2,List.getElem?_eq_none (by omega)]
  cases hsp:dO [c,(none:Option UInt8).getD 0]with
  |some w=>exact absurd (Gk hsp) (by decide)
  |none=>
   simp only[Option.getD_none,ne_eq,not_true_eq_false,false_and,if_false]<;>(cases dO [c]<;>rfl)
def oq {α:Type}:Except Int α→Prop
 | .ok _=>True
 | .error e=>e=4∨e=7∨e=8∨e=28
theorem xM {q:Except Int (Tok×Nat)}(h:oq q):oq (noK q):=by cases q<;>exact h
theorem DS:oq (dw s n):=by
 unfold dw
 split
 ·exact Or.inr (Or.inl rfl)
 ·split
  ·exact Or.inr (Or.inr (Or.inl rfl))
  ·trivial
theorem HW {whole part digits:List UInt8}{letter:UInt8}{ok:Bool}{e:Nat}:oq (real whole part digits letter ok e):=by
 unfold real
 split
 ·exact Or.inr (Or.inl rfl)
 ·trivial
theorem DJ {fx:Bool}:oq (bR fx s n):=by
 unfold bR
 simp only
 split
 ·unfold bS
  split
  ·exact trivial
  ·rename_i e he
   split at he
   ·injection he with he
    subst he
    exact Or.inr (Or.inr (Or.inr rfl))
   ·cases he
 ·exact HW
theorem KX {fx:Bool}:oq (dW fx s n):=by
 unfold dW
 simp only
 split
 ·trivial
 ·split
  ·trivial
  ·split
   ·trivial
   ·split
    ·trivial
    ·exact Or.inr (Or.inl rfl)
theorem Gy {fx:Bool}{out:List Tok}:oq (fk fx s out n):=by
 unfold fk
 split
 ·unfold oy
  split
  ·exact Or.inr (Or.inl rfl)
  ·trivial
 ·unfold cK
  split
  ·split
   ·exact Or.inl rfl
   ·trivial
  ·split
   ·exact xM DJ
   ·split
    ·split
     ·trivial
     ·exact Or.inr (Or.inl rfl)
    ·split
     ·have:=DS (s:=s) (n:=n)
      unfold di
      cases hq:dw s n with
      |ok q=>trivial
      |error e=>rw[hq]at this;exact this
     ·exact xM KX
end
end Go.Abs
set_option linter.unusedVariables false
set_option maxRecDepth 100000
namespace Go.Abs
open Go Go.Proofs
theorem BF (E:Env): ∀n,LimR (evn E) (evn E n)
 |0=>⟨fun f args μ r h=>(by simp[evn]at h),fun H lv c s μ r h=>(by simp[evn]at h),fun H lv c s μ r h=>(by simp[evn]at h),fun f pv args μ r h=>(by simp[evn]at h)⟩
 |n+1=>by
  have ih:=BF E n
  refine⟨fun f args μ r h=> ?_,fun H lv c s μ r h=> ?_,fun H lv c s μ r h=> ?_,fun f pv args μ r h=> ?_⟩
  ·obtain⟨N,hN⟩:=qd ih (E:=E) (f:=f) (args:=args) (μ:=μ) r h
   refine⟨N+1,fun m hm=> ?_⟩
   obtain⟨q,rfl⟩: ∃q,m=q+1:=⟨m-1,by omega⟩
   exact hN q (by omega)
  ·obtain⟨N,hN⟩:=tM ih (P:=E.P) (H:=H) (lv:=lv) (c:=c) (s:=s) (μ:=μ) r h
   refine⟨N+1,fun m hm=> ?_⟩
   obtain⟨q,rfl⟩: ∃q,m=q+1:=⟨m-1,by omega⟩
   exact hN q (by omega)
  ·obtain⟨N,hN⟩:=yb ih (P:=E.P) (H:=H) (lv:=lv) (c:=c) (s:=s) (μ:=μ) r h
   refine⟨N+1,fun m hm=> ?_⟩
   obtain⟨q,rfl⟩: ∃q,m=q+1:=⟨m-1,by omega⟩
   exact hN q (by omega)
  ·obtain⟨N,hN⟩:=o8 ih (E:=E) (f:=f) (pv:=pv) (args:=args) (μ:=μ) r h
   refine⟨N+1,fun m hm=> ?_⟩
   obtain⟨q,rfl⟩: ∃q,m=q+1:=⟨m-1,by omega⟩
   exact hN q (by omega)
theorem Kf {E:Env}{n:Nat}{f:FuncId}{args:List LV}{μ:Mu}{out:Out}(h:(evn E n).call f args μ=some out):(ev E).call f args μ=some out:=
 lQ ((BF E n).call f args μ out h)
theorem Es:(evn E 150).call 11 [] []=some (.ret (LV.bool true) []):=by kernel_rfl
theorem Lr:(ev E).call 11 [] []=some (.ret (LV.bool true) []):=Kf Es
end Go.Abs
set_option linter.unusedVariables false
set_option linter.unusedSimpArgs false
set_option maxRecDepth 100000
namespace Go.Abs
open Go Go.Proofs
section
variable {μ:Mu}{s:List UInt8}
theorem oU {out:List Tok}{n:Nat}:fk false s out n=cK false s n ((s[n]?).getD 0):=by
 unfold fk sG
 rfl
theorem we {fx:Bool}: ∀(k n:Nat) (out:List Tok) (kept:List Nat) (m:Nat) (e:Int),(b7 fx s k n out kept).1=some (m,e)→e≠0
 |0,n,out,kept,m,e,h=>by simp[b7]at h
 |k+1,n,out,kept,m,e,h=>by
  unfold b7 at h
  split at h
  ·cases h
  ·have he:=Gy (s:=s) (n:=n+aP (s.drop n)) (fx:=fx) (out:=out)
   cases ht:fk fx s out (n+aP (s.drop n))with
   |error x=>
    rw[ht]at h he
    simp only[Option.some.injEq,Prod.mk.injEq]at h
    obtain⟨_,rfl⟩:=h
    rcases he with h|h|h|h<;>rw[h]<;>decide
   |ok q=>
    rw[ht]at h
    exact we k _ _ _ m e h
end
end Go.Abs
set_option linter.unusedVariables false
set_option linter.unusedSimpArgs false
set_option maxRecDepth 100000
namespace Go.Abs
open Go Go.Proofs
section
variable {μ:Mu}{s:List UInt8}
def xT (p:UInt8→Bool)(s:List UInt8):Bool:=match s with|[]=>false|c::_=>p c
def wF (s:List UInt8):Bool:=decide (s.length≤31)&&xT aY s&&s.all bi
def mL (c:UInt8):Bool:=decide (97≤c.toNat)&&decide (c.toNat≤122)
def jb (s:List UInt8):Bool:=wF s&& !s.any mL
def yF (b:UInt8):Bool:= !((decide (97≤b.toNat)&&decide (b.toNat≤122))||(decide (65≤b.toNat)&&decide (b.toNat≤90))||(decide (48≤b.toNat)&&decide (b.toNat≤57))||decide (b.toNat=95))
theorem FT:yF=fun b=> !bi b:=by
 funext b
 unfold yF bi aY ak
 rfl
theorem uI {p:UInt8→Bool}: ∀(l:List UInt8),(!l.any fun b=> !p b)=l.all p
 |[]=>rfl
 |c::r=>by rw[List.any_cons,List.all_cons,Bool.not_or,uI r,Bool.not_not]
theorem AW: ∀i:Fin 256,(upB (UInt8.ofNat i.val)=UInt8.ofNat i.val)↔mL (UInt8.ofNat i.val)=false:=by decide
theorem JX (c:UInt8):upB c=c↔mL c=false:=by
 have:=AW ⟨c.toNat,UInt8.toNat_lt c⟩
 simpa using this
theorem ie: ∀(l:List UInt8),l.map upB=l↔l.any mL=false
 |[]=>by simp
 |c::r=>by
  rw[List.map_cons,List.any_cons,List.cons.injEq,JX,ie r,Bool.or_eq_false_iff]
theorem Lv (hs:s.length≤200000):(ev E).call 49 [LV.str s] μ=some (.ret (LV.bool (jb s)) μ):=by
 refine aS ?_
 rw[MK]
 cases s with
 |nil=>rfl
 |cons c r=>
  have h0:decide (c::r=[])=false:=by simp
  have h1:gZ (c::r) 0=some c:=rfl
  rw[h0,Bool.not_false,cond_true,h1,ac,wD]
  simp only[ad,aq,ac,aj,am,ae,af,ah,aE,cond_true,cond_false,Bool.not_true,Bool.not_false,ax,av,ao]
  rw[CY (s:=c::r) (by omega)]
  simp only[ad,aq,ac,aj,am,ae,af,ah,aE,cond_true,cond_false,Bool.not_true,Bool.not_false,ax,av,ao]
  rw[CU (g:=92) (p:=yF) rfl]
  simp only[ad,aq,ac,aj,am,ae,af,ah,aE,cond_true,cond_false,Bool.not_true,Bool.not_false,ax,av,ao]
  unfold jb wF
  rw[show xT aY (c::r)=aY c from rfl,FT,uI]
  have h2:decide (((c::r).length:Int)≤31)=decide ((c::r).length≤31):=by
   by_cases h:(c::r).length≤31
   ·rw[decide_eq_true h];simp only[decide_eq_true_eq];omega
   ·rw[decide_eq_false h];simp only[decide_eq_false_iff_not];omega
  rw[h2]
  cases hp:(c::r).all bi with
  |false=>cases decide ((c::r).length≤31)<;>cases aY c<;>cases decide (Lib.toUpperD (c::r)=c::r)<;>simp
  |true=>
   have hu:Lib.toUpperD (c::r)=(c::r).map upB:=j3 _ fun b hb=>rx (List.all_eq_true.1 hp b hb)
   have h3:decide (Lib.toUpperD (c::r)=c::r)= !(c::r).any mL:=by
    rw[hu]
    cases hl:(c::r).any mL with
    |false=>rw[decide_eq_true ((ie _).2 hl)];rfl
    |true=>rw[decide_eq_false (fun e=>by rw[(ie _).1 e]at hl;cases hl)];rfl
   rw[h3]
   cases decide ((c::r).length≤31)<;>cases aY c<;>cases (c::r).any mL<;>simp
def yE (b:UInt8):Bool:=decide (b.toNat<48)||decide (57<b.toNat)
theorem FS:yE=fun b=> !ak b:=by
 funext b
 unfold yE ak
 rw[Bool.not_and]
 congr 1
 ·by_cases h:48≤b.toNat
  ·rw[decide_eq_true h,decide_eq_false (by omega)];rfl
  ·rw[decide_eq_false h,decide_eq_true (by omega)];rfl
 ·by_cases h:b.toNat≤57
  ·rw[decide_eq_true h,decide_eq_false (by omega)];rfl
  ·rw[decide_eq_false h,decide_eq_true (by omega)];rfl
def ff (t:List UInt8):Bool:=decide (t.length≤10)&&t.all ak&&xT (fun c=> !decide (c=48)||decide (t=[48])) t
def d4 (k:Int)(t:List UInt8):Int:=
 if k=0 then(if ff t then(if 2147483647<valD 0 t then 28 else 0)else 3)
 else if k=1∨k=2∨k=5∨k=6 then(if ii t=some ⟨1,k,t⟩then 0 else 3)else 15
theorem oN {k:Int}(hs:s.length≤200000){b:Bool}(hb:b=decide (k=1∨k=2∨k=5∨k=6))(hk:k≠0):
  (opt (lA (ev E) k s b μ) (kB (ev E) 12 H12 [.block 0,.seq (cA 12 [1,1])]))=some (.ret (LV.int .i64 (d4 k s)) μ):=by
 subst hb
 by_cases h:k=1∨k=2∨k=5∨k=6
 ·have:lA (ev E) k s (decide (k=1∨k=2∨k=5∨k=6)) μ=some (ge (d4 k s) μ):=by
   refine bc ?_
   rw[ym,decide_eq_true h,cond_true,Lu hs]
   unfold d4
   rw[if_neg hk,if_pos h]
   simp only[ad,aq,ac,aj,am,ae,af,ah,aE,cond_true,cond_false,Bool.not_true,Bool.not_false,ax,av,ao]
   cases hq:ii s with
   |none=>rfl
   |some t=>
    simp only[KZ,ad,aq,ac,aj,am,ae,af,ah,aE,cond_true,cond_false,Bool.not_true,Bool.not_false,ax,av,ao,bP]
    obtain⟨a,b,c⟩:=t
    simp only
    by_cases h1:a=1
    ·by_cases h2:b=k
     ·by_cases h3:c=s
      ·subst h1;subst h2;subst h3
       simp
      ·have: ¬(some (Tok.mk a b c)=some (Tok.mk 1 k s)):=fun e=>h3 (by injection e with e;injection e)
       rw[if_neg this,decide_eq_true h1,decide_eq_true h2,decide_eq_false h3];rfl
     ·have: ¬(some (Tok.mk a b c)=some (Tok.mk 1 k s)):=fun e=>h2 (by injection e with e;injection e)
      rw[if_neg this,decide_eq_true h1,decide_eq_false h2];rfl
    ·have: ¬(some (Tok.mk a b c)=some (Tok.mk 1 k s)):=fun e=>h1 (by injection e with e;injection e)
     rw[if_neg this,decide_eq_false h1];rfl
  rw[this,ac,zW]
 ·have:lA (ev E) k s (decide (k=1∨k=2∨k=5∨k=6)) μ=some (pt μ):=by
   refine bc ?_
   rw[ym,decide_eq_false h,cond_false]
  rw[this,ac,zX]
  unfold d4
  rw[if_neg hk,if_neg h]
theorem MA {t:List UInt8}(h1:t.length≤10)(h2:t.all ak=true)(h3:t≠[]):bB t=(valD 0 t:Nat):=by
 unfold bB
 rw[dm (fun b hb=>List.all_eq_true.1 h2 b hb) h3 h1]
theorem JR {t:List UInt8}(h1:t.length≤10)(h2:t.all ak=true)(h3:t≠[]):
  (opt (wv (ev E) t μ) (kB (ev E) 12 H12 [.block 0,.seq (cA 12 [1,1])]))=some (.ret (LV.int .i64 (if 2147483647<valD 0 t then 28 else 0)) μ):=by
 have:wv (ev E) t μ=some (nM (if 2147483647<valD 0 t then 28 else 0) μ):=by
  refine bc ?_
  rw[Jt,wC (by omega),og,MA h1 h2 h3]
  simp only[ad,aq,ac,aj,am,ae,af,ah,aE,cond_true,cond_false,Bool.not_true,Bool.not_false,ax,av,ao,ez]
  by_cases h:2147483647<valD 0 t
  ·rw[if_pos h,show decide ((2147483647:Int)<((valD 0 t:Nat):Int))=true by simp;omega];rfl
  ·rw[if_neg h,show decide ((2147483647:Int)<((valD 0 t:Nat):Int))=false by simp;omega];rfl
 rw[this,ac,C9]
theorem Ls {k:Int}(hs:s.length≤200000):(ev E).call 12 [LV.int .i64 k,LV.str s] μ=some (.ret (LV.int .i64 (d4 k s)) μ):=by
 refine aS ?_
 rw[MC]
 by_cases h0:k=0
 ·subst h0
  rw[decide_eq_true rfl,cond_true]
  unfold d4 ff
  rw[if_pos rfl]
  cases s with
  |nil=>rfl
  |cons c r=>
   have e0:decide (c::r=[])=false:=by simp
   have e1:gZ (c::r) 0=some c:=rfl
   have e2:decide ((10:Int)<((c::r).length:Int))= !decide ((c::r).length≤10):=by
    by_cases h:(c::r).length≤10
    ·rw[decide_eq_true h];exact decide_eq_false (by omega)
    ·rw[decide_eq_false h];exact decide_eq_true (by omega)
   have e3:decide ((c.toNat:Int)=48)=decide (c=48):=f9 (k:=48) (by omega)
   rw[e0,cond_false,e1,e2,CU (g:=44) (p:=yE) rfl,FS]
   simp only[ad,aq,ac,aj,am,ae,af,ah,aE,cond_true,cond_false,Bool.not_true,Bool.not_false,ax,av,ao]
   rw[e3]
   have e4:((c::r).any fun b=> !ak b)= !(c::r).all ak:=by rw[←uI (p:=ak),Bool.not_not]
   rw[e4]
   show _=some (Out.ret (LV.int .i64 (if(decide ((c::r).length≤10)&&(c::r).all ak&&(!decide (c=48)||decide (c::r=[48])))=true then(if 2147483647<valD 0 (c::r)then 28 else 0)else 3)) μ)
   by_cases h1:(c::r).length≤10
   ·cases h2:(c::r).all ak with
    |false=>rw[decide_eq_true h1];rfl
    |true=>
     rw[JR h1 h2 (by simp),decide_eq_true h1]
     cases decide (c=48)<;>cases decide (c::r=[48])<;>simp
   ·rw[decide_eq_false h1];rfl
 ·rw[decide_eq_false h0,cond_false]
  by_cases h1:k=1
  ·rw[decide_eq_true h1,cond_true]
   exact oN hs (by rw[decide_eq_true (Or.inl h1)]) h0
  ·rw[decide_eq_false h1,cond_false]
   by_cases h2:k=2
   ·rw[decide_eq_true h2,cond_true]
    exact oN hs (by rw[decide_eq_true (Or.inr (Or.inl h2))]) h0
   ·rw[decide_eq_false h2,cond_false]
    by_cases h5:k=5
    ·rw[decide_eq_true h5,cond_true]
     exact oN hs (by rw[decide_eq_true (Or.inr (Or.inr (Or.inl h5)))]) h0
    ·rw[decide_eq_false h5,cond_false]
     exact oN hs (by simp[h1,h2,h5]) h0
def kD (t:Tok):Int:=
 if t.kind=1 then d4 t.type t.text
 else if t.kind=0∨t.kind=2 then
  if t.type=0 then(if t.kind=0 then(if jb t.text then 0 else 4)else(if b9.contains t.text||bC.contains t.text then 0 else 7))else 3
 else 15
theorem H1 {a b:Int}(ha:a=0∨a=2):wR (ev E) a b s μ=some (iI (if a=0 then 0 else(if b9.contains s||bC.contains s then 0 else 7)) μ):=by
 refine bc ?_
 rw[Hp]
 rcases ha with rfl|rfl
 ·rfl
 ·rw[decide_eq_true rfl,cond_true,IE,ad,av,ac,tH (by decide)]
  simp only[ad,aq,ac,aj,am,ae,af,ah,aE,cond_true,cond_false,Bool.not_true,Bool.not_false,ax,av,ao]
  rw[CW,ad,av,ac,tH (by decide)]
  simp only[ad,aq,ac,aj,am,ae,af,ah,aE,cond_true,cond_false,Bool.not_true,Bool.not_false,ax,av,ao]
  rw[if_neg (by decide)]
  cases b9.contains s<;>cases bC.contains s<;>rfl
theorem JS {a b:Int}(hs:s.length≤200000)(ha:a=0∨a=2):If (ev E) a b s μ=some (nQ (if a=0 then(if jb s then 0 else 4)else(if b9.contains s||bC.contains s then 0 else 7)) μ):=by
 refine bc ?_
 rw[Ju,Lv hs]
 simp only[ad,aq,ac,aj,am,ae,af,ah,aE,cond_true,cond_false,Bool.not_true,Bool.not_false,ax,av,ao]
 rw[H1 ha,ac,z6]
 rcases ha with rfl|rfl
 ·rw[decide_eq_true rfl,cond_true]
  cases jb s<;>rfl
 ·rfl
theorem IA {t:Tok}(hs:t.text.length≤200000):(ev E).call 14 [LV.cv t.cv] μ=some (.ret (LV.int .i64 (kD t)) μ):=by
 refine aS ?_
 obtain⟨a,b,s⟩:=t
 show aJ E (ev E) 14 [LV.cv (CV.agg [CV.int .i64 a,CV.int .i64 b,CV.str s])] μ=_
 rw[MD,Ls hs]
 simp only[ad,aq,ac,aj,am,ae,af,ah,aE,cond_true,cond_false,Bool.not_true,Bool.not_false,ax,av,ao]
 unfold kD
 simp only
 by_cases h1:a=1
 ·rw[if_pos h1,decide_eq_true h1,cond_true]
 ·rw[if_neg h1,decide_eq_false h1,cond_false]
  have key: ∀x:Bool,x=decide (a=0∨a=2)→(opt (sW (ev E) x a b s μ) (kB (ev E) 14 H14 [.block 0,.seq (cA 14 [1,1])]))=
    some (.ret (LV.int .i64 (if a=0∨a=2 then(if b=0 then(if a=0 then(if jb s then 0 else 4)else(if b9.contains s||bC.contains s then 0 else 7))else 3)else 15)) μ):=by
   intro x hx
   subst hx
   by_cases h:a=0∨a=2
   ·have:sW (ev E) (decide (a=0∨a=2)) a b s μ=some (nP (if b=0 then(if a=0 then(if jb s then 0 else 4)else(if b9.contains s||bC.contains s then 0 else 7))else 3) μ):=by
     refine bc ?_
     rw[BJ,decide_eq_true h,cond_true,JS hs h,ac,Dc]
     by_cases hb:b=0
     ·rw[decide_eq_true hb,if_pos hb];rfl
     ·rw[decide_eq_false hb,if_neg hb];rfl
    rw[this,ac,Da,if_pos h]
   ·have:sW (ev E) (decide (a=0∨a=2)) a b s μ=some (rX μ):=by
     refine bc ?_
     rw[BJ,decide_eq_false h,cond_false]
    rw[this,ac,Db,if_neg h]
  by_cases h0:a=0
  ·rw[decide_eq_true h0,cond_true]
   exact key _ (by rw[decide_eq_true (Or.inl h0)])
  ·rw[decide_eq_false h0,cond_false]
   exact key _ (by simp[h0])
end
end Go.Abs
set_option linter.unusedVariables false
set_option linter.unusedSimpArgs false
set_option maxRecDepth 100000
namespace Go.Abs
open Go Go.Proofs
section
variable {μ:Mu}{s:List UInt8}
end
end Go.Abs
set_option linter.unusedVariables false
set_option linter.unusedSimpArgs false
namespace Go.Abs
open Go Go.Proofs
theorem iN {n:Nat}(h:n<10):Lib.decDigits n=[UInt8.ofNat (48+n)]:=Lib.decDigits_one h
theorem q7 {n:Nat}(h: ¬n<10):Lib.decDigits n=Lib.decDigits (n / 10)++[UInt8.ofNat (48+n % 10)]:=by
 rw[Lib.decDigits,dif_neg h]
theorem mh {d:Nat}(h:d<10):ak (UInt8.ofNat (48+d))=true∧(UInt8.ofNat (48+d)).toNat=48+d:=by
 have:(UInt8.ofNat (48+d)).toNat=48+d:=UInt8.toNat_ofNat_of_lt' (by show 48+d<256;omega)
 exact⟨cr.2 (by omega),this⟩
theorem gM: ∀(n:Nat),∀b∈Lib.decDigits n,ak b=true:=by
 intro n
 induction n using Nat.strongRecOn with
 |_ n ih=>
  intro b hb
  by_cases h:n<10
  ·rw[iN h]at hb
   rw[List.mem_singleton.1 hb]
   exact(mh h).1
  ·rw[q7 h]at hb
   rcases List.mem_append.1 hb with h1|h1
   ·exact ih (n / 10) (by omega) b h1
   ·rw[List.mem_singleton.1 h1]
    exact(mh (by omega)).1
theorem iX: ∀(n:Nat),valD 0 (Lib.decDigits n)=n:=by
 intro n
 induction n using Nat.strongRecOn with
 |_ n ih=>
  by_cases h:n<10
  ·rw[iN h,dk,gE,(mh h).2];omega
  ·rw[q7 h,zh,ih (n / 10) (by omega),(mh (d:=n % 10) (by omega)).2];omega
theorem xG: ∀(n:Nat),fZ (Lib.decDigits n):=by
 intro n
 induction n using Nat.strongRecOn with
 |_ n ih=>
  by_cases h:n<10
  ·rw[iN h];exact Or.inl rfl
  ·rw[q7 h]
   rcases ih (n / 10) (by omega)with h1|⟨c,r,h1,h2⟩
   ·match h3:Lib.decDigits (n / 10),h1 with
    |[c],_=>
     refine Or.inr ⟨c,_,rfl,fun e=> ?_⟩
     have:=iX (n / 10)
     rw[h3,e]at this
     have h48:valD 0 [(48:UInt8)]=0:=rfl
     omega
   ·rw[h1];exact Or.inr ⟨c,_,rfl,h2⟩
theorem eF: ∀(k n:Nat),1≤k→n<10^k→(Lib.decDigits n).length≤k
 |0,n,h,_=>absurd h (by omega)
 |1,n,_,h=>by rw[iN (by simpa using h)];exact Nat.le_refl _
 |k+2,n,_,h=>by
  by_cases h9:n<10
  ·rw[iN h9];simp
  ·rw[q7 h9,List.length_append]
   have:=eF (k+1) (n / 10) (by omega) (by rw[Nat.pow_succ]at h;exact(Nat.div_lt_iff_lt_mul (by omega)).2 h)
   simp only[List.length_cons,List.length_nil]
   omega
section
variable {s:List UInt8}{fx:Bool}{n:Nat}
theorem oO {t:Tok}:ii s=some t↔(ba false s).e=0∧cQ false s=[t]:=by
 unfold ii cQ
 constructor
 ·intro h
  split at h
  ·rename_i h1
   obtain⟨_,hl,_⟩:=jW h1.1
   refine⟨h1.1,?_⟩
   rw[if_pos h1.1]
   rw[h1.2]at hl
   obtain⟨x,hx⟩:=List.length_eq_one_iff.1 hl.symm
   rw[hx]at h ⊢
   simp at h
   rw[h]
  ·cases h
 ·rintro⟨h1,h2⟩
  obtain⟨_,hl,_⟩:=jW h1
  rw[if_pos h1]at h2
  rw[h2]at hl
  rw[if_pos ⟨h1,hl⟩,h2]
  rfl
theorem vA:ff s=true↔s.length≤10∧(∀b∈s,ak b=true)∧fZ s:=by
 unfold ff
 rw[Bool.and_eq_true,Bool.and_eq_true,decide_eq_true_eq,List.all_eq_true,and_assoc]
 refine and_congr_right fun _=>and_congr_right fun hd=> ?_
 match s with
 |[]=>
  constructor
  ·intro h;cases h
  ·rintro(h|⟨c,r,h,_⟩)<;>simp at h
 |c::r=>
  show (!decide (c=48)||decide (c::r=[48]))=true↔_
  rw[Bool.or_eq_true,Bool.not_eq_true',decide_eq_false_iff_not,decide_eq_true_eq]
  constructor
  ·rintro(h|h)
   ·exact Or.inr ⟨c,r,rfl,h⟩
   ·rw[h];exact Or.inl rfl
  ·rintro(h|⟨c',r',h,h2⟩)
   ·simp only[List.length_cons]at h
    have:r=[]:=List.eq_nil_of_length_eq_zero (by omega)
    subst this
    by_cases hc:c=48
    ·subst hc;exact Or.inr rfl
    ·exact Or.inl hc
   ·injection h with h3 h4
    subst h3
    exact Or.inl h2
theorem nu {p:UInt8→Bool}: ∀(l:List UInt8),(∀b∈l,p b=true)→l.takeWhile p=l
 |[],_=>rfl
 |c::r,h=>by rw[List.takeWhile_cons,h c (by simp),if_pos rfl,nu r fun b hb=>h b (List.mem_cons_of_mem _ hb)]
theorem wb {t:Tok}{c:UInt8}{kept:List Nat}(hT:cg s=0)(h0:s[0]? =some c)(hc:c≠32)(h:cK false s 0 c= .ok (t,s.length,kept)):ii s=some t:=by
 obtain⟨r,hs⟩: ∃r,s=c::r:=by
  cases s with
  |nil=>cases h0
  |cons x r=>simp at h0;exact⟨r,by rw[h0]⟩
 have hb0:aP (s.drop 0)=0:=by
  rw[List.drop_zero,hs]
  unfold aP
  simp[hc]
 have hg:(s[0]?).getD 0=c:=by rw[h0];rfl
 have htok:fk false s [] 0= .ok (t,s.length,kept):=by rw[oU,hg,h]
 have hlen:s.length≠0:=by rw[hs];simp
 have hsp:b7 false s (s.length+1) 0 [] []=(none,[t],kept):=by
  unfold b7
  rw[hb0,Nat.add_zero,if_neg (by omega),htok]
  simp only[List.nil_append]
  obtain⟨k,hk⟩: ∃k,s.length=k+1:=⟨s.length-1,by omega⟩
  rw[show b7 false s s.length s.length [t] kept=b7 false s (k+1) s.length [t] kept from by rw[←hk]]
  unfold b7
  rw[if_pos (by omega)]
 have hsc:ba false s=⟨[t],kept,1,0⟩:=by
  unfold ba
  rw[if_pos hT,hsp]
  rfl
 refine oO.2 ⟨by rw[hsc],?_⟩
 unfold cQ
 rw[hsc]
 rfl
end
end Go.Abs
set_option linter.unusedVariables false
set_option linter.unusedSimpArgs false
set_option maxRecDepth 100000
namespace Go.Abs
open Go Go.Proofs
end Go.Abs
set_option linter.unusedVariables false
set_option linter.unusedSimpArgs false
set_option maxRecDepth 100000
namespace Go.Abs
open Go Go.Proofs
theorem tB: ∀(u:List UInt8),(∀b∈u,b≠39)→Lib.index u [39,39]= -1
 |[],_=>rfl
 |c::r,h=>by
  have hp:(([39,39]:List UInt8).isPrefixOf (c::r))=false:=by
   have:(39 == c)=false:=by simpa using fun e:39=c=>h c (by simp) e.symm
   simp[List.isPrefixOf,this]
  have:=tB r fun b hb=>h b (List.mem_cons_of_mem _ hb)
  simp only[Lib.index,hp,this]
  rfl
theorem p7: ∀(a l:List UInt8),(∀b∈a,b≠39)→Lib.index (a++39::39::l) [39,39]=(a.length:Int)
 |[],l,_=>by simp[Lib.index,List.isPrefixOf]
 |c::r,l,h=>by
  have hp:(([39,39]:List UInt8).isPrefixOf (c::(r++39::39::l)))=false:=by
   have:(39 == c)=false:=by simpa using fun e:39=c=>h c (by simp) e.symm
   simp[List.isPrefixOf,this]
  have h1:=p7 r l fun b hb=>h b (List.mem_cons_of_mem _ hb)
  have hne:(Lib.index (r++39::39::l) [39,39] == -1)=false:=by rw[h1];simp;try omega
  rw[List.cons_append]
  simp only[Lib.index,hp,hne,h1]
  simp
theorem B0 (l:List UInt8):(∀b∈l,b≠39)∨ ∃a r,l=a++39::r∧ ∀b∈a,b≠39:=by
 rcases ic l 39 with⟨_,h⟩|⟨a,r,h1,h2,_⟩
 ·exact Or.inl h
 ·exact Or.inr ⟨a,r,h1,h2⟩
theorem qz: ∀(k:Nat) (u:List UInt8),Lib.count (dbl u) [39,39]≤k→Lib.replaceK [39,39] [39] k (dbl u)=u
 |0,u,h=>by
  rcases B0 u with h2|⟨a,r,h1,h2⟩
  ·have:=iM u [] h2
   simp only[List.append_nil,dbl]at this
   rw[this];rfl
  ·exfalso
   have hd:dbl u=a++39::39::dbl r:=by rw[h1,iM a _ h2,dbl,if_pos rfl]
   have:=Lib.count_hit (sub:=[39,39]) (by simp) (p7 a (dbl r) h2)
   rw[hd]at h
   omega
 |k+1,u,h=>by
  rcases B0 u with h2|⟨a,r,h1,h2⟩
  ·have:=iM u [] h2
   simp only[List.append_nil,dbl]at this
   rw[this,Lib.replaceK,tB u h2];rfl
  ·have hd:dbl u=a++39::39::dbl r:=by rw[h1,iM a _ h2,dbl,if_pos rfl]
   have hi:=p7 a (dbl r) h2
   rw[←hd]at hi
   have hc:=Lib.count_hit (sub:=[39,39]) (by simp) hi
   rw[Lib.replaceK_hit _ _ _ _ _ hi]
   have hdr:(dbl u).drop (a.length+([39,39]:List UInt8).length)=dbl r:=by
    rw[hd,←List.drop_drop,List.drop_left' rfl];rfl
   have ht:(dbl u).take a.length=a:=by rw[hd,List.take_left' rfl]
   rw[hdr]at hc
   rw[hdr,ht,qz k r (by omega),h1]
   simp
theorem B4 (u:List UInt8):Lib.replaceAll (dbl u) [39,39] [39]=u:=by
 unfold Lib.replaceAll Lib.replace Lib.replaceNum
 rw[if_neg (by decide),if_pos (Or.inl (by decide))]
 exact qz _ _ (Nat.le_refl _)
theorem qw: ∀(u:List UInt8),bN 39 (dbl u++[39])=some (u,(dbl u).length+1)
 |[]=>ft (fun d t h=>by cases h)
 |c::r=>by
  by_cases hc:c=39
  ·subst hc
   rw[dbl,if_pos rfl,List.cons_append,List.cons_append,gA,qw r]
   simp only[Option.map_some,List.length_cons]
  ·rw[dbl,if_neg hc,List.cons_append,iE hc,qw r]
   simp only[Option.map_some,List.length_cons]
theorem uM: ∀(u:List UInt8),∀b∈dbl u,b∈u∨b=39
 |[],b,h=>by simp[dbl]at h
 |c::r,b,h=>by
  unfold dbl at h
  split at h
  ·rcases List.mem_cons.1 h with h|h
   ·exact Or.inr h
   ·rcases List.mem_cons.1 h with h|h
    ·exact Or.inr h
    ·rcases uM r b h with h|h
     ·exact Or.inl (List.mem_cons_of_mem _ h)
     ·exact Or.inr h
  ·rcases List.mem_cons.1 h with h|h
   ·exact Or.inl (by rw[h];simp)
   ·rcases uM r b h with h|h
    ·exact Or.inl (List.mem_cons_of_mem _ h)
    ·exact Or.inr h
theorem jZ {s:List UInt8}:fT s=true↔ ∀b∈s,32≤b.toNat∧b.toNat≤126:=by
 unfold fT
 rw[Bool.not_eq_true',List.any_eq_false]
 constructor
 ·intro h b hb
  have:=h b hb
  simp only[Bool.or_eq_true,decide_eq_true_eq,not_or]at this
  omega
 ·intro h b hb
  have:=h b hb
  simp only[Bool.or_eq_true,decide_eq_true_eq,not_or]
  omega
theorem tq {u:List UInt8}(h:fT u=true):fT (bh u)=true:=by
 rw[jZ]at h ⊢
 intro b hb
 unfold bh at hb
 simp only[List.mem_append,List.mem_singleton]at hb
 rcases hb with(h1|h1)|h1
 ·subst h1;decide
 ·rcases uM u b h1 with h2|h2
  ·exact h b h2
  ·subst h2;decide
 ·subst h1;decide
theorem la (u:List UInt8):(bh u).length=(dbl u).length+2:=by
 unfold bh
 simp only[List.length_append,List.length_cons,List.length_nil]
 omega
theorem xn {u:List UInt8}(h:fT u=true)(hl:u.length≤60):ii (bh u)=some ⟨1,6,bh u⟩:=by
 have hd:=m0 u
 have hlen:=la u
 have hT:cg (bh u)=0:=by unfold cg;rw[if_neg (by omega),if_pos (tq h)]
 refine wb (c:=39) (kept:=List.range' 0 ((bh u).length-0)) hT rfl (by decide) ?_
 have hq:dw (bh u) 0= .ok (⟨1,6,bh u⟩,(bh u).length):=by
  unfold dw
  have e1:((bh u)[0]?).getD 0=39:=rfl
  have e2:(bh u).drop (0+1)=dbl u++[39]:=rfl
  rw[e1,e2,qw]
  simp only
  rw[if_neg (by omega),hlen]
  congr 2
  omega
 show di (bh u) 0=_
 unfold di
 rw[hq]
theorem zA {u:List UInt8}(h:fT u=true)(hl:u.length≤60):d4 6 (bh u)=0:=by
 unfold d4
 rw[if_neg (by decide),if_pos (by decide),if_pos (xn h hl)]
section
variable {μ:Mu}{s:List UInt8}
def mid (s:List UInt8):List UInt8:=(s.drop 1).take (s.length-2)
end
end Go.Abs
set_option linter.unusedVariables false
set_option linter.unusedSimpArgs false
namespace Go.Abs
open Go Go.Proofs
def bf (ty p:Int):List UInt8:=if ty=2 then [68]++Lib.itoa p else if p≠0 then [69]++Lib.itoa p else []
def aX (W P:List UInt8)(ty p:Int):List UInt8:=W++(46::(P++bf ty p))
structure RealOK (W P:List UInt8) (ty p:Int):Prop where
 wd: ∀b∈W,ak b=true
 wl:fZ W
 pd: ∀b∈P,ak b=true
 pl:fZ P.reverse
 cnt:fa W+fa P≤30
 p1: -999≤p
 p2:p≤999
 ty:ty=1∨ty=2
theorem dz {l:List UInt8}(h:fZ l):l≠[]:=by
 rintro rfl
 rcases h with h|⟨c,r,h,_⟩
 ·simp at h
 ·cases h
theorem ze {l:List UInt8}(h:fZ l):bZ l=l:=by
 match l,h with
 |[],h=>rfl
 |[c],h=>rfl
 |c::d::r,h=>
  rcases h with h|⟨x,y,h,hx⟩
  ·simp at h
  ·injection h with h _
   subst h
   unfold bZ
   rw[if_neg hx]
theorem vS (l:List UInt8):bj l≠[]:=by
 unfold bj
 split
 ·simp
 ·assumption
theorem tX {l:List UInt8}(h: ∀b∈l,ak b=true): ∀b∈bj l,ak b=true:=by
 unfold bj
 split
 ·intro b hb;rw[List.mem_singleton.1 hb];rfl
 ·exact h
theorem vq {W:List UInt8}(h:fZ W):before W=W:=by
 unfold before bj
 rw[if_neg (dz h),ze h]
theorem xb {P:List UInt8}(h:fZ P.reverse):after P=P:=by
 have h0:P≠[]:=fun e=>dz h (by rw[e];rfl)
 unfold after bj qN
 rw[if_neg h0,ze h,List.reverse_reverse]
theorem HU {whole part:List UInt8}{kind exp:Int}{e:Nat}{q:Tok×Nat}(h:iw whole part kind exp e= .ok q)(hw: ∀b∈whole,ak b=true)(hp: ∀b∈part,ak b=true)(hk:kind=1∨kind=2)(h1: -999≤exp)(h2:exp≤999):
  ∃W P,RealOK W P kind exp∧q.1=⟨1,kind,aX W P kind exp⟩:=by
 unfold iw at h
 split at h
 ·cases h
 ·rename_i hc
  refine⟨before whole,after part,⟨fun b hb=>tX hw b (kM _ b hb),lp _ (vS _),fun b hb=> ?_,?_,by omega,h1,h2,hk⟩,?_⟩
  ·unfold after qN at hb
   have:=kM _ b (List.mem_reverse.1 hb)
   exact tX hp b (List.mem_reverse.1 this)
  ·unfold after qN
   rw[List.reverse_reverse]
   exact lp _ (by simpa using vS part)
  ·unfold aX bf
   split at h
   ·rename_i h3
    injection h with h
    rw[←h,if_pos h3]
    simp
   ·rename_i h3
    split at h
    ·rename_i h4
     injection h with h
     rw[←h,if_neg h3,if_pos h4]
     simp
    ·rename_i h4
     injection h with h
     rw[←h,if_neg h3,if_neg h4]
     simp
section
variable {s:List UInt8}{n:Nat}
def CM (t:Tok):Prop:=t.kind=1→(t.type=1∨t.type=2)→ ∃W P p,RealOK W P t.type p∧t.text=aX W P t.type p
def CK {β:Type}:Except Int (Tok×β)→Prop
 | .ok q=>CM q.1
 | .error _=>True
theorem Fe {t:Tok}(h:t.type≠1∧t.type≠2):CM t:=fun _ e=>e.elim (fun e=>absurd e h.1) (fun e=>absurd e h.2)
theorem sT {k m:Nat}: ∀b∈(s.drop k).take (bI s k),ak b=true:=by
 have:=(m4 (s:=s) (n:=k)).1
 intro b hb
 rw[←this]at hb
 exact gC b hb
theorem Fa (h:(aM false s n).length≤3): -999≤fK s n∧fK s n≤999:=by
 have hd: ∀b∈aM false s n,ak b=true:=gC
 have hb:=(dP _ 0 hd).2
 have:10^(aM false s n).length≤10^3:=Nat.pow_le_pow_right (by omega) h
 unfold fK
 split<;>omega
theorem wg {whole part:List UInt8}{point:Bool}{e:Nat}(hw: ∀b∈whole,ak b=true)(hp: ∀b∈part,ak b=true):CK (jS s whole part point e):=by
 unfold jS
 have key: ∀(kind exp:Int) (e':Nat),(kind=1∨kind=2)→ -999≤exp→exp≤999→CK (iw whole part kind exp e'):=by
  intro kind exp e' hk h1 h2
  cases h:iw whole part kind exp e' with
  |error x=>trivial
  |ok q=>
   obtain⟨W,P,ho,hq⟩:=HU h hw hp hk h1 h2
   show CM q.1
   rw[hq]
   exact fun _ _=>⟨W,P,exp,ho,rfl⟩
 split
 ·split
  ·trivial
  ·rename_i h3
   have:=Fa (s:=s) (n:=e) (by omega)
   exact key _ _ _ (by split<;>simp) this.1 this.2
 ·split
  ·exact key 1 0 e (Or.inl rfl) (by omega) (by omega)
  ·unfold CQ
   split
   ·trivial
   ·split
    ·trivial
    ·exact Fe (by simp)
theorem AD {c:UInt8}(h:s[n]? =some c)(hc:ak c=true∨(c=46∧ak ((s[n+1]?).getD 0)=true)):CK (bR false s n):=by
 rw[←tV h hc]
 unfold ni
 split
 ·exact wg (sT (m:=0)) (sT (m:=0))
 ·exact wg (sT (m:=0)) (by simp)
end
theorem mg {l:List UInt8}:l.length≤fa l+1:=by
 unfold fa
 split
 ·rename_i h;rw[h];exact Nat.le_refl _
 ·omega
theorem gO (p:Int):(∃m:Nat,p=(m:Int)∧Lib.itoa p=Lib.decDigits m)∨ ∃m:Nat,1≤m∧p= -(m:Int)∧Lib.itoa p=45::Lib.decDigits m:=by
 by_cases h:0≤p
 ·obtain⟨m,rfl⟩: ∃m:Nat,p=(m:Int):=⟨p.toNat,by omega⟩
  exact Or.inl ⟨m,rfl,lO⟩
 ·obtain⟨m,rfl⟩: ∃m:Nat,p= -(m:Int):=⟨(-p).toNat,by omega⟩
  exact Or.inr ⟨m,by omega,rfl,xW (by omega)⟩
theorem lJ (m:Nat):Lib.decDigits m≠[]:=dz (xG m)
theorem xX (p:Int): ∀b∈Lib.itoa p,b=45∨ak b=true:=by
 intro b hb
 rcases gO p with⟨m,_,h⟩|⟨m,_,_,h⟩
 ·rw[h]at hb;exact Or.inr (gM m b hb)
 ·rw[h]at hb
  rcases List.mem_cons.1 hb with h|h
  ·exact Or.inl h
  ·exact Or.inr (gM m b h)
theorem Gv (ty p:Int): ∀b∈bf ty p,b=68∨b=69∨b=45∨ak b=true:=by
 intro b hb
 unfold bf at hb
 split at hb
 ·rcases List.mem_append.1 hb with h|h
  ·exact Or.inl (List.mem_singleton.1 h)
  ·exact Or.inr (Or.inr (xX p b h))
 ·split at hb
  ·rcases List.mem_append.1 hb with h|h
   ·exact Or.inr (Or.inl (List.mem_singleton.1 h))
   ·exact Or.inr (Or.inr (xX p b h))
  ·simp at hb
theorem q9 {b:UInt8}(h:ak b=true):32≤b.toNat∧b.toNat≤126:=by
 have:=cr.1 h
 omega
theorem vX {W P:List UInt8}{ty p:Int}(h:RealOK W P ty p):cg (aX W P ty p)=0:=by
 have h1:=mg (l:=W)
 have h2:=mg (l:=P)
 have h3:=h.cnt
 have h4:(bf ty p).length≤22:=by
  have:=Lib.itoa_length_le p (by have:=h.p1;omega) (by have:=h.p2;omega)
  unfold bf
  split
  ·simp;omega
  ·split
   ·simp;omega
   ·simp
 unfold cg
 rw[if_neg (by unfold aX;simp only[List.length_append,List.length_cons];omega),if_pos]
 rw[jZ]
 intro b hb
 unfold aX at hb
 rcases List.mem_append.1 hb with hb|hb
 ·exact q9 (h.wd b hb)
 ·rcases List.mem_cons.1 hb with hb|hb
  ·subst hb;decide
  ·rcases List.mem_append.1 hb with hb|hb
   ·exact q9 (h.pd b hb)
   ·rcases Gv ty p b hb with hb|hb|hb|hb
    ·subst hb;decide
    ·subst hb;decide
    ·subst hb;decide
    ·exact q9 hb
theorem jY {W:List UInt8}{p:UInt8→Bool}: ∀(v r:List UInt8),(∀b∈v,p b=true)→(∀c t,r=c::t→p c=false)→(v++r).takeWhile p=v
 |[],[],_,_=>rfl
 |[],c::t,_,h=>by rw[List.nil_append,List.takeWhile_cons,h c t rfl];rfl
 |a::v,r,h1,h2=>by
  rw[List.cons_append,List.takeWhile_cons,h1 a (by simp),if_pos rfl,jY (W:=W) v r (fun b hb=>h1 b (List.mem_cons_of_mem _ hb)) h2]
section
variable {W P:List UInt8}{ty p:Int}
theorem BA {s q:List UInt8}{L:UInt8}(hL:L=69∨L=68)(hs:s=q++L::Lib.itoa p)(h1: -999≤p)(h2:p≤999):
  (aL false s q.length).2.2.2=true∧(aM false s q.length).length≤3∧(aL false s q.length).1=L∧fK s q.length=p∧(aL false s q.length).2.2.1=s.length:=by
 have hlt:q.length<s.length:=by rw[hs];simp
 have hg0:atC false s q.length=L:=by rw[cx,hs,List.getElem?_append_right (Nat.le_refl _)];simp
 have hE:atE false s q.length=q.length+1:=by rw[dq,if_pos hlt]
 have hxL:cz false s q.length=L:=by unfold cz;rw[hg0];rcases hL with rfl|rfl<;>rfl
 have hdrop1:s.drop (q.length+1)=Lib.itoa p:=by rw[hs,←List.drop_drop,List.drop_left' rfl];rfl
 have hat1:atC false s (q.length+1)=((Lib.itoa p)[0]?).getD 0:=by
  rw[cx,←hdrop1,List.getElem?_drop]
 have hcond:cz false s q.length=69∨cz false s q.length=68:=by rw[hxL];exact hL
 have hx:aL false s q.length=(cz false s q.length,bF false s q.length++aM false s q.length,runE false ak s (expStart false s q.length),!decide (aM false s q.length=[])):=by
  unfold aL;rw[if_pos hcond]
 have key: ∀(m:Nat) (st:Nat),m≤999→expStart false s q.length=st→s.drop st=Lib.decDigits m→st+(Lib.decDigits m).length=s.length→
   aM false s q.length=Lib.decDigits m∧(Lib.decDigits m).length≤3∧runE false ak s (expStart false s q.length)=s.length:=by
  intro m st hm h3 h4 h5
  have h6:(s.drop st).takeWhile ak=Lib.decDigits m:=by rw[h4];exact nu _ (gM m)
  refine⟨?_,eF 3 m (by omega) (by omega),?_⟩
  ·unfold aM;rw[h3,ct bW,h6]
  ·rw[h3,cu bW,h6,h5]
 have hlen:s.length=q.length+1+(Lib.itoa p).length:=by rw[hs];simp;omega
 rcases gO p with⟨m,hm,hi⟩|⟨m,hm1,hm,hi⟩
 ·obtain⟨c,r,hcr⟩: ∃c r,Lib.decDigits m=c::r:=by
   cases h:Lib.decDigits m with
   |nil=>exact absurd h (lJ m)
   |cons c r=>exact⟨c,r,rfl⟩
  have hcd:ak c=true:=gM m c (by rw[hcr];simp)
  have hc:atC false s (q.length+1)=c:=by rw[hat1,hi,hcr];rfl
  have hn45:c≠45:=by rintro rfl;exact absurd hcd (by decide)
  have hn43:c≠43:=by rintro rfl;exact absurd hcd (by decide)
  have hst:expStart false s q.length=q.length+1:=by unfold expStart;rw[hE,hc,if_neg (by simp[hn43,hn45])]
  obtain⟨k1,k2,k3⟩:=key m (q.length+1) (by omega) hst (by rw[hdrop1,hi]) (by rw[hlen,hi])
  rw[hx]
  refine⟨by simp[k1,lJ m],by rw[k1];exact k2,hxL,?_,k3⟩
  unfold fK
  rw[hc,if_neg hn45,k1,iX,hm]
 ·have hc:atC false s (q.length+1)=45:=by rw[hat1,hi];rfl
  have hlt1:q.length+1<s.length:=by rw[hlen,hi];simp
  have hst:expStart false s q.length=q.length+2:=by
   unfold expStart
   rw[hE,hc,if_pos (Or.inr rfl),dq,if_pos hlt1]
  have hd2:s.drop (q.length+2)=Lib.decDigits m:=by
   rw[show q.length+2=(q.length+1)+1 from rfl,←List.drop_drop,hdrop1,hi];rfl
  obtain⟨k1,k2,k3⟩:=key m (q.length+2) (by omega) hst hd2 (by rw[hlen,hi];simp;omega)
  rw[hx]
  refine⟨by simp[k1,lJ m],by rw[k1];exact k2,hxL,?_,k3⟩
  unfold fK
  rw[hc,if_pos rfl,k1,iX,hm]
theorem uk: ∀c t,bf ty p=c::t→ak c=false:=by
 intro c t h
 unfold bf at h
 split at h
 ·injection h with h _;subst h;decide
 ·split at h
  ·injection h with h _;subst h;decide
  ·cases h
theorem AN (h:RealOK W P ty p):ni (aX W P ty p) 0= .ok (⟨1,ty,aX W P ty p⟩,(aX W P ty p).length):=by
 have hd0:(aX W P ty p).drop 0=W++46::(P++bf ty p):=rfl
 have e1:bI (aX W P ty p) 0=W.length:=by
  unfold bI
  rw[hd0,g0 (by decide) W _ h.wd]
 have e2:(aX W P ty p)[0+W.length]? =some 46:=by unfold aX;rw[Nat.zero_add,List.getElem?_append_right (Nat.le_refl _)];simp
 have hd1:(aX W P ty p).drop (0+W.length+1)=P++bf ty p:=by
  unfold aX
  rw[Nat.zero_add,←List.drop_drop,List.drop_left' rfl];rfl
 have e3:bI (aX W P ty p) (0+W.length+1)=P.length:=by
  unfold bI
  rw[hd1,jY (W:=W) P _ h.pd uk]
 have hP:P≠[]:=fun e=>dz h.pl (by rw[e];rfl)
 have e4:ur (aX W P ty p) 0=false:=by
  unfold ur
  rw[e1,Bool.and_eq_false_iff]
  right
  rw[List.any_eq_false]
  intro w hw hb
  have hb':gK (aX W P ty p) (0+W.length) w=true:=by simpa using hb
  obtain⟨_,_,h3,_⟩:=iq (ko w hw) hb'
  have hlt:0+W.length<(aX W P ty p).length:=by unfold aX;simp
  obtain⟨c,r,hcr⟩: ∃c r,P=c::r:=by
   cases P with
   |nil=>exact absurd rfl hP
   |cons c r=>exact⟨c,r,rfl⟩
  have hcd:ak c=true:=h.pd c (by rw[hcr];simp)
  have hcl:aY c=false:=by
   have:=cr.1 hcd
   unfold aY
   rw[Bool.or_eq_false_iff,Bool.and_eq_false_iff,Bool.and_eq_false_iff,decide_eq_false_iff_not,decide_eq_false_iff_not,decide_eq_false_iff_not]
   omega
  have h6:((aX W P ty p).drop (0+W.length+1)).takeWhile aY=[]:=by
   rw[hd1,hcr,List.cons_append,List.takeWhile_cons,hcl];rfl
  rw[dq,if_pos hlt,cu ji,h6]at h3
  simp only[List.length_nil,Nat.add_zero]at h3
  have h5:(aX W P ty p)[0+W.length+1]? =some c:=by
   have:((aX W P ty p).drop (0+W.length+1))[0]? =some c:=by rw[hd1,hcr];rfl
   rw[List.getElem?_drop]at this
   exact this
  rw[cx,h5]at h3
  simp only[Option.getD_some]at h3
  subst h3
  exact absurd hcd (by decide)
 unfold ni
 rw[e4,e1,e2,e3,hd1]
 simp only[Bool.not_false,Bool.true_and,decide_true,if_true]
 rw[hd0,List.take_left' rfl,List.take_left' rfl,Nat.zero_add]
 have hq:aX W P ty p=(W++46::P)++bf ty p:=by unfold aX;simp
 have hql:(W++46::P).length=W.length+1+P.length:=by simp;omega
 have hr: ∀(kind exp:Int) (e:Nat),iw W P kind exp e=if kind=2 then .ok (⟨1,kind,W++[46]++P++[68]++Lib.itoa exp⟩,e)else if exp≠0 then .ok (⟨1,kind,W++[46]++P++[69]++Lib.itoa exp⟩,e)else .ok (⟨1,kind,W++[46]++P⟩,e):=by
  intro kind exp e
  unfold iw
  rw[vq h.wl,xb h.pl,if_neg (by have:=h.cnt;omega)]
 unfold jS
 by_cases ht:ty=2
 ·have hs:aX W P ty p=(W++46::P)++68::Lib.itoa p:=by rw[hq];unfold bf;rw[if_pos ht];rfl
  obtain⟨x1,x2,x3,x4,x5⟩:=BA (p:=p) (Or.inr rfl) hs h.p1 h.p2
  rw[hql]at x1 x2 x3 x4 x5
  rw[x1,if_pos rfl,if_neg (by omega),x3,if_pos rfl,x4,x5,hr,if_pos rfl,ht,←ht]
  congr 3
  rw[hs];simp
 ·have ht1:ty=1:=h.ty.elim id (fun e=>absurd e ht)
  by_cases hp:p=0
  ·have hs:aX W P ty p=W++46::P:=by rw[hq];unfold bf;rw[if_neg ht,if_neg (by simp[hp])];simp
   have hA:atC false (aX W P ty p) (W.length+1+P.length)=0:=by
    rw[cx,List.getElem?_eq_none (by rw[hs,hql];omega)];rfl
   have hX:(aL false (aX W P ty p) (W.length+1+P.length)).2.2.2=false:=by
    unfold aL
    have:cz false (aX W P ty p) (W.length+1+P.length)=0:=by unfold cz;rw[hA];rfl
    rw[this]
    rfl
   rw[hX,if_neg (by simp),if_pos rfl,hr,if_neg (by decide),if_neg (by simp),hs,hql,ht1]
   simp
  ·have hs:aX W P ty p=(W++46::P)++69::Lib.itoa p:=by rw[hq];unfold bf;rw[if_neg ht,if_pos hp];rfl
   obtain⟨x1,x2,x3,x4,x5⟩:=BA (p:=p) (Or.inl rfl) hs h.p1 h.p2
   rw[hql]at x1 x2 x3 x4 x5
   rw[x1,if_pos rfl,if_neg (by omega),x3,if_neg (by decide),x4,x5,hr,if_neg (by decide),if_pos hp,ht1,←ht1]
   congr 3
   rw[hs];simp
theorem AO (h:RealOK W P ty p):ii (aX W P ty p)=some ⟨1,ty,aX W P ty p⟩:=by
 obtain⟨c,r,hcr⟩: ∃c r,W=c::r:=by
  cases hw:W with
  |nil=>exact absurd hw (dz h.wl)
  |cons c r=>exact⟨c,r,rfl⟩
 have hcd:ak c=true:=h.wd c (by rw[hcr];simp)
 have hcl:aY c=false:=by
  have:=cr.1 hcd
  unfold aY
  rw[Bool.or_eq_false_iff,Bool.and_eq_false_iff,Bool.and_eq_false_iff,decide_eq_false_iff_not,decide_eq_false_iff_not,decide_eq_false_iff_not]
  omega
 have hg:(aX W P ty p)[0]? =some c:=by unfold aX;rw[hcr];rfl
 refine wb (c:=c) (kept:=[]) (vX h) hg (fun e=>by rw[e]at hcd;exact absurd hcd (by decide)) ?_
 unfold cK
 rw[hcl,hcd,←tV hg (Or.inl hcd),AN h]
 rfl
theorem zB (h:RealOK W P ty p):d4 ty (aX W P ty p)=0:=by
 unfold d4
 rw[if_neg (by rcases h.ty with rfl|rfl<;>decide),if_pos (by rcases h.ty with rfl|rfl<;>simp),if_pos (AO h)]
end
end Go.Abs
