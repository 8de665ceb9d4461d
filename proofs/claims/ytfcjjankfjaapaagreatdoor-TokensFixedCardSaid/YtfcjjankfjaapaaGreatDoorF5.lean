/-
  The statement TokensFixedCardSaid, proved; part 6 of 7 of its proof.
  A number as a token.
  CHARACTER constants: what stands between quotes, plainly.
  The scanner's own list and the places that it keeps; CHARACTER constants.
  The arguments of this chapter's laws.
  Hollerith constants, operators, tokens.
  Operators, tokens.
  All tokens of a text.
  Digits and the numbers that they spell: plain facts.
  The scanner in free form, plainly; words between dots, as the reference looks for them.
  The reference's small functions.
  The reference's numbers.
  The reference's number is the program's.
  The reference's CHARACTER constants and tokens.
-/
import Derived.Test.YtfcjjankfjaapaaGreatDoorF4
import Derived.Lib.ItoaLen
import Derived.Test.YtfcjjankfjaapaaGreatDoorF2
import Derived.Lib.IndexMore
import Derived.Lib.IndexBytes
import Derived.Lib.Replace
import Derived.Test.YtfcjjankfjaapaaGreatDoorF3
import Derived.Lib.AtoiAllCases
set_option linter.all false
set_option linter.unusedSectionVars false
set_option linter.unusedVariables false
set_option linter.unusedSimpArgs false
set_option maxRecDepth 100000
namespace Go.Abs
open Go Go.Proofs
def qt (μ:Mu):Except Int (Tok×Nat)→Out
 | .ok q=> .ret (.ltup [.cv q.1.cv,LV.int .i64 (q.2:Int)]) μ
 | .error e=> .panic (gf e) μ
def gA (whole part:List UInt8):List UInt8:=bF (dx whole)++[46]++bF (dy part)
def gd (digits:List UInt8)(ok:Bool):List UInt8:=if ok then Lib.itoa (dH digits)else [48]
def el (text pow:List UInt8)(letter:UInt8)(ok:Bool):Tok:=
 if letter=68∧ok=true then⟨1,2,text++[68]++pow⟩else if pow=[48]then⟨1,1,text⟩else⟨1,1,text++([69]++pow)⟩
def rn (whole part digits:List UInt8)(ok:Bool):Bool:=decide (30<(dx whole).length+(dy part).length)||(decide (3<(Lib.trimPrefix digits [45]).length)&&ok)
def fj (whole part digits:List UInt8)(letter:UInt8)(ok:Bool)(e:Nat):Except Int (Tok×Nat):=
 if rn whole part digits ok then .error 7 else .ok (el (gA whole part) (gd digits ok) letter ok,e)
def bS (fx:Bool)(s:List UInt8)(n:Nat):List UInt8:=bk fx aw s n
def cB (fx:Bool)(s:List UInt8)(n:Nat):Bool:=decide (atC fx s (runE fx aw s n)=46)&&(!(bI fx s (runE fx aw s n)).2.2||decide (bS fx s n=[]))
def dE (fx:Bool)(s:List UInt8)(n:Nat):List UInt8:=if cB fx s n then bk fx aw s (atE fx s (runE fx aw s n))else []
def numEnd (fx:Bool)(s:List UInt8)(n:Nat):Nat:=if cB fx s n then runE fx aw s (atE fx s (runE fx aw s n))else runE fx aw s n
def dA (fx:Bool)(s:List UInt8)(n:Nat):Except Int (Tok×Nat):=
 let q:=aX fx s (numEnd fx s n)
 if !cB fx s n&& !q.2.2.2 then(match de (bS fx s n)with| .ok t=> .ok (t,numEnd fx s n)| .error e=> .error e)
 else fj (bS fx s n) (dE fx s n) q.2.1 q.1 q.2.2.2 (if q.2.2.2 then q.2.2.1 else numEnd fx s n)
def stT (μ:Mu)(xr:Int→Int→Int→List UInt8→Mu→St)(xp:CV→Mu→St):Except Int (Tok×Nat)→St
 | .ok q=>xr (q.2:Int) q.1.kind q.1.type q.1.text μ
 | .error e=>xp (gf e) μ
section
variable {μ:Mu}{l i:Nat}{s:List UInt8}{fx:Bool}{r:List LV}
theorem Ou {e:Nat}{text pow:List UInt8}{a b:Int}{c:List UInt8}(h:text.length+pow.length≤1000000):
  uY (ev E) (e:Int) text pow a b c μ=some (kT (e:Int) 1 1 (if pow=[48]then text else text++([69]++pow)) μ):=by
 refine aU ?_
 rw[Hy]
 by_cases hp:pow=[48]
 ·have:decide (pow=[48])=true:=by simp[hp]
  rw[this,if_pos hp];rfl
 ·have:decide (pow=[48])=false:=by simp[hp]
  rw[this,if_neg hp]
  simp only[ad,ao,aa,ak,am,ah,ae,aj,aA,cond_true,cond_false,Bool.not_true,Bool.not_false,au,ar,aq]
  rw[bh (by simp;omega),bh (by simp;omega)]
  simp only[ad,ao,aa,ak,am,ah,ae,aj,aA,cond_true,cond_false,Bool.not_true,Bool.not_false,au,ar,aq]
theorem KN {e:Nat}{letter:UInt8}{ok:Bool}{text pow:List UInt8}{a b:Int}{c:List UInt8}(h:text.length+pow.length≤1000000):
  uX (ev E) (e:Int) (letter.toNat:Int) ok text pow a b c μ=some (kQ (e:Int) (el text pow letter ok).kind (el text pow letter ok).type (el text pow letter ok).text μ):=by
 have e68:decide ((letter.toNat:Int)=68)=decide (letter=68):=bV (k:=68) (by omega)
 refine aU ?_
 rw[Hx,e68,Ou h,aa,zu]
 by_cases hl:letter=68
 ·cases ok with
  |true=>
   have:el text pow letter true=⟨1,2,text++[68]++pow⟩:=by simp[el,hl]
   rw[this]
   simp only[hl,decide_true,ad,ao,aa,ak,am,ah,ae,aj,aA,cond_true,cond_false,Bool.not_true,Bool.not_false,au,ar,aq]
   rw[bh (by simp;omega),bh (by simp;omega)]
   simp only[ad,ao,aa,ak,am,ah,ae,aj,aA,cond_true,cond_false,Bool.not_true,Bool.not_false,au,ar,aq]
  |false=>
   simp only[hl,decide_true,ad,ao,aa,ak,am,ah,ae,aj,aA,cond_true,cond_false,Bool.not_true,Bool.not_false,au,ar,aq]
   by_cases hp:pow=[48]<;>simp[el,hp]
 ·simp only[hl,decide_false,ad,ao,aa,ak,am,ah,ae,aj,aA,cond_true,cond_false,Bool.not_true,Bool.not_false,au,ar,aq]
  by_cases hp:pow=[48]<;>simp[el,hp,hl]
theorem kZ (t:List UInt8):(bF t).length≤t.length+1:=by
 unfold bF
 split<;>simp
theorem Ot {e:Nat}{letter:UInt8}{ok:Bool}{whole part digits:List UInt8}{a b:Int}{c:List UInt8}(h1:whole.length≤200000)(h2:part.length≤200000)(h3:digits.length≤200001)(h4:(gd digits ok).length≤100):
  mT (ev E) (e:Int) whole part (letter.toNat:Int) digits ok a b c μ=some (nH (e:Int) (el (gA whole part) (gd digits ok) letter ok).kind (el (gA whole part) (gd digits ok) letter ok).type (el (gA whole part) (gd digits ok) letter ok).text μ):=by
 refine aU ?_
 have k1:=wM whole
 have k2:=wN part
 have k3:=kZ (dx whole)
 have k4:=kZ (dy part)
 rw[Hw,MD]
 simp only[ad,ao,aa,ak,am,ah,ae,aj,aA,cond_true,cond_false,Bool.not_true,Bool.not_false,au,ar,aq]
 rw[bh (by simp;omega)]
 simp only[ad,ao,aa,ak,am,ah,ae,aj,aA,cond_true,cond_false,Bool.not_true,Bool.not_false,au,ar,aq]
 rw[ME (by omega)]
 simp only[ad,ao,aa,ak,am,ah,ae,aj,aA,cond_true,cond_false,Bool.not_true,Bool.not_false,au,ar,aq]
 rw[bh (by simp;omega)]
 have ht:bF (dx whole)++[46]++bF (dy part)=gA whole part:=rfl
 have hl:(gA whole part).length≤400003:=by rw[←ht];simp;omega
 cases ok with
 |true=>
  have hr:=mD digits
  simp only[ad,ao,aa,ak,am,ah,ae,aj,aA,cond_true,cond_false,Bool.not_true,Bool.not_false,au,ar,aq,D4 (show digits.length≤1000000 by omega),sP,jv,Kx hr.1 hr.2]
  have hp:Lib.itoa (dH digits)=gd digits true:=rfl
  rw[hp,ht,KN (by omega),aa,qp]
 |false=>
  simp only[ad,ao,aa,ak,am,ah,ae,aj,aA,cond_true,cond_false,Bool.not_true,Bool.not_false,au,ar,aq]
  have hp:([48]:List UInt8)=gd digits false:=rfl
  rw[hp,ht,KN (by omega),aa,qp]
theorem vI (a b:List UInt8):(Lib.trimPrefix a b).length≤a.length:=Lib.trimPrefix_le a b
theorem KM {e:Nat}{letter:UInt8}{ok:Bool}{whole part digits:List UInt8}{a b:Int}{c:List UInt8}(h1:whole.length≤200000)(h2:part.length≤200000)(h3:digits.length≤200001)(h4:(gd digits ok).length≤100):
  uW (ev E) (e:Int) whole part (letter.toNat:Int) digits ok a b c μ=some (stT μ nG gH (fj whole part digits letter ok e)):=by
 refine aU ?_
 rw[Hv,Mx (by omega) (by omega)]
 simp only[ad,ao,aa,ak,am,ah,ae,aj,aA,cond_true,cond_false,Bool.not_true,Bool.not_false,au,ar,aq,i8,dJ,My]
 have k0:=vI digits [45]
 have e30:decide ((30:Int)<(((dx whole).length+(dy part).length:Nat):Int))=decide (30<(dx whole).length+(dy part).length):=by simp;omega
 have e3:decide ((3:Int)<((Lib.trimPrefix digits [45]).length:Int))=decide (3<(Lib.trimPrefix digits [45]).length):=by simp;omega
 rw[e30,e3,Ot h1 h2 h3 h4,aa,zt]
 unfold fj rn
 cases decide (30<(dx whole).length+(dy part).length)<;>cases decide (3<(Lib.trimPrefix digits [45]).length)<;>cases ok<;>rfl
theorem Oq {e x:Nat}{letter:UInt8}{ok:Bool}{whole part digits:List UInt8}{a b:Int}{c:List UInt8}(h1:whole.length≤200000)(h2:part.length≤200000)(h3:digits.length≤200001)(h4:(gd digits ok).length≤100):
  uV (ev E) (e:Int) whole part (letter.toNat:Int) digits (x:Int) ok a b c μ=some (stT μ kN kO (fj whole part digits letter ok (if ok then x else e))):=by
 refine aU ?_
 rw[Hu]
 cases ok with
 |true=>
  rw[cond_true,KM h1 h2 h3 h4,aa]
  simp only[if_true]
  cases fj whole part digits letter true x with
  |ok q=>exact qn _ _ _ _ _ _
  |error e=>exact qo _ _ _
 |false=>
  rw[cond_false,KM h1 h2 h3 h4,aa]
  simp only[Bool.false_eq_true,if_false]
  cases fj whole part digits letter false e with
  |ok q=>exact qn _ _ _ _ _ _
  |error e=>exact qo _ _ _
theorem cx {β:Type}{t:Tok}{k:Int→Int→List UInt8→Option β}:d8 (.cv t.cv) k=k t.kind t.type t.text:=rfl
theorem Ps (h:Sc μ l i s fx r)(hs:s.length≤200000){whole part:List UInt8}{dot:Bool}{n:Nat}(hn:n≤s.length)(h1:whole.length≤200000)(h2:part.length≤200000)(h3:(aX fx s n).2.1.length≤200001)(h4:(gd (aX fx s n).2.1 (aX fx s n).2.2.2).length≤100):
  mU (ev E) l i (n:Int) whole part dot 0 0 [] μ=some (stT μ iA gh (if !dot&& !(aX fx s n).2.2.2 then(match de whole with| .ok t=> .ok (t,n)| .error e=> .error e)else fj whole part (aX fx s n).2.1 (aX fx s n).1 (aX fx s n).2.2.2 (if(aX fx s n).2.2.2 then(aX fx s n).2.2.1 else n))):=by
 refine aU ?_
 rw[Ja,Mv h hs hn]
 simp only[ad,ao,aa,ak,am,ah,ae,aj,aA,cond_true,cond_false,Bool.not_true,Bool.not_false,au,ar,aq]
 rw[Oq h1 h2 h3 h4,aa,Mw (by omega)]
 have hreal:kS (ev E) cH [] [(4,0),(5,0)] (stT μ kN kO (fj whole part (aX fx s n).2.1 (aX fx s n).1 (aX fx s n).2.2.2 (if(aX fx s n).2.2.2 then(aX fx s n).2.2.1 else n)))=
   some (stT μ iA gh (fj whole part (aX fx s n).2.1 (aX fx s n).1 (aX fx s n).2.2.2 (if(aX fx s n).2.2.2 then(aX fx s n).2.2.1 else n))):=by
  cases fj whole part (aX fx s n).2.1 (aX fx s n).1 (aX fx s n).2.2.2 (if(aX fx s n).2.2.2 then(aX fx s n).2.2.1 else n)with
  |ok q=>exact zr _ _ _ _ _ _
  |error e=>exact zs _ _ _
 rw[hreal]
 cases dot with
 |true=>rfl
 |false=>
  cases (aX fx s n).2.2.2 with
  |true=>rfl
  |false=>
   simp only[ad,ao,aa,ak,am,ah,ae,aj,aA,cond_true,cond_false,Bool.not_true,Bool.not_false,au,ar,aq,Bool.and_self,if_true]
   cases de whole with
   |ok t=>simp only[Nc,ad,cx];rfl
   |error e=>rfl
theorem HQ (digits:List UInt8)(ok:Bool):(gd digits ok).length≤100:=by
 have hr:=mD digits
 have:=Lib.itoa_length_le _ hr.1 hr.2
 unfold gd
 split
 ·omega
 ·simp
theorem Hd (h:Sc μ l i s fx r)(hs:s.length≤200000){n:Nat}(hn:n≤s.length):
  (ev E).call 171 [LV.cv (CV.ref l i 0),LV.int .i64 (n:Int)] μ=some (qt μ (dA fx s n)):=by
 have e46: ∀c:UInt8,decide ((c.toNat:Int)=46)=decide (c=46):=fun c=>bV (k:=46) (by omega)
 have hle:=fk (fx:=fx) (p:=aw) hn
 have hle2:=fa (fx:=fx) hle
 have hle3:=fk (fx:=fx) (p:=aw) hle2
 have hr1:=iw (fx:=fx) (s:=s) (p:=aw) (n:=n)
 have hr2:=iw (fx:=fx) (s:=s) (p:=aw) (n:=atE fx s (runE fx aw s n))
 have hx: ∀m,(aX fx s m).2.1.length≤200001:=by
  intro m
  unfold aX
  split
  ·have:=iw (fx:=fx) (s:=s) (p:=aw) (n:=expStart fx s m)
   simp only[List.length_append,cG,aY]
   split<;>simp<;>omega
  ·simp
 have fin: ∀q:Except Int (Tok×Nat),kB (ev E) 171 cH [] (stT μ iA gh q)=some (qt μ q):=by
  intro q
  cases q with
  |ok q=>exact AU _ _ _ _ _ _
  |error e=>
   simp only[stT]
   rw[AV]
   rfl
 have hend:numEnd fx s n≤s.length:=by unfold numEnd;split<;>assumption
 have key: ∀(dot:Bool),cB fx s n=dot→(opt (mU (ev E) l i (numEnd fx s n:Nat) (bS fx s n) (dE fx s n) dot 0 0 [] μ) (kB (ev E) 171 cH []))=some (qt μ (dA fx s n)):=by
  intro dot hd
  rw[Ps h hs hend (by unfold bS;omega) (by unfold dE;split<;>first|omega|simp) (hx _) (HQ _ _),aa,fin]
  unfold dA
  rw[hd]
 refine aN ?_
 rw[N9,nd h (by omega) (fun c=>km) hn]
 simp only[ad,ao,aa,ak,am,ah,ae,aj,aA,cond_true,cond_false,Bool.not_true,Bool.not_false,au,ar,aq]
 rw[gt h (by omega) hle]
 simp only[ad,ao,aa,ak,am,ah,ae,aj,aA,cond_true,cond_false,Bool.not_true,Bool.not_false,au,ar,aq,e46]
 have hw:bk fx aw s n=bS fx s n:=rfl
 by_cases hc:atC fx s (runE fx aw s n)=46
 ·have hc':decide (atC fx s (runE fx aw s n)=46)=true:=by simp[hc]
  rw[hc',cond_true,He h hs hle]
  simp only[ad,ao,aa,ak,am,ah,ae,aj,aA,cond_true,cond_false,Bool.not_true,Bool.not_false,au,ar,aq]
  rw[nd h (by omega) (fun c=>km) hle2]
  simp only[ad,ao,aa,ak,am,ah,ae,aj,aA,cond_true,cond_false,Bool.not_true,Bool.not_false,au,ar,aq]
  cases hdo:(bI fx s (runE fx aw s n)).2.2 with
  |false=>
   have hd:cB fx s n=true:=by simp[cB,hc,hdo]
   have:=key true hd
   simp only[numEnd,dE,hd,if_true]at this
   simp only[ad,ao,aa,ak,am,ah,ae,aj,aA,cond_true,cond_false,Bool.not_true,Bool.not_false,au,ar,aq,hw]
   exact this
  |true=>
   simp only[ad,ao,aa,ak,am,ah,ae,aj,aA,cond_true,cond_false,Bool.not_true,Bool.not_false,au,ar,aq,hw]
   by_cases hz:bS fx s n=[]
   ·have hd:cB fx s n=true:=by simp[cB,hc,hz]
    have:=key true hd
    simp only[numEnd,dE,hd,if_true]at this
    have h5:decide (bS fx s n=[])=true:=by simp[hz]
    rw[h5,cond_true]
    exact this
   ·have hd:cB fx s n=false:=by simp[cB,hdo,hz]
    have:=key false hd
    simp only[numEnd,dE,hd,Bool.false_eq_true,if_false]at this
    have h5:decide (bS fx s n=[])=false:=by simp[hz]
    rw[h5,cond_false]
    exact this
 ·have hc':decide (atC fx s (runE fx aw s n)=46)=false:=by simp[hc]
  have hd:cB fx s n=false:=by simp[cB,hc]
  have:=key false hd
  simp only[numEnd,dE,hd,Bool.false_eq_true,if_false]at this
  rw[hc',cond_false,hw]
  exact this
end
end Go.Abs
set_option linter.unusedVariables false
set_option linter.unusedSimpArgs false
namespace Go.Abs
open Go
def bP (q:UInt8):List UInt8→Option (List UInt8×Nat)
 |[]=>none
 |[c]=>if c=q then some ([],1)else none
 |c::d::r=>if c=q then(if d=q then(bP q r).map (fun x=>(q::x.1,x.2+2))else some ([],1))else(bP q (d::r)).map fun x=>(c::x.1,x.2+1)
theorem jF {q c:UInt8}(h:c≠q)(r:List UInt8):bP q (c::r)=(bP q r).map fun x=>(c::x.1,x.2+1):=by
 cases r with
 |nil=>simp[bP,h]
 |cons d r=>rw[bP,if_neg h]
theorem kw {q:UInt8}(r:List UInt8):bP q (q::q::r)=(bP q r).map fun x=>(q::x.1,x.2+2):=by
 rw[bP,if_pos rfl,if_pos rfl]
theorem gz {q:UInt8}{r:List UInt8}(h: ∀d t,r=d::t→d≠q):bP q (q::r)=some ([],1):=by
 cases r with
 |nil=>simp[bP]
 |cons d r=>rw[bP,if_pos rfl,if_neg (h d r rfl)]
theorem wE {q:UInt8}: ∀(a l:List UInt8),(∀b∈a,b≠q)→bP q (a++l)=(bP q l).map fun x=>(a++x.1,a.length+x.2)
 |[],l,_=>by
  simp only[List.nil_append,List.length_nil,Nat.zero_add]
  cases bP q l<;>rfl
 |c::a,l,h=>by
  rw[List.cons_append,jF (h c List.mem_cons_self),wE a l (fun b hb=>h b (List.mem_cons_of_mem _ hb))]
  cases bP q l with
  |none=>rfl
  |some x=>simp only[Option.map_some,List.cons_append,List.length_cons];congr 2;omega
theorem ux {q:UInt8}: ∀(l:List UInt8),(∀b∈l,b≠q)→bP q l=none
 |[],_=>rfl
 |c::r,h=>by rw[jF (h c List.mem_cons_self),ux r (fun b hb=>h b (List.mem_cons_of_mem _ hb))];rfl
theorem ku {q:UInt8}: ∀(n:Nat) (l:List UInt8),l.length≤n→ ∀t k,bP q l=some (t,k)→1≤k∧k≤l.length∧t.length+1≤k
 |0,l,hn,t,k,h=>by
  have:l=[]:=List.eq_nil_of_length_eq_zero (by omega)
  subst this
  cases h
 |n+1,[],hn,t,k,h=>by cases h
 |n+1,c::r,hn,t,k,h=>by
  simp only[List.length_cons]at hn ⊢
  by_cases hc:c=q
  ·subst hc
   cases r with
   |nil=>
    rw[gz (by intro d t h;cases h)]at h
    cases h
    simp
   |cons d r=>
    by_cases hd:d=c
    ·subst hd
     rw[kw]at h
     cases hq:bP d r with
     |none=>rw[hq]at h;cases h
     |some x=>
      rw[hq]at h
      cases h
      simp only[List.length_cons]at hn ⊢
      have:=ku n r (by omega) x.1 x.2 hq
      omega
    ·rw[gz (by intro e t h;cases h;exact hd)]at h
     cases h
     simp
  ·rw[jF hc]at h
   cases hq:bP q r with
   |none=>rw[hq]at h;cases h
   |some x=>
    rw[hq]at h
    cases h
    have:=ku n r (by omega) x.1 x.2 hq
    simp only[List.length_cons]
    omega
theorem mK (l:List UInt8)(q:UInt8):(Lib.index l [q]= -1∧ ∀b∈l,b≠q)∨(∃a r,l=a++q::r∧(∀b∈a,b≠q)∧Lib.index l [q]=(a.length:Int)):=by
 induction l with
 |nil=>exact Or.inl ⟨rfl,by simp⟩
 |cons c l ih=>
  by_cases hc:c=q
  ·subst hc
   refine Or.inr ⟨[],l,rfl,by simp,?_⟩
   simp[Lib.index,List.isPrefixOf]
  ·have hp:([q].isPrefixOf (c::l))=false:=by
    have:(q == c)=false:=by simpa using fun h:q=c=>hc h.symm
    simp[List.isPrefixOf,this]
   rcases ih with⟨h1,h2⟩|⟨a,r,h1,h2,h3⟩
   ·refine Or.inl ⟨?_,?_⟩
    ·simp only[Lib.index,hp,h1];rfl
    ·intro b hb
     rcases List.mem_cons.1 hb with rfl|hb
     ·exact hc
     ·exact h2 b hb
   ·refine Or.inr ⟨c::a,r,by rw[h1];rfl,?_,?_⟩
    ·intro b hb
     rcases List.mem_cons.1 hb with rfl|hb
     ·exact hc
     ·exact h2 b hb
    ·have hne:(Lib.index l [q] == -1)=false:=by rw[h3];simp;try omega
     simp only[Lib.index,hp,hne,h3]
     simp
def dbl:List UInt8→List UInt8
 |[]=>[]
 |c::r=>if c=39 then 39::39::dbl r else c::dbl r
theorem qZ: ∀(a l:List UInt8),(∀b∈a,b≠39)→dbl (a++l)=a++dbl l
 |[],l,_=>rfl
 |c::a,l,h=>by
  rw[List.cons_append,dbl,if_neg (h c List.mem_cons_self),qZ a l (fun b hb=>h b (List.mem_cons_of_mem _ hb))]
  rfl
theorem u9: ∀(l:List UInt8),(dbl l).length≤2*l.length
 |[]=>Nat.le_refl _
 |c::r=>by
  have:=u9 r
  unfold dbl
  split<;>simp only[List.length_cons]<;>omega
theorem qx: ∀(k:Nat) (l:List UInt8),Lib.count l [39]≤k→Lib.replaceK [39] [39,39] k l=dbl l
 |0,l,h=>by
  rcases mK l 39 with⟨h1,h2⟩|⟨a,r,h1,h2,h3⟩
  ·have:=qZ l [] h2
   simp only[List.append_nil,dbl]at this
   rw[this];rfl
  ·exfalso
   have:=Lib.count_hit (sub:=[39]) (by simp) h3
   omega
 |k+1,l,h=>by
  rcases mK l 39 with⟨h1,h2⟩|⟨a,r,h1,h2,h3⟩
  ·have:=qZ l [] h2
   simp only[List.append_nil,dbl]at this
   rw[this,Lib.replaceK,h1];rfl
  ·have hc:=Lib.count_hit (sub:=[39]) (by simp) h3
   rw[Lib.replaceK_hit _ _ _ _ _ h3]
   have hd:l.drop (a.length+([39]:List UInt8).length)=r:=by
    rw[h1,List.length_singleton,←List.drop_drop,List.drop_left' rfl];rfl
   have ht:l.take a.length=a:=by rw[h1,List.take_left' rfl]
   have hc':Lib.count l [39]=1+Lib.count r [39]:=by rw[hc,hd]
   rw[hd,ht,qx k r (by omega),h1,qZ a _ h2,dbl,if_pos rfl]
   simp
theorem vG (l:List UInt8):Lib.replaceAll l [39] [39,39]=dbl l:=by
 unfold Lib.replaceAll Lib.replace Lib.replaceNum
 rw[if_neg (by decide),if_pos (Or.inl (by decide))]
 exact qx _ _ (Nat.le_refl _)
end Go.Abs
set_option linter.unusedVariables false
set_option linter.unusedSimpArgs false
set_option maxRecDepth 100000
namespace Go.Abs
open Go Go.Proofs
def zB:LV:= .cv (.v (.slice none 0 0))
def aB (l:List Tok):List CV:=l.map Tok.cv
def aT (l:List Nat):List CV:=l.map fun(n:Nat)=>CV.int .i64 (n:Int)
def tL (l:List Tok):LV:=if l=[]then zB else .osl (aB l)
def kL (l:List Nat):LV:=if l=[]then zB else .osl (aT l)
def scO (s:List UInt8)(fx:Bool)(out:List Tok)(kept:List Nat):Ob:= .cells [LV.str s,LV.bool fx,tL out,kL kept]
def scM (b:Mu)(s:List UInt8)(fx:Bool)(out:List Tok)(kept:List Nat):Mu:=b++[[scO s fx out kept]]
theorem nt (b:Mu)(o:Ob):aZ (b++[[o]]) b.length 0=o:=by simp[aZ]
theorem nu (b:Mu)(o o':Ob):bN (b++[[o]]) b.length 0 o'=b++[[o']]:=by simp[bN]
section
variable {b:Mu}{s:List UInt8}{fx:Bool}{out:List Tok}{kept:List Nat}
theorem jV:Sc (scM b s fx out kept) b.length 0 s fx [tL out,kL kept]:=nt _ _
theorem HL:fg (tL out)=some (aB out):=by unfold tL;split<;>rename_i h<;>(try subst h)<;>rfl
theorem HK:fg (kL kept)=some (aT kept):=by unfold kL;split<;>rename_i h<;>(try subst h)<;>rfl
theorem Fi:cg (strip (tL out))=some (aB out):=by unfold tL;split<;>rename_i h<;>(try subst h)<;>rfl
theorem Oy {a b c d:LV}:kq E.P 38 (.cells [a,b,c,d]) 3=some (d,.cells [a,b,c,strip d]):=by kernel_rfl
theorem Nw {a b c d:LV}{l:List CV}:bE E.P 38 (.cells [a,b,c,d]) 3 (LV.osl l)=some (.cells [a,b,c,.osl l]):=by kernel_rfl
theorem Ox {a b c d:LV}:kq E.P 32 (.cells [a,b,c,d]) 2=some (c,.cells [a,b,strip c,d]):=by kernel_rfl
theorem Nv {a b c d:LV}{l:List CV}:bE E.P 32 (.cells [a,b,c,d]) 2 (LV.osl l)=some (.cells [a,b,.osl l,d]):=by kernel_rfl
theorem KL {a b c d:LV}:bv E.P 32 (.cells [a,b,c,d]) 2=some (strip c):=by kernel_rfl
theorem nY: ∀(l:List Nat),gc 1 (aT l)=true
 |[]=>rfl
 |a::l=>by
  have e:aT (a::l)=CV.int .i64 (a:Int)::aT l:=rfl
  rw[e]
  simp only[gc]
  have:eH 1 (CV.int .i64 (a:Int))=true:=rfl
  rw[this]
  exact nY l
theorem nZ: ∀(l:List Tok),gc 3 (aB l)=true
 |[]=>rfl
 |a::l=>by
  have e:aB (a::l)=a.cv::aB l:=rfl
  rw[e]
  simp only[gc]
  have:eH 3 a.cv=true:=rfl
  rw[this]
  exact nZ l
theorem mF {n:Nat}: ∀(l:List Nat),bO n (aT l)=true
 |[]=>rfl
 |a::l=>by
  have e:aT (a::l)=CV.int .i64 (a:Int)::aT l:=rfl
  rw[e]
  simp only[bO]
  have:below n (CV.int .i64 (a:Int))=true:=rfl
  rw[this]
  exact mF l
theorem mG {n:Nat}: ∀(l:List Tok),bO n (aB l)=true
 |[]=>rfl
 |a::l=>by
  have e:aB (a::l)=a.cv::aB l:=rfl
  rw[e]
  simp only[bO]
  have:below n a.cv=true:=rfl
  rw[this]
  exact mG l
theorem tE {a c:List Nat}(h:a.length+c.length≤1000000):dQ 1 (aT a) (aT c)=true:=by
 unfold dQ
 rw[nY,nY]
 simp[bf,aT]
 omega
theorem tF {a c:List Tok}(h:a.length+c.length≤1000000):dQ 3 (aB a) (aB c)=true:=by
 unfold dQ
 rw[nZ,nZ]
 simp[bf,aB]
 omega
theorem Mk {n:Nat}:LV.osl (aT kept++[CV.int .i64 (n:Int)])=kL (kept++[n]):=by
 unfold kL
 rw[if_neg (by simp)]
 simp[aT]
theorem Nr {t:Tok}:LV.osl (aB out++[t.cv])=tL (out++[t]):=by
 unfold tL
 rw[if_neg (by simp)]
 simp[aB]
theorem Lv (hs:s.length≤200000): ∀(k a e:Nat) (kept:List Nat),a+k=e→e≤300000→kept.length+k≤600000→
  xK (ev E) b.length 0 (e:Int) (a:Int) (scM b s fx out kept)=some (pN (scM b s fx out (kept++List.range' a k))):=by
 intro k
 induction k with
 |zero=>
  intro a e kept hk he hq
  refine aV ?_
  rw[zj]
  have h1:decide ((a:Int)<(e:Int))=false:=by simp;omega
  rw[h1,cond_false]
  simp
 |succ k ih=>
  intro a e kept hk he hq
  refine aV ?_
  rw[zj]
  have h1:decide ((a:Int)<(e:Int))=true:=by simp;omega
  rw[h1,cond_true]
  unfold scM
  rw[nt]
  unfold scO
  rw[Oy,aa,HK,aa]
  have ha:[CV.int .i64 (a:Int)]=aT [a]:=rfl
  rw[ha,tE (by simp;omega),aA]
  have hb:bO (b.length+1) (aT kept++aT [a])=true:=by
   have:aT kept++aT [a]=aT (kept++[a]):=by simp[aT]
   rw[this];exact mF _
  rw[hb,aA,nu,nt,Nw,aa,nu,ce (by omega) (by omega)]
  have:=ih (a+1) e (kept++[a]) (by omega) he (by simp;omega)
  unfold scM scO at this
  rw[←ha,Mk]
  have e1:((a+1:Nat):Int)=(a:Int)+1:=by omega
  rw[←e1,this]
  simp[List.range'_succ]
theorem Hf (hs:s.length≤200000){a e:Nat}(h:a≤e)(he:e≤300000)(hk:kept.length+(e-a)≤600000):
  (ev E).call 189 [LV.cv (CV.ref b.length 0 0),LV.int .i64 (a:Int),LV.int .i64 (e:Int)] (scM b s fx out kept)=some (.ret (.ltup []) (scM b s fx out (kept++List.range' a (e-a)))):=by
 refine aN ?_
 rw[Oe,Lv hs (e-a) a e kept (by omega) he hk,aa,Bv]
def eF (t:List UInt8):List UInt8:=[39]++dbl t++[39]
theorem KD {t:List UInt8}{μ:Mu}(h:t.length≤200000):(ev E).call 86 [LV.str t] μ=some (.ret (.cv (Tok.cv ⟨1,6,eF t⟩)) μ):=by
 refine aN ?_
 have hd:=u9 t
 rw[Pg,NP (by omega) (by simp) (by simp),ad,ah,aa,vG,bh (by simp;omega),aA,bh (by simp;omega),aA]
 rfl
theorem dD {α:Type}{l:List α}{a e:Nat}(h1:a≤e)(h2:e≤l.length):bZ l (a:Int) (e:Int)=some ((l.drop a).take (e-a)):=by
 unfold bZ
 have:(decide ((0:Int)≤(a:Int))&&decide ((a:Int)≤(e:Int))&&decide ((e:Int)≤(l.length:Int)))=true:=by simp;omega
 rw[this]
 have e1:((a:Int)).toNat=a:=by omega
 have e2:((e:Int) -(a:Int)).toNat=e-a:=by omega
 simp only[e1,e2]
theorem oe {α:Type}{l:List α}{a:Nat}(h1:a≤l.length):bZ l (a:Int) (l.length:Int)=some (l.drop a):=by
 rw[dD h1 (Nat.le_refl _)]
 congr 1
 apply List.take_of_length_le
 simp
noncomputable def yD (b:Mu)(q:Int)(from_ i:Nat)(t:List UInt8)(μ:Mu):Option (List UInt8×Nat)→St
 |none=>md (gf 7) μ
 |some (x,k)=>pM b.length 0 ((i+k:Nat):Int) (from_:Int) (t++x) 0 0 [] μ
theorem wT {c:UInt8}(l:List UInt8):Lib.hasPrefix l [c]=(match l with|[]=>false|d::_=>decide (d=c)):=by
 cases l with
 |nil=>simp[Lib.hasPrefix]
 |cons d r=>
  by_cases h:d=c
  ·subst h;simp[Lib.hasPrefix,List.isPrefixOf]
  ·have:(c == d)=false:=by simpa using fun e:c=d=>h e.symm
   simp[Lib.hasPrefix,List.isPrefixOf,h,this]
noncomputable def sQ (b:Mu)(i:Int)(q:UInt8)(from_:Int)(t:List UInt8)(μ:Mu):List UInt8→St
 |[]=>lT b.length 0 i [q] from_ t 0 0 [] μ
 |d::_=>if d=q then po b.length 0 i [q] from_ (t++[q]) 0 0 [] μ else lT b.length 0 i [q] from_ t 0 0 [] μ
theorem Lu (hs:s.length≤200000){q:UInt8}{from_:Nat}: ∀(k i:Nat) (t:List UInt8),s.length-i≤k→i≤s.length→t.length≤i→
  xJ (ev E) b.length 0 (i:Int) [q] (from_:Int) t 0 0 [] (scM b s fx out kept)=some (yD b 0 from_ i t (scM b s fx out kept) (bP q (s.drop i))):=by
 intro k
 induction k with
 |zero=>
  intro i t hk hi ht
  refine aV ?_
  have h:=jV (b:=b) (s:=s) (fx:=fx) (out:=out) (kept:=kept)
  have hd:s.drop i=[]:=List.drop_eq_nil_of_le (by omega)
  rw[zi,h,eQ,cT,aa,ah,aa,oe hi,aa,hd,Hb (by simp)]
  simp only[ad,ao,aa,ak,am,ah,ae,aj,aA,cond_true,cond_false,Bool.not_true,Bool.not_false,au,ar,aq]
  have hx:Lib.index [] [q]= -1:=rfl
  have hx2:decide ((-1:Int)<0)=true:=by decide
  rw[hx,hx2,cond_true,i8,dJ]
  rfl
 |succ k ih=>
  intro i t hk hi ht
  refine aV ?_
  have h:=jV (b:=b) (s:=s) (fx:=fx) (out:=out) (kept:=kept)
  rw[zi,h,eQ,cT,aa,ah,aa,oe hi,aa,Hb (by simp;omega)]
  simp only[ad,ao,aa,ak,am,ah,ae,aj,aA,cond_true,cond_false,Bool.not_true,Bool.not_false,au,ar,aq]
  rcases mK (s.drop i) q with⟨h1,h2⟩|⟨a,r,h1,h2,h3⟩
  ·have hx2:decide ((-1:Int)<0)=true:=by decide
   rw[h1,hx2,cond_true,i8,dJ,ux _ h2]
   rfl
  ·have hx2:decide ((a.length:Int)<0)=false:=by simp
   have hlen:a.length+1+r.length=s.length-i:=by
    have:(s.drop i).length=(a++q::r).length:=by rw[h1]
    simp only[List.length_drop,List.length_append,List.length_cons]at this
    omega
   have hr:s.drop (i+(a.length+1))=r:=by
    rw[←List.drop_drop,h1]
    have:a++q::r=(a++[q])++r:=by simp
    rw[this,List.drop_left' (by simp)]
   have hta:(s.drop i).take a.length=a:=by rw[h1,List.take_left' rfl]
   rw[h3,hx2,cond_false]
   have hG:xx (ev E) b.length 0 (i:Int) [q] (from_:Int) t (a.length:Int) 0 0 [] (scM b s fx out kept)=
     some (sQ b ((i+(a.length+1):Nat):Int) q (from_:Int) (t++a) (scM b s fx out kept) r):=by
    refine aU ?_
    have w1:IntKind.wrap .i64 ((i:Int)+(a.length:Int))=((i+a.length:Nat):Int):=by rw[ce (by omega) (by omega)];omega
    have w2:IntKind.wrap .i64 ((a.length:Int)+1)=((a.length+1:Nat):Int):=by rw[ce (by omega) (by omega)];omega
    have w3:IntKind.wrap .i64 ((i:Int)+((a.length+1:Nat):Int))=((i+(a.length+1):Nat):Int):=by rw[ce (by omega) (by omega)];omega
    rw[Jc,h,eQ,cT,w1,w2,w3]
    simp only[aa,ah]
    rw[dD (by omega) (by omega),aa]
    have e2:i+a.length-i=a.length:=by omega
    rw[e2,hta,bh (by omega),aA,oe (by omega),aa,hr,Mz,ad,ae,aa,wT]
    have hsm:bf ((t++a).length+[q].length)=true:=bh (by simp;omega)
    cases r with
    |nil=>simp only[Bool.not_false,cond_true,sQ]
    |cons d r'=>
     by_cases hdq:d=q
     ·subst hdq
      simp only[decide_true,Bool.not_true,cond_false,sQ,if_true]
      rw[hsm,aA]
     ·simp only[hdq,decide_false,Bool.not_false,cond_true,sQ,if_false]
   rw[hG,aa,h1,wE a _ h2]
   cases r with
   |nil=>
    rw[gz (by intro d t h;cases h)]
    simp only[sQ]
    rw[rD]
    simp[yD]
   |cons d r'=>
    by_cases hdq:d=q
    ·subst hdq
     simp only[sQ,if_true]
     simp only[List.length_cons]at hlen
     rw[kw,AX,ce (by omega) (by omega)]
     have e1:((i+(a.length+1):Nat):Int)+1=((i+(a.length+2):Nat):Int):=by omega
     have hr2:s.drop (i+(a.length+2))=r':=by
      have:i+(a.length+2)=(i+(a.length+1))+1:=by omega
      rw[this,←List.drop_drop,hr];rfl
     rw[e1,ih (i+(a.length+2)) _ (by omega) (by omega) (by simp;omega),hr2]
     cases bP d r' with
     |none=>rfl
     |some x=>
      simp only[yD,Option.map_some]
      congr 2
      ·omega
      ·simp
    ·simp only[sQ,hdq,if_false]
     rw[gz (by intro e t h;cases h;exact hdq),rD]
     simp[yD]
def dV (s:List UInt8)(n:Nat):Except Int (Tok×Nat):=
 match bP ((s[n]?).getD 0) (s.drop (n+1))with
 |none=> .error 7
 |some (t,k)=>if 60<t.length then .error 8 else .ok (⟨1,6,eF t⟩,n+1+k)
def vA (b:Mu)(s:List UInt8)(fx:Bool)(out:List Tok)(kept:List Nat):Except Int (Tok×Nat×List Nat)→Out
 | .ok q=> .ret (.ltup [.cv q.1.cv,LV.int .i64 (q.2.1:Int)]) (scM b s fx out (kept++q.2.2))
 | .error e=> .panic (gf e) (scM b s fx out kept)
def cr (s:List UInt8)(n:Nat):Except Int (Tok×Nat×List Nat):=
 match dV s n with
 | .ok q=> .ok (q.1,q.2,List.range' n (q.2-n))
 | .error e=> .error e
theorem Mr (hs:s.length≤200000)(hk:kept.length≤200000){n:Nat}(hn:n<s.length):
  (ev E).call 173 [LV.cv (CV.ref b.length 0 0),LV.int .i64 (n:Int)] (scM b s fx out kept)=some (vA b s fx out kept (cr s n)):=by
 refine aN ?_
 have h:=jV (b:=b) (s:=s) (fx:=fx) (out:=out) (kept:=kept)
 rw[Oc,h,eQ,cT,aa,ah,aa,ce (by omega) (by omega)]
 have e1:(n:Int)+1=((n+1:Nat):Int):=by omega
 have e2:n+1-n=1:=by omega
 have hd:s.drop n=s[n]::s.drop (n+1):=List.drop_eq_getElem_cons hn
 rw[e1,dD (by omega) (by omega),aa,e2,hd]
 have e3:List.take 1 (s[n]::s.drop (n+1))=[s[n]]:=rfl
 rw[e3,Lu hs s.length (n+1) [] (by omega) (by omega) (by simp),aa]
 unfold cr dV
 rw[List.getElem?_eq_getElem hn,Option.getD_some]
 cases hq:bP s[n] (s.drop (n+1))with
 |none=>exact Bu _ _ _
 |some x=>
  obtain⟨t,k⟩:=x
  have hl:=ku _ _ (Nat.le_refl _) t k hq
  rw[List.length_drop]at hl
  simp only[yD,List.nil_append]
  rw[Bt]
  by_cases h60:60<t.length
  ·have:decide ((60:Int)<(t.length:Int))=true:=by simp;omega
   rw[this,cond_true,i8,dJ,if_pos h60]
   rfl
  ·have:decide ((60:Int)<(t.length:Int))=false:=by simp;omega
   rw[this,cond_false,if_neg h60]
   have hG:uZ (ev E) b.length 0 ((n+1+k:Nat):Int) (n:Int) t 0 0 [] (scM b s fx out kept)=some (nI ((n+1+k:Nat):Int) 1 6 (eF t) (scM b s fx out (kept++List.range' n (n+1+k-n)))):=by
    refine aU ?_
    rw[Hz,Hf hs (by omega) (by omega) (by omega)]
    simp only[ad,ao,aa,ak,am,ah,ae,aj,aA,cond_true,cond_false,Bool.not_true,Bool.not_false,au,ar,aq]
    rw[KD (by omega),ad,cx]
   rw[hG,aa,zw]
   rfl
end
end Go.Abs
set_option linter.unusedVariables false
set_option linter.unusedSimpArgs false
namespace Go.Proofs.YtfcjjankfjaapaaGreatDoor.Glue
theorem Lm:laidOutB Tryz.prog=true:=by kernel_rfl
end Go.Proofs.YtfcjjankfjaapaaGreatDoor.Glue
namespace Go.Abs.Ga
open Go Go.Proofs
section
variable {P:Program}{t:TypeId}{c:CV}
theorem is_str (ht:jy P t=false)(h:if jy P t=true then ∃ys,c= .agg ys∧IsL [.str] ys else IsL [.str] [c]): ∃s:List UInt8,LV.cv c=LV.str s∧True:=by
 simp only[ht,Bool.false_eq_true,if_false,IsL,Is]at h
 obtain⟨y,r,e,⟨s,rfl,_⟩,_⟩:=h
 injection e with e _
 subst e
 exact⟨s,rfl,trivial⟩
end
end Go.Abs.Ga
set_option linter.unusedVariables false
set_option linter.unusedSimpArgs false
set_option maxRecDepth 100000
namespace Go.Abs
open Go Go.Proofs
section
variable {b:Mu}{s:List UInt8}{fx:Bool}{out:List Tok}{kept:List Nat}
theorem Ok (ρ:Rho)(a:List CV)(b:List UInt8)(μ:Mu):aG E ρ 50 [LV.osl a,LV.str b] μ=
  callK (ρ.call 94 [LV.osl a,LV.str b] μ) (fun v1 μ2=>opt (aH .i64 v1) fun n5=>some (.ret (LV.bool (decide ((0:Int)≤n5))) μ2)) (fun v4 μ3=>ay (below (List.length μ3) v4) (some (.panic v4 μ3))):=by kernel_rfl
theorem Om (ρ:Rho)(a:List CV)(b:List UInt8)(μ:Mu):aG E ρ 94 [LV.osl a,LV.str b] μ=aG E ρ 94 [LV.cv (CV.sl a),LV.str b] μ:=by kernel_rfl
theorem MG {l:List (List UInt8)}{x:List UInt8}{μ:Mu}(hl:l.length≤1000000):(ev E).call 94 [LV.osl (bj l),LV.str x] μ=some (.ret (LV.int .i64 (oq x l 0)) μ):=by
 refine aN ?_
 rw[Om]
 exact Ic hl
theorem MA {l:List (List UInt8)}{x:List UInt8}{μ:Mu}(hl:l.length≤1000000):(ev E).call 50 [LV.osl (bj l),LV.str x] μ=some (.ret (LV.bool (l.contains x)) μ):=by
 refine aN ?_
 rw[Ok,MG hl]
 simp only[ad,ao,aa,ak,am,ah,ae,aj,aA,cond_true,cond_false,Bool.not_true,Bool.not_false,au,ar,aq]
 rw[sR]
def bR (fx:Bool)(s:List UInt8)(n:Nat):Int:=dH (bk fx aw s n)
def dZ (fx:Bool)(s:List UInt8)(n:Nat):UInt8:=atC fx s (runE fx aw s n)
def holE (fx:Bool)(s:List UInt8)(n:Nat):Nat:=atE fx s (runE fx aw s n)
def co (fx:Bool)(s:List UInt8)(n:Nat):Prop:=(bk fx aw s n).length≤2∧1≤bR fx s n∧bR fx s n≤60∧(dZ fx s n=72∨dZ fx s n=104)
instance (fx:Bool)(s:List UInt8)(n:Nat):Decidable (co fx s n):=by unfold co;infer_instance
def jw (fx:Bool)(s:List UInt8)(n:Nat):Except Int (Tok×Nat×List Nat):=
 if s.length<holE fx s n+(bR fx s n).toNat then .error 7
 else .ok (⟨1,6,eF ((s.drop (holE fx s n)).take (bR fx s n).toNat)⟩,holE fx s n+(bR fx s n).toNat,List.range' (holE fx s n) (bR fx s n).toNat)
def JC (b:Mu)(s:List UInt8)(fx:Bool)(out:List Tok)(kept:List Nat):Except Int (Tok×Nat×List Nat)→Out
 | .ok q=> .ret (.ltup [.cv q.1.cv,LV.int .i64 (q.2.1:Int),LV.bool true]) (scM b s fx out (kept++q.2.2))
 | .error e=> .panic (gf e) (scM b s fx out kept)
def On:Tok:=⟨0,0,[]⟩
theorem Mq (hs:s.length≤200000)(hk:kept.length≤200000){n:Nat}(hn:n≤s.length):
  (ev E).call 167 [LV.cv (CV.ref b.length 0 0),LV.int .i64 (n:Int)] (scM b s fx out kept)=some (if co fx s n then JC b s fx out kept (jw fx s n)else .ret (.ltup [.cv On.cv,LV.int .i64 (n:Int),LV.bool false]) (scM b s fx out kept)):=by
 have h:=jV (b:=b) (s:=s) (fx:=fx) (out:=out) (kept:=kept)
 have hr:=iw (fx:=fx) (s:=s) (p:=aw) (n:=n)
 have hle:=fk (fx:=fx) (p:=aw) hn
 have hE:holE fx s n≤s.length:=fa hle
 have e72: ∀c:UInt8,decide ((c.toNat:Int)=72)=decide (c=72):=fun c=>bV (k:=72) (by omega)
 have e104: ∀c:UInt8,decide ((c.toNat:Int)=104)=decide (c=104):=fun c=>bV (k:=104) (by omega)
 refine aN ?_
 rw[N5,nd h (by omega) (fun c=>km) hn]
 simp only[ad,ao,aa,ak,am,ah,ae,aj,aA,cond_true,cond_false,Bool.not_true,Bool.not_false,au,ar,aq]
 rw[gt h (by omega) hle]
 simp only[ad,ao,aa,ak,am,ah,ae,aj,aA,cond_true,cond_false,Bool.not_true,Bool.not_false,au,ar,aq]
 rw[D4 (by omega),sP]
 simp only[ad,ao,aa,ak,am,ah,ae,aj,aA,cond_true,cond_false,Bool.not_true,Bool.not_false,au,ar,aq,jv,e72,e104]
 have hNd:dH (bk fx aw s n)=bR fx s n:=rfl
 have hCd:atC fx s (runE fx aw s n)=dZ fx s n:=rfl
 have hEd:atE fx s (runE fx aw s n)=holE fx s n:=rfl
 rw[hNd,hCd,hEd]
 by_cases h1:2<(bk fx aw s n).length
 ·have:decide ((2:Int)<((bk fx aw s n).length:Int))=true:=by simp;omega
  rw[this,cond_true,if_neg (by unfold co;omega)]
  rfl
 ·have e1:decide ((2:Int)<((bk fx aw s n).length:Int))=false:=by simp;omega
  rw[e1,cond_false]
  by_cases h2:bR fx s n<1
  ·have:decide (bR fx s n<1)=true:=by simp[h2]
   rw[this,cond_true,if_neg (by unfold co;omega)]
   rfl
  ·have e2:decide (bR fx s n<1)=false:=by simp[h2]
   rw[e2,cond_false]
   by_cases h3:60<bR fx s n
   ·have:decide (60<bR fx s n)=true:=by simp[h3]
    rw[this,cond_true,if_neg (by unfold co;omega)]
    rfl
   ·have e3:decide (60<bR fx s n)=false:=by simp[h3]
    rw[e3,cond_false]
    obtain⟨m,hm⟩: ∃m:Nat,bR fx s n=(m:Int):=⟨(bR fx s n).toNat,by omega⟩
    have hG:tq (ev E) b.length 0 (holE fx s n:Nat) (bR fx s n) 0 0 [] (scM b s fx out kept)=some (match jw fx s n with| .ok q=>pi (q.2.1:Int) true q.1.kind q.1.type q.1.text (scM b s fx out (kept++q.2.2))| .error e=>pj (gf e) (scM b s fx out kept)):=by
     refine aU ?_
     have w1:IntKind.wrap .i64 ((holE fx s n:Int)+(m:Int))=((holE fx s n+m:Nat):Int):=by rw[ce (by omega) (by omega)];omega
     have e0:((m:Int)).toNat=m:=by omega
     unfold jw
     rw[I6,h,eQ,cT,hm,w1,e0]
     simp only[ad,ao,aa,ak,am,ah,ae,aj,aA,cond_true,cond_false,Bool.not_true,Bool.not_false,au,ar,aq]
     by_cases h4:s.length<holE fx s n+m
     ·have:decide ((s.length:Int)<((holE fx s n+m:Nat):Int))=true:=by simp;omega
      rw[this,cond_true,i8,dJ,if_pos h4]
     ·have:decide ((s.length:Int)<((holE fx s n+m:Nat):Int))=false:=by simp;omega
      rw[this,cond_false,if_neg h4]
      have hG8:xw (ev E) b.length 0 (holE fx s n:Nat) (m:Int) 0 0 [] (scM b s fx out kept)=some (pk ((holE fx s n+m:Nat):Int) true 1 6 (eF ((s.drop (holE fx s n)).take m)) (scM b s fx out (kept++List.range' (holE fx s n) m))):=by
       refine aU ?_
       have h':=jV (b:=b) (s:=s) (fx:=fx) (out:=out) (kept:=kept++List.range' (holE fx s n) m)
       have e5:holE fx s n+m-holE fx s n=m:=by omega
       rw[I7,w1,Hf hs (by omega) (by omega) (by omega),e5]
       simp only[ad,ao,aa,ak,am,ah,ae,aj,aA,cond_true,cond_false,Bool.not_true,Bool.not_false,au,ar,aq]
       rw[h',eQ,cT]
       simp only[ad,ao,aa,ak,am,ah,ae,aj,aA,cond_true,cond_false,Bool.not_true,Bool.not_false,au,ar,aq]
       rw[dD (by omega) (by omega),aa,e5,KD (by simp;omega),ad,cx]
      rw[hG8,aa,AR]
    have hfin:(opt (tq (ev E) b.length 0 (holE fx s n:Nat) (bR fx s n) 0 0 [] (scM b s fx out kept)) (kB (ev E) 167 lk []))=some (JC b s fx out kept (jw fx s n)):=by
     rw[hG,aa]
     cases jw fx s n with
     |ok q=>exact AP _ _ _ _ _ _ _
     |error e=>exact AQ _ _ _
    by_cases h5:dZ fx s n=72
    ·have:decide (dZ fx s n=72)=true:=by simp[h5]
     rw[this,if_pos ⟨by omega,by omega,by omega,Or.inl h5⟩]
     exact hfin
    ·have e5:decide (dZ fx s n=72)=false:=by simp[h5]
     rw[e5]
     by_cases h6:dZ fx s n=104
     ·have:decide (dZ fx s n=104)=true:=by simp[h6]
      rw[this,if_pos ⟨by omega,by omega,by omega,Or.inr h6⟩]
      exact hfin
     ·have e6:decide (dZ fx s n=104)=false:=by simp[h6]
      rw[e6,if_neg (by unfold co;intro hh;exact hh.2.2.2.elim h5 h6)]
      rfl
def fI (fx:Bool)(out:List Tok):Bool:=fx&&(match out.getLast? with|none=>true|some t=>decide (t.kind=2)&&[[40],[44],[47],[61]].contains t.text)
theorem Mp (ho:out.length≤200000):(ev E).call 166 [LV.cv (CV.ref b.length 0 0)] (scM b s fx out kept)=some (.ret (LV.bool (fI fx out)) (scM b s fx out kept)):=by
 refine aN ?_
 have h:=jV (b:=b) (s:=s) (fx:=fx) (out:=out) (kept:=kept)
 rw[N4,h,tf,oJ]
 simp only[ad,ao,aa,ak,am,ah,ae,aj,aA,cond_true,cond_false,Bool.not_true,Bool.not_false,au,ar,aq]
 cases fx with
 |false=>rfl
 |true=>
  simp only[ad,ao,aa,ak,am,ah,ae,aj,aA,cond_true,cond_false,Bool.not_true,Bool.not_false,au,ar,aq]
  have hlen:(aB out).length=out.length:=by simp[aB]
  have hG:Ft (ev E) b.length 0 (scM b s true out kept)=some (lR (fI true out) (scM b s true out kept)):=by
   refine aU ?_
   rw[I4,h,KL,aa,Fi,aa,hlen]
   by_cases h0:out=[]
   ·subst h0;rfl
   ·have hpos:0<out.length:=by
     cases out with
     |nil=>exact absurd rfl h0
     |cons a r=>simp
    have e0:decide ((out.length:Int)=0)=false:=by simp[h0]
    rw[e0,cond_false]
    have hg:out.getLast?=some (out.getLast h0):=List.getLast?_eq_some_getLast h0
    have hG5:Fu (ev E) b.length 0 (scM b s true out kept)=some (lS (fI true out) (scM b s true out kept)):=by
     refine aU ?_
     rw[I5,h,KL,aa,Fi,aa,aa,Fi,aa,hlen,ce (by omega) (by omega)]
     have e1:(out.length:Int) -1=((out.length-1:Nat):Int):=by omega
     have e2:(aB out)[out.length-1]? =some (out.getLast h0).cv:=by
      unfold aB
      rw[List.getElem?_map,List.getElem?_eq_getElem (by omega),List.getLast_eq_getElem]
      rfl
     rw[e1,c6,e2,aa,cx]
     unfold fI
     rw[hg]
     simp only[Bool.true_and]
     by_cases hk:(out.getLast h0).kind=2
     ·have:decide ((out.getLast h0).kind=2)=true:=by simp[hk]
      rw[this,cond_true]
      have e3:LV.osl [CV.str ([40]:List UInt8),CV.str ([44]:List UInt8),CV.str ([47]:List UInt8),CV.str ([61]:List UInt8)]=LV.osl (bj [[40],[44],[47],[61]]):=rfl
      rw[e3,MA (by simp)]
      simp only[ad,ao,aa,ak,am,ah,ae,aj,aA,cond_true,cond_false,Bool.not_true,Bool.not_false,au,ar,aq,Bool.true_and]
     ·have:decide ((out.getLast h0).kind=2)=false:=by simp[hk]
      rw[this,cond_false,Bool.false_and]
    rw[hG5,aa,AO]
  rw[hG,aa,AN]
def eS (t:List UInt8):Option (List UInt8):=
 if t=[60,61]then some [46,76,69,46]else if t=[62,61]then some [46,71,69,46]else if t=[61,61]then some [46,69,81,46]else if t=[47,61]then some [46,78,69,46]
 else if t=[60]then some [46,76,84,46]else if t=[62]then some [46,71,84,46]else none
def ex (fx:Bool)(s:List UInt8)(n:Nat):Except Int (Tok×Nat):=
 let a:=atC fx s n
 let m:=atE fx s n
 let c:=atC fx s m
 match eS [a,c]with
 |some w=> .ok (⟨2,0,w⟩,atE fx s m)
 |none=>if c≠0∧bX.contains [a,c]then .ok (⟨2,0,[a,c]⟩,atE fx s m)
  else match eS [a]with
   |some w=> .ok (⟨2,0,w⟩,m)
   |none=>if bX.contains [a]then .ok (⟨2,0,[a]⟩,m)else .error 7
end
end Go.Abs
set_option linter.unusedVariables false
set_option linter.unusedSimpArgs false
set_option maxRecDepth 100000
namespace Go.Abs
open Go Go.Proofs
def ksV:List Value:=[Value.string ⟨⟨([60,61]:List UInt8)⟩⟩,Value.string ⟨⟨([62,61]:List UInt8)⟩⟩,Value.string ⟨⟨([61,61]:List UInt8)⟩⟩,Value.string ⟨⟨([47,61]:List UInt8)⟩⟩,Value.string ⟨⟨([60]:List UInt8)⟩⟩,Value.string ⟨⟨([62]:List UInt8)⟩⟩]
def vsV:List CV:=[CV.str ([46,76,69,46]:List UInt8),CV.str ([46,71,69,46]:List UInt8),CV.str ([46,69,81,46]:List UInt8),CV.str ([46,78,69,46]:List UInt8),CV.str ([46,76,84,46]:List UInt8),CV.str ([46,71,84,46]:List UInt8)]
section
variable {b:Mu}{s:List UInt8}{fx:Bool}{out:List Tok}{kept:List Nat}{μ:Mu}
theorem Hg:(ev E).call 196 [] μ=some (.ret (LV.cv (CV.mview ksV vsV)) μ):=aN (by rw[Oj];rfl)
theorem yY {s:S}:rb (LV.cv (CV.mview ksV vsV)) s μ=some (ksV,vsV):=rfl
theorem CS:i6 .string ksV=true:=by decide
theorem tU (t:List UInt8):fi ksV vsV (Value.string ⟨⟨t⟩⟩)=(eS t).map CV.str:=by
 have h: ∀u:List UInt8,ov (Value.string ⟨⟨t⟩⟩) (Value.string ⟨⟨u⟩⟩)=decide (t=u):=fun u=>rfl
 simp only[ksV,vsV,fi,h]
 unfold eS
 by_cases h1:t=[60,61]
 ·simp[h1]
 ·by_cases h2:t=[62,61]
  ·simp[h2]
  ·by_cases h3:t=[61,61]
   ·simp[h3]
   ·by_cases h4:t=[47,61]
    ·simp[h4]
    ·by_cases h5:t=[60]
     ·simp[h5]
     ·by_cases h6:t=[62]
      ·simp[h6]
      ·simp[h1,h2,h3,h4,h5,h6]
theorem Mb {a:UInt8}:bb [CV.int .u8 (a.toNat:Int)]=some [a]:=cu [a]
theorem Mc {a c:UInt8}:bb [CV.int .u8 (a.toNat:Int),CV.int .u8 (c.toNat:Int)]=some [a,c]:=cu [a,c]
theorem H0 {a:UInt8}{m:Nat}{x y:Int}{z:List UInt8}:BS (ev E) (m:Int) [a] x y z μ=some (stT μ kU iR (if bX.contains [a]then .ok (⟨2,0,[a]⟩,m)else .error 7)):=by
 refine aU ?_
 rw[HA,Ks]
 simp only[ad,ao,aa,ak,am,ah,ae,aj,aA,cond_true,cond_false,Bool.not_true,Bool.not_false,au,ar,aq]
 rw[D6 (l:=bX) (by decide)]
 simp only[ad,ao,aa,ak,am,ah,ae,aj,aA,cond_true,cond_false,Bool.not_true,Bool.not_false,au,ar,aq]
 cases bX.contains [a]with
 |true=>rfl
 |false=>rw[Bool.not_false,cond_true,i8,dJ];rfl
def one (a:UInt8)(m:Nat):Except Int (Tok×Nat):=match eS [a]with
   |some w=> .ok (⟨2,0,w⟩,m)
   |none=>if bX.contains [a]then .ok (⟨2,0,[a]⟩,m)else .error 7
theorem zR {a:UInt8}{m:Nat}{x y:Int}{z:List UInt8}:xy (ev E) (a.toNat:Int) (m:Int) x y z μ=some (stT μ j4 j5 (one a m)):=by
 refine aU ?_
 rw[Je,Mb,aa,Hg,ad]
 simp only[ad,ao,aa,ak,am,ah,ae,aj,aA,cond_true,cond_false,Bool.not_true,Bool.not_false,au,ar,aq,jv,yY,CS,tU]
 unfold one
 cases eS [a]with
 |some w=>rfl
 |none=>
  simp only[Option.map_none,optE]
  rw[H0,aa]
  cases bX.contains [a]with
  |true=>exact zx _ _ _ _ _ _
  |false=>exact zy _ _ _
theorem JR {a c:UInt8}{m e:Nat}{x y:Int}{z:List UInt8}:Fy (ev E) (a.toNat:Int) (m:Int) (c.toNat:Int) (e:Int) [a,c] x y z μ=some (stT μ iB gi (if c≠0∧bX.contains [a,c]then .ok (⟨2,0,[a,c]⟩,e)else one a m)):=by
 refine aU ?_
 have hone:kS (ev E) gZ [] [(4,0),(5,0)] (stT μ j4 j5 (one a m))=some (stT μ iB gi (one a m)):=by
  cases one a m with
  |ok q=>exact A0 _ _ _ _ _ _
  |error e=>exact A1 _ _ _
 rw[Jd,mL,zR,aa,hone,Ks]
 simp only[ad,ao,aa,ak,am,ah,ae,aj,aA,cond_true,cond_false,Bool.not_true,Bool.not_false,au,ar,aq]
 rw[D6 (l:=bX) (by decide)]
 simp only[ad,ao,aa,ak,am,ah,ae,aj,aA,cond_true,cond_false,Bool.not_true,Bool.not_false,au,ar,aq]
 by_cases hc:c=0
 ·subst hc;rfl
 ·have h1:(c != 0)=true:=by simp[hc]
  rw[h1]
  simp only[ad,ao,aa,ak,am,ah,ae,aj,aA,cond_true,cond_false,Bool.not_true,Bool.not_false,au,ar,aq,hc,ne_eq,not_false_eq_true,true_and]
  cases bX.contains [a,c]with
  |true=>rfl
  |false=>
   rw[cond_false,zR,aa,hone]
   rfl
theorem Ms {l i:Nat}{r:List LV}(h:Sc μ l i s fx r)(hs:s.length≤200000){n:Nat}(hn:n≤s.length):
  (ev E).call 174 [LV.cv (CV.ref l i 0),LV.int .i64 (n:Int)] μ=some (qt μ (ex fx s n)):=by
 have hle:=fa (fx:=fx) hn
 refine aN ?_
 rw[Od,gt h (by omega) hn]
 simp only[ad,ao,aa,ak,am,ah,ae,aj,aA,cond_true,cond_false,Bool.not_true,Bool.not_false,au,ar,aq]
 rw[gt h (by omega) hle]
 simp only[ad,ao,aa,ak,am,ah,ae,aj,aA,cond_true,cond_false,Bool.not_true,Bool.not_false,au,ar,aq]
 rw[Mc,aa,Hg,ad]
 simp only[ad,ao,aa,ak,am,ah,ae,aj,aA,cond_true,cond_false,Bool.not_true,Bool.not_false,au,ar,aq,jv,yY,CS,tU]
 unfold ex
 simp only
 rw[JR,aa]
 cases eS [atC fx s n,atC fx s (atE fx s n)]with
 |some w=>rfl
 |none=>
  simp only[Option.map_none,optE]
  have: ∀q:Except Int (Tok×Nat),kB (ev E) 174 gZ [] (stT μ iB gi q)=some (qt μ q):=by
   intro q
   cases q with
   |ok q=>exact AY _ _ _ _ _ _
   |error e=>exact AZ _ _ _
  rw[this]
  rfl
def noK:Except Int (Tok×Nat)→Except Int (Tok×Nat×List Nat)
 | .ok q=> .ok (q.1,q.2,[])
 | .error e=> .error e
def eC (w:List UInt8):Tok:=if w=eZ∨w=eq then⟨1,5,w⟩else⟨2,0,w⟩
def bg (fx:Bool)(s:List UInt8)(n:Nat)(c:UInt8):Except Int (Tok×Nat×List Nat):=
 if bo c then(if 31<(bk fx bD s n).length then .error 4 else .ok (⟨0,0,up (bk fx bD s n)⟩,runE fx bD s n,[]))
 else if aw c||(decide (c=46)&&aw (atC fx s (n+1)))then noK (dA fx s n)
 else if c=46 then(if(bI fx s n).2.2 then .ok (eC (bI fx s n).1,(bI fx s n).2.1,[])else .error 7)
 else if c=39∨c=34 then cr s n
 else noK (ex fx s n)
def bx (fx:Bool)(s:List UInt8)(out:List Tok)(n:Nat):Except Int (Tok×Nat×List Nat):=
 if fI fx out&&aw ((s[n]?).getD 0)&&decide (co fx s n)then jw fx s n else bg fx s n ((s[n]?).getD 0)
def stK (b:Mu)(s:List UInt8)(fx:Bool)(out:List Tok)(kept:List Nat):Except Int (Tok×Nat×List Nat)→St
 | .ok q=>ct (q.2.1:Int) q.1.kind q.1.type q.1.text (scM b s fx out (kept++q.2.2))
 | .error e=>bq (gf e) (scM b s fx out kept)
theorem Dm {q:Except Int (Tok×Nat)}:stT (scM b s fx out kept) ct bq q=stK b s fx out kept (noK q):=by
 cases q with
 |ok q=>simp only[stT,noK,stK,List.append_nil]
 |error e=>rfl
theorem HY {w:List UInt8}{e:Nat}{x y:Int}{z:List UInt8}:(opt (iy (ev E) w (e:Int) x y z μ) (kS (ev E) dW [.block 0,.seq (cA 148 [1,1,1,1,1])] [(4,0),(5,0)]))=some (ct (e:Int) (eC w).kind (eC w).type (eC w).text μ):=by
 have:iy (ev E) w (e:Int) x y z μ=some (iQ (e:Int) (eC w).kind (eC w).type (eC w).text μ):=by
  refine aU ?_
  rw[Hs]
  have h3:([46,84,82,85,69,46]:List UInt8)=eZ:=rfl
  have h4:([46,70,65,76,83,69,46]:List UInt8)=eq:=rfl
  rw[h3,h4]
  unfold eC
  by_cases h1:w=eZ
  ·simp[h1]
  ·by_cases h2:w=eq
   ·simp[h2]
   ·simp[h1,h2]
 rw[this,aa,zo]
theorem HZ (hs:s.length≤200000){n:Nat}(hn:n≤s.length){x y:Int}{z:List UInt8}:(opt (mR (ev E) b.length 0 (n:Int) x y z (scM b s fx out kept)) (kS (ev E) dW [] [(4,0),(5,0)]))=some (stK b s fx out kept (noK (ex fx s n))):=by
 have:mR (ev E) b.length 0 (n:Int) x y z (scM b s fx out kept)=some (stT (scM b s fx out kept) nE nF (ex fx s n)):=by
  refine aU ?_
  rw[Ht,Ms jV hs hn]
  cases ex fx s n with
  |ok q=>simp only[qt,ad,ao,aa,ak,am,ah,ae,aj,aA,cond_true,cond_false,Bool.not_true,Bool.not_false,au,ar,aq,cx];rfl
  |error e=>rfl
 rw[this,aa,←Dm]
 cases ex fx s n with
 |ok q=>exact zp _ _ _ _ _ _
 |error e=>exact zq _ _ _
theorem JQ (hs:s.length≤200000)(hk:kept.length≤200000){n:Nat}(hn:n<s.length){x y:Int}{z:List UInt8}:o6 (ev E) b.length 0 (n:Int) (((s[n]?).getD 0).toNat:Int) x y z (scM b s fx out kept)=some (stK b s fx out kept (bg fx s n ((s[n]?).getD 0))):=by
 have h:=jV (b:=b) (s:=s) (fx:=fx) (out:=out) (kept:=kept)
 have e46: ∀c:UInt8,decide ((c.toNat:Int)=46)=decide (c=46):=fun c=>bV (k:=46) (by omega)
 have e39: ∀c:UInt8,decide ((c.toNat:Int)=39)=decide (c=39):=fun c=>bV (k:=39) (by omega)
 have e34: ∀c:UInt8,decide ((c.toNat:Int)=34)=decide (c=34):=fun c=>bV (k:=34) (by omega)
 have w1:IntKind.wrap .i64 ((n:Int)+1)=((n+1:Nat):Int):=by rw[ce (by omega) (by omega)];omega
 have hr:=iw (fx:=fx) (s:=s) (p:=bD) (n:=n)
 obtain⟨c,hc⟩: ∃c,c=(s[n]?).getD 0:=⟨_,rfl⟩
 rw[←hc]
 have hnum: ∀{k1 k2:CV→Mu→Option St},callK (some (qt (scM b s fx out kept) (dA fx s n))) (fun v μ=>opt (aS v) fun xs=>opt (az xs) fun q=>d8 q.1 fun n1 n2 s3=>opt (az q.2) fun q2=>opt (aH .i64 q2.1) fun n4=>opt (aO q2.2) fun u=>some (ct n4 n1 n2 s3 μ)) (fun v μ=>some (bq v μ))=some (stK b s fx out kept (noK (dA fx s n))):=by
  intro k1 k2
  rw[←Dm]
  cases dA fx s n with
  |ok q=>simp only[qt,ad,ao,aa,ak,am,ah,ae,aj,aA,cond_true,cond_false,Bool.not_true,Bool.not_false,au,ar,aq,cx];rfl
  |error e=>rfl
 have hquo:callK (some (vA b s fx out kept (cr s n))) (fun v μ=>opt (aS v) fun xs=>opt (az xs) fun q=>d8 q.1 fun n1 n2 s3=>opt (az q.2) fun q2=>opt (aH .i64 q2.1) fun n4=>opt (aO q2.2) fun u=>some (ct n4 n1 n2 s3 μ)) (fun v μ=>some (bq v μ))=some (stK b s fx out kept (cr s n)):=by
  cases cr s n with
  |ok q=>simp only[vA,ad,ao,aa,ak,am,ah,ae,aj,aA,cond_true,cond_false,Bool.not_true,Bool.not_false,au,ar,aq,cx];rfl
  |error e=>rfl
 refine aU ?_
 rw[I3,w1,gt h (by omega) (by omega)]
 simp only[ad,ao,aa,ak,am,ah,ae,aj,aA,cond_true,cond_false,Bool.not_true,Bool.not_false,au,ar,aq]
 rw[D7]
 simp only[ad,ao,aa,ak,am,ah,ae,aj,aA,cond_true,cond_false,Bool.not_true,Bool.not_false,au,ar,aq]
 unfold bg
 cases hlet:bo c with
 |true=>
  rw[cond_true,nd h (by omega) (fun c=>NR) (by omega)]
  simp only[ad,ao,aa,ak,am,ah,ae,aj,aA,cond_true,cond_false,Bool.not_true,Bool.not_false,au,ar,aq,if_true]
  by_cases h31:31<(bk fx bD s n).length
  ·have:decide ((31:Int)<((bk fx bD s n).length:Int))=true:=by simp;omega
   rw[this,cond_true,i8,dJ,if_pos h31]
   rfl
  ·have:decide ((31:Int)<((bk fx bD s n).length:Int))=false:=by simp;omega
   rw[this,cond_false,KE (by omega),ad,ah,aa,if_neg h31]
   simp only[stK,List.append_nil]
 |false=>
  rw[cond_false,km]
  simp only[ad,ao,aa,ak,am,ah,ae,aj,aA,cond_true,cond_false,Bool.not_true,Bool.not_false,au,ar,aq,Bool.false_eq_true,if_false,e46,e39,e34]
  have hdot: ∀(o:Option St),(decide (c=46)&&aw (atC fx s (n+1)))=false→aw c=false→
    cond (decide (c = 46)) (callK ((ev E).call 172 [LV.cv (CV.ref b.length 0 0), LV.int .i64 (n : Int)] (scM b s fx out kept)) (fun v103 μ104 =>
     opt (aS v103) fun xs107=>
     opt (az xs107) fun q108=>
     opt (aL q108.1) fun s109=>
     opt (az q108.2) fun q110=>
     opt (aH .i64 q110.1) fun n111=>
     opt (az q110.2) fun q112=>
     opt (aP q112.1) fun b113=>
     opt (aO q112.2) fun u114=>
     cond (!b113) (
     callK ((ev E).call 170 [LV.int .i64 (7 : Int)] μ104) (fun v115 μ116 =>
     opt (aS v115) fun xs119=>
     opt (aO xs119) fun u120=>
     opt (iy (ev E) s109 n111 x y z μ116) (kS (ev E) dW [.block 0,.seq (cA 148 [1,1,1,1,1])] [(4,0),(5,0)])) (fun v118 μ117=>
     some (bq v118 μ117))) (
     opt (iy (ev E) s109 n111 x y z μ104) (kS (ev E) dW [.block 0,.seq (cA 148 [1,1,1,1,1])] [(4,0),(5,0)]))) (fun v106 μ105=>
     some (bq v106 μ105))) o=if c=46 then some (stK b s fx out kept (if(bI fx s n).2.2 then .ok (eC (bI fx s n).1,(bI fx s n).2.1,[])else .error 7))else o:=by
   intro o h1 h2
   by_cases h46:c=46
   ·have:decide (c=46)=true:=by simp[h46]
    rw[this,cond_true,He h hs (by omega),if_pos h46]
    simp only[ad,ao,aa,ak,am,ah,ae,aj,aA,cond_true,cond_false,Bool.not_true,Bool.not_false,au,ar,aq]
    cases hd:(bI fx s n).2.2 with
    |true=>
     rw[Bool.not_true,cond_false,HY]
     simp only[if_true,stK,List.append_nil]
    |false=>
     rw[Bool.not_false,cond_true,i8,dJ]
     rfl
   ·have:decide (c=46)=false:=by simp[h46]
    rw[this,cond_false,if_neg h46]
  have htail: ∀(o1:Option St),o1=some (stK b s fx out kept (cr s n))→
    cond (decide (c=39)) o1 (cond (decide (c=34)) o1 (opt (mR (ev E) b.length 0 (n:Int) x y z (scM b s fx out kept)) (kS (ev E) dW [] [(4,0),(5,0)])))=
     some (stK b s fx out kept (if c=39∨c=34 then cr s n else noK (ex fx s n))):=by
   intro o1 ho
   rw[HZ hs (by omega),ho]
   by_cases h1:c=39
   ·simp[h1]
   ·by_cases h2:c=34
    ·simp[h2]
    ·simp[h1,h2]
  cases hdig:aw c with
  |true=>
   rw[cond_true,Hd h hs (by omega)]
   simp only[Bool.true_or,if_true]
   exact hnum (k1:=fun _ _=>none) (k2:=fun _ _=>none)
  |false=>
   rw[cond_false]
   by_cases h46:c=46
   ·have h1:decide (c=46)=true:=by simp[h46]
    rw[h1,cond_true,km]
    simp only[ad,ao,aa,ak,am,ah,ae,aj,aA,cond_true,cond_false,Bool.not_true,Bool.not_false,au,ar,aq,Bool.false_or,Bool.true_and]
    cases hd2:aw (atC fx s (n+1))with
    |true=>
     rw[cond_true,Hd h hs (by omega)]
     simp only[if_true]
     exact hnum (k1:=fun _ _=>none) (k2:=fun _ _=>none)
    |false=>
     have:=hdot none (by rw[hd2];simp) hdig
     rw[h1,cond_true]at this
     simp only[ad,ao,aa,ak,am,ah,ae,aj,aA,cond_true,cond_false,Bool.not_true,Bool.not_false,au,ar,aq,Bool.false_eq_true,if_false]
     rw[this,if_pos h46,if_pos h46]
   ·have h1:decide (c=46)=false:=by simp[h46]
    rw[h1,cond_false,cond_false,Mr hs hk hn]
    simp only[Bool.false_or,Bool.false_and,Bool.false_eq_true,if_false]
    rw[if_neg h46]
    exact htail _ hquo
theorem Hc (hs:s.length≤200000)(hk:kept.length≤200000)(ho:out.length≤200000){n:Nat}(hn:n<s.length):
  (ev E).call 148 [LV.cv (CV.ref b.length 0 0),LV.int .i64 (n:Int)] (scM b s fx out kept)=some (vA b s fx out kept (bx fx s out n)):=by
 have h:=jV (b:=b) (s:=s) (fx:=fx) (out:=out) (kept:=kept)
 have hfin: ∀{x y:Int} {z:List UInt8},(opt (o6 (ev E) b.length 0 (n:Int) (((s[n]?).getD 0).toNat:Int) x y z (scM b s fx out kept)) (kB (ev E) 148 dW []))=some (vA b s fx out kept (bg fx s n ((s[n]?).getD 0))):=by
  intro x y z
  rw[JQ hs hk hn,aa]
  cases bg fx s n ((s[n]?).getD 0)with
  |ok q=>exact AL _ _ _ _ _ _
  |error e=>exact AM _ _ _
 refine aN ?_
 have hg:s[n]? =some ((s[n]?).getD 0):=by rw[List.getElem?_eq_getElem hn,Option.getD_some]
 rw[N3,h,eQ,cT,aa,ah,aa,gC,hg,aa,Mp ho]
 simp only[ad,ao,aa,ak,am,ah,ae,aj,aA,cond_true,cond_false,Bool.not_true,Bool.not_false,au,ar,aq]
 unfold bx
 cases hm:fI fx out with
 |false=>
  rw[cond_false,hfin]
  rfl
 |true=>
  rw[cond_true,km]
  simp only[ad,ao,aa,ak,am,ah,ae,aj,aA,cond_true,cond_false,Bool.not_true,Bool.not_false,au,ar,aq]
  cases hd:aw ((s[n]?).getD 0)with
  |false=>
   rw[cond_false,hfin]
   rfl
  |true=>
   rw[cond_true,Mq hs hk (by omega)]
   by_cases hh:co fx s n
   ·simp only[hh,if_true,Bool.true_and,decide_true]
    cases jw fx s n with
    |ok q=>simp only[JC,ad,ao,aa,ak,am,ah,ae,aj,aA,cond_true,cond_false,Bool.not_true,Bool.not_false,au,ar,aq,cx];rfl
    |error e=>rfl
   ·simp only[hh,if_false,Bool.true_and,decide_false,Bool.false_eq_true]
    simp only[ad,ao,aa,ak,am,ah,ae,aj,aA,cond_true,cond_false,Bool.not_true,Bool.not_false,au,ar,aq,cx]
    exact hfin
end
end Go.Abs
set_option linter.unusedVariables false
set_option linter.unusedSimpArgs false
set_option maxRecDepth 100000
namespace Go.Abs
open Go Go.Proofs
section
variable {b:Mu}{s:List UInt8}{fx:Bool}{out:List Tok}{kept:List Nat}{μ:Mu}
theorem Dl {n:Nat}{c:UInt8}(h:s[n]? =some c)(hc:c≠32):skipN fx s n=n:=by
 unfold skipN
 split
 ·have hn:n<s.length:=by
   rcases Nat.lt_or_ge n s.length with h1|h1
   ·exact h1
   ·rw[List.getElem?_eq_none h1]at h;cases h
  have hd:s.drop n=s[n]::s.drop (n+1):=List.drop_eq_getElem_cons hn
  rw[List.getElem?_eq_getElem hn]at h
  injection h with h
  rw[hd,aK,h,if_neg hc]
  rfl
 ·rfl
theorem cM {n:Nat}{c:UInt8}(h:s[n]? =some c):n<s.length:=by
 rcases Nat.lt_or_ge n s.length with h1|h1
 ·exact h1
 ·rw[List.getElem?_eq_none h1]at h;cases h
theorem e8 {n:Nat}{c:UInt8}(h:s[n]? =some c)(hc:c≠32):atC fx s n=c∧atE fx s n=n+1:=by
 have hn:=cM h
 unfold atC atE
 rw[Dl h hc,h]
 exact⟨rfl,by rw[if_pos hn]⟩
theorem fP {n:Nat}:n≤atE fx s n:=by
 have:=zV (fx:=fx) (s:=s) (n:=n)
 unfold atE
 split<;>omega
theorem gU {p:UInt8→Bool}{n:Nat}:n≤runE fx p s n:=by unfold runE;omega
theorem Dk {p:UInt8→Bool}{n:Nat}{c:UInt8}(h:s[n]? =some c)(hc:c≠32)(h0:c≠0)(hp:p c=true):n+1≤runE fx p s n:=by
 obtain⟨h1,h2⟩:=e8 (fx:=fx) h hc
 have:=(gB (fx:=fx) (s:=s) (p:=p) (n:=n) (by rw[h1,hp];simp[h0])).2
 rw[this,h2]
 exact gU
def uU (s:List UInt8)(n:Nat):Except Int (Tok×Nat×List Nat)→Prop
 | .ok q=>n<q.2.1∧q.2.1≤s.length∧q.2.2.length+n≤q.2.1
 | .error _=>True
theorem IL {n:Nat}(hn:n≤s.length):n≤(aX fx s n).2.2.1∧(aX fx s n).2.2.1≤s.length:=by
 unfold aX
 have hle:=fa (fx:=fx) hn
 have hle2:=fa (fx:=fx) hle
 have hst:expStart fx s n≤s.length:=by unfold expStart;split<;>assumption
 have hst2:n≤expStart fx s n:=by
  have h1:=fP (fx:=fx) (s:=s) (n:=n)
  have h2:=fP (fx:=fx) (s:=s) (n:=atE fx s n)
  unfold expStart;split<;>omega
 split
 ·have h1:=gU (fx:=fx) (s:=s) (p:=aw) (n:=expStart fx s n)
  have h2:=fk (fx:=fx) (p:=aw) hst
  simp only
  omega
 ·simp only;omega
theorem JL {whole part digits:List UInt8}{letter:UInt8}{ok:Bool}{e:Nat}{q:Tok×Nat}(h:fj whole part digits letter ok e= .ok q):q.2=e:=by
 unfold fj at h
 split at h
 ·cases h
 ·injection h with h
  rw[←h]
theorem BC {n:Nat}{c:UInt8}(h:s[n]? =some c)(hc:aw c=true∨c=46):uU s n (noK (dA fx s n)):=by
 have hn:=cM h
 have h32:c≠32:=by
  rintro rfl
  rcases hc with h1|h1
  ·exact absurd h1 (by decide)
  ·exact absurd h1 (by decide)
 have h0:c≠0:=by
  rintro rfl
  rcases hc with h1|h1
  ·exact absurd h1 (by decide)
  ·exact absurd h1 (by decide)
 obtain⟨ha,hb⟩:=e8 (fx:=fx) h h32
 have hle:=fk (fx:=fx) (p:=aw) (Nat.le_of_lt hn)
 have hle2:=fa (fx:=fx) hle
 have hle3:=fk (fx:=fx) (p:=aw) hle2
 have hend:numEnd fx s n≤s.length:=by unfold numEnd;split<;>assumption
 have hgt:n<numEnd fx s n:=by
  have g1:=gU (fx:=fx) (p:=aw) (s:=s) (n:=n)
  have g2:=fP (fx:=fx) (s:=s) (n:=runE fx aw s n)
  have g3:=gU (fx:=fx) (p:=aw) (s:=s) (n:=atE fx s (runE fx aw s n))
  rcases hc with hd|hd
  ·have:=Dk (fx:=fx) h h32 h0 hd
   unfold numEnd;split<;>omega
  ·obtain⟨e1,e2⟩:=fM (fx:=fx) (s:=s) (p:=aw) (n:=n) (by rw[ha,hd];decide)
   have hdot:cB fx s n=true:=by
    unfold cB bS
    rw[e2,ha,e1,hd]
    simp
   unfold numEnd
   rw[if_pos hdot,e2,hb]
   rw[e2,hb]at g3
   omega
 have hx:=IL (fx:=fx) (s:=s) hend
 unfold dA
 simp only
 split
 ·cases de (bS fx s n)with
  |ok t=>exact⟨hgt,hend,by simp;omega⟩
  |error e=>trivial
 ·cases hr:fj (bS fx s n) (dE fx s n) (aX fx s (numEnd fx s n)).2.1 (aX fx s (numEnd fx s n)).1 (aX fx s (numEnd fx s n)).2.2.2 (if(aX fx s (numEnd fx s n)).2.2.2 then(aX fx s (numEnd fx s n)).2.2.1 else numEnd fx s n)with
  |error e=>trivial
  |ok q=>
   have:=JL hr
   refine⟨?_,?_,?_⟩
   ·show n<q.2
    rw[this];split<;>omega
   ·show q.2≤s.length
    rw[this];split<;>omega
   ·show 0+n≤q.2
    rw[this];split<;>omega
theorem rX {n:Nat}(hn:n<s.length):uU s n (cr s n):=by
 unfold cr dV
 cases hq:bP ((s[n]?).getD 0) (s.drop (n+1))with
 |none=>trivial
 |some x=>
  obtain⟨t,k⟩:=x
  have:=ku _ _ (Nat.le_refl _) t k hq
  rw[List.length_drop]at this
  simp only
  split
  ·rename_i q heq
   split at heq
   ·cases heq
   ·injection heq with heq
    subst heq
    refine⟨?_,?_,?_⟩
    ·show n<n+1+k
     omega
    ·show n+1+k≤s.length
     omega
    ·show (List.range' n (n+1+k-n)).length+n≤n+1+k
     simp;omega
  ·trivial
theorem LQ {n:Nat}{c:UInt8}(h:s[n]? =some c)(hc:c≠32):uU s n (noK (ex fx s n)):=by
 have hn:=cM h
 obtain⟨ha,hb⟩:=e8 (fx:=fx) h hc
 have g1:=fP (fx:=fx) (s:=s) (n:=n+1)
 have g2:=fa (fx:=fx) (s:=s) (n:=n+1) hn
 unfold ex
 simp only[hb]
 split
 ·exact⟨by show n<atE fx s (n+1);omega,g2,by show 0+n≤atE fx s (n+1);omega⟩
 ·split
  ·exact⟨by show n<atE fx s (n+1);omega,g2,by show 0+n≤atE fx s (n+1);omega⟩
  ·split
   ·exact⟨by show n<n+1;omega,hn,by show 0+n≤n+1;omega⟩
   ·split
    ·exact⟨by show n<n+1;omega,hn,by show 0+n≤n+1;omega⟩
    ·trivial
theorem dL {n:Nat}{c:UInt8}(h:s[n]? =some c)(hc:c≠32):uU s n (bx fx s out n):=by
 have hn:=cM h
 obtain⟨ha,hb⟩:=e8 (fx:=fx) h hc
 unfold bx
 rw[h,Option.getD_some]
 split
 ·rename_i hh
  simp only[Bool.and_eq_true,decide_eq_true_eq]at hh
  obtain⟨_,hN⟩:=hh
  unfold jw
  split
  ·trivial
  ·rename_i hlen
   have g1:=gU (fx:=fx) (p:=aw) (s:=s) (n:=n)
   have g2:=fP (fx:=fx) (s:=s) (n:=runE fx aw s n)
   have g3:runE fx aw s n≤holE fx s n:=g2
   have g4:=hN.2.1
   refine⟨?_,?_,?_⟩
   ·show n<holE fx s n+(bR fx s n).toNat
    omega
   ·show holE fx s n+(bR fx s n).toNat≤s.length
    omega
   ·show (List.range' (holE fx s n) (bR fx s n).toNat).length+n≤holE fx s n+(bR fx s n).toNat
    simp;omega
 ·unfold bg
  split
  ·rename_i hl
   have h0:c≠0:=by rintro rfl;exact absurd hl (by decide)
   have hp:bD c=true:=by unfold bD;rw[hl];rfl
   have g1:=Dk (fx:=fx) h hc h0 hp
   have g2:=fk (fx:=fx) (p:=bD) (Nat.le_of_lt hn)
   split
   ·trivial
   ·exact⟨by show n<runE fx bD s n;omega,g2,by show 0+n≤runE fx bD s n;omega⟩
  ·split
   ·rename_i hd
    refine BC h ?_
    rw[Bool.or_eq_true,Bool.and_eq_true,decide_eq_true_eq]at hd
    rcases hd with hd|hd
    ·exact Or.inl hd
    ·exact Or.inr hd.1
   ·split
    ·rename_i h46
     subst h46
     split
     ·have e:bI fx s n=(cF fx s n,dotEnd fx s n,gM fx s n):=by unfold bI;rw[if_pos ha]
      rw[e]
      have g1:=gU (fx:=fx) (p:=bo) (s:=s) (n:=atE fx s n)
      have g2:=fP (fx:=fx) (s:=s) (n:=runE fx bo s (atE fx s n))
      have g3:=fa (fx:=fx) (Nat.le_of_lt hn)
      have g4:=fk (fx:=fx) (p:=bo) g3
      have g5:=fa (fx:=fx) g4
      have g6:runE fx bo s (atE fx s n)≤dotEnd fx s n:=g2
      rw[hb]at g1 g6
      exact⟨by show n<dotEnd fx s n;omega,g5,by show 0+n≤dotEnd fx s n;omega⟩
     ·trivial
    ·split
     ·exact rX hn
     ·exact LQ h hc
def bG (fx:Bool)(s:List UInt8):Nat→Nat→List Tok→List Nat→Option (Nat×Int)×List Tok×List Nat
 |0,_,out,kept=>(none,out,kept)
 |k+1,n,out,kept=>
  if s.length≤n+aK (s.drop n)then(none,out,kept)
  else match bx fx s out (n+aK (s.drop n))with
   | .error e=>(some (n+aK (s.drop n),e),out,kept)
   | .ok q=>bG fx s k q.2.1 (out++[q.1]) (kept++q.2.2)
def IJ (b:Mu)(s:List UInt8)(fx:Bool):Option (Nat×Int)×List Tok×List Nat→St
 |(none,out,kept)=>pI 0 0 (scM b s fx out kept)
 |(some (n,e),out,kept)=>pJ (gf e) (n:Int) 0 (scM b s fx out kept)
theorem IW {l i:Nat}{r:List LV}(h:Sc μ l i s fx r)(hs:s.length≤1000000): ∀(k n:Nat),n+k=s.length→u1 (ev E) l i (n:Int) 0 μ=some (kV l i ((n+aK (s.drop n):Nat):Int) 0 μ):=by
 intro k
 induction k with
 |zero=>
  intro n hk
  refine aV ?_
  rw[wx,h]
  simp only[aa,eQ,cT,ah]
  have:List.drop n s=[]:=List.drop_eq_nil_of_le (by omega)
  have h1:decide ((n:Int)<(s.length:Int))=false:=by simp;omega
  rw[h1,this]
  simp[aK]
 |succ k ih=>
  intro n hk
  refine aV ?_
  rw[wx,h]
  simp only[aa,eQ,cT,ah]
  have h1:decide ((n:Int)<(s.length:Int))=true:=by simp;omega
  have hn:n<s.length:=by omega
  rw[h1,gC,List.getElem?_eq_getElem hn,aa]
  have hd:List.drop n s=s[n]::List.drop (n+1) s:=List.drop_eq_getElem_cons hn
  have e:IntKind.wrap .i64 ((n:Int)+1)=((n+1:Nat):Int):=by rw[ce (by omega) (by omega)];omega
  have e32: ∀c:UInt8,decide ((c.toNat:Int)=32)=decide (c=32):=fun c=>bV (k:=32) (by omega)
  rw[e,ih (n+1) (by omega),e32,hd,aK]
  by_cases hc:s[n]=32
  ·simp only[hc,decide_true,cond_true,if_true]
   congr 2
   omega
  ·simp only[hc,decide_false,cond_false,cond_true,if_false]
   rfl
theorem gK {n:Nat}(h:n+aK (s.drop n)<s.length): ∃c,s[n+aK (s.drop n)]? =some c∧c≠32:=by
 refine⟨s[n+aK (s.drop n)],List.getElem?_eq_getElem h,?_⟩
 have hd:=List.drop_eq_getElem_cons h
 refine jO (s.drop n) _ (s.drop (n+aK (s.drop n)+1)) ?_
 rw[List.drop_drop]
 exact hd
theorem Lp (hs:s.length≤200000): ∀(k n:Nat) (out:List Tok) (kept:List Nat),s.length<n+k→n≤s.length→out.length≤n→kept.length≤n→
  xF (ev E) b.length 0 (n:Int) 0 (scM b s fx out kept)=some (IJ b s fx (bG fx s k n out kept)):=by
 intro k
 induction k with
 |zero=>intro n out kept hk hn ho hq;omega
 |succ k ih=>
  intro n out kept hk hn ho hq
  have h:=jV (b:=b) (s:=s) (fx:=fx) (out:=out) (kept:=kept)
  have hb:=iF (s.drop n)
  rw[List.length_drop]at hb
  refine aV ?_
  rw[Jz,IW h (by omega) (s.length-n) n (by omega),aa,zA,h,eQ,cT,aa,ah,aa]
  unfold bG
  by_cases hm:s.length≤n+aK (s.drop n)
  ·have:decide ((s.length:Int)≤((n+aK (s.drop n):Nat):Int))=true:=by simp;omega
   rw[this,cond_true,if_pos hm]
   rfl
  ·have:decide ((s.length:Int)≤((n+aK (s.drop n):Nat):Int))=false:=by simp;omega
   rw[this,cond_false,if_neg hm]
   obtain⟨c,hc1,hc2⟩:=gK (s:=s) (n:=n) (by omega)
   have hf:=dL (fx:=fx) (out:=out) hc1 hc2
   obtain⟨m,hmd⟩: ∃m,m=n+aK (s.drop n):=⟨_,rfl⟩
   rw[←hmd]at hm hf ⊢
   cases ht:bx fx s out m with
   |error e=>
    have hG:xv (ev E) b.length 0 (m:Int) 0 (scM b s fx out kept)=some (ph (gf e) (m:Int) 0 (scM b s fx out kept)):=by
     refine aU ?_
     rw[za,Hc hs (by omega) (by omega) (by omega),ht]
     rfl
    rw[hG,aa,AK]
    rfl
   |ok q=>
    rw[ht]at hf
    obtain⟨f1,f2,f3⟩:=hf
    have hG:xv (ev E) b.length 0 (m:Int) 0 (scM b s fx out kept)=some (pg b.length 0 (q.2.1:Int) 0 (scM b s fx (out++[q.1]) (kept++q.2.2))):=by
     refine aU ?_
     rw[za,Hc hs (by omega) (by omega) (by omega),ht]
     simp only[vA,ad,ao,aa,ak,am,ah,ae,aj,aA,cond_true,cond_false,Bool.not_true,Bool.not_false,au,ar,aq,cx]
     unfold scM
     rw[nt]
     unfold scO
     rw[Ox,aa,HL,aa]
     have ha:[CV.agg [CV.int .i64 q.1.kind,CV.int .i64 q.1.type,CV.str q.1.text]]=aB [q.1]:=rfl
     have hc:CV.agg [CV.int .i64 q.1.kind,CV.int .i64 q.1.type,CV.str q.1.text]=q.1.cv:=rfl
     rw[ha,tF (by simp;omega),aA]
     have hbl:bO (b.length+1) (aB out++aB [q.1])=true:=by
      have:aB out++aB [q.1]=aB (out++[q.1]):=by simp[aB]
      rw[this];exact mG _
     rw[hbl,aA,nu,nt,Nv,aa,nu]
     have e2:aB [q.1]=[q.1.cv]:=rfl
     rw[e2,Nr]
    rw[hG,aa,AJ,ih q.2.1 _ _ (by omega) f2 (by simp;omega) (by simp;omega)]
theorem vE (b:Mu)(x:Lam):gR (b++[x])=some (b,x):=by simp[gR]
theorem Ij {e:Int}:bE E.P 25 (.cells [LV.int .i64 (0:Int)]) 0 (LV.int .i64 e)=some (.cells [LV.int .i64 e]):=by kernel_rfl
theorem zL {e:Int}:bv E.P 25 (aF [Ob.cells [LV.int .i64 e]] 0) 0=some (LV.int .i64 e):=by kernel_rfl
def bU:Option (Nat×Int)→Nat×Int
 |none=>(0,0)
 |some q=>q
theorem Mn (hs:s.length≤200000){r:Option (Nat×Int)×List Tok×List Nat}(hr:bG fx s (s.length+1) 0 [] []=r):
  (ev E).call 118 [LV.cv (CV.ref b.length 0 0)] (scM b s fx [] [])=some (.ret (.ltup [LV.int .i64 ((bU r.1).1:Int),LV.int .i64 (bU r.1).2]) (scM b s fx r.2.1 r.2.2)):=by
 refine aN ?_
 have hl:=Lp (b:=b) (fx:=fx) hs (s.length+1) 0 [] [] (by omega) (by omega) (by simp) (by simp)
 have e0:((0:Nat):Int)=0:=rfl
 rw[hr,e0]at hl
 rw[NX,hl,aa]
 obtain⟨x,o,q⟩:=r
 cases x with
 |none=>
  simp only[IJ]
  have hd:(ev E).dcall 147 none [LV.cv (CV.ref (scM b s fx o q).length 0 0)] (scM b s fx o q++[[Ob.cells [LV.int .i64 0]]])=some (scM b s fx o q++[[Ob.cells [LV.int .i64 0]]]):=yH (by rw[Lz])
  rw[Bm,hd,aa,vE,aa]
  simp only[zL,aa,bU]
  rfl
 |some w=>
  obtain⟨n,e⟩:=w
  simp only[IJ]
  have hd:(ev E).dcall 147 (some (gf e)) [LV.cv (CV.ref (scM b s fx o q).length 0 0)] (scM b s fx o q++[[Ob.cells [LV.int .i64 0]]])=some (scM b s fx o q++[[Ob.cells [LV.int .i64 e]]]):=by
   refine yH ?_
   unfold gf
   rw[LA,nt,Ij,aa,nu]
  rw[Bn,hd,aa,vE,aa]
  simp only[zL,aa,bU]
  rfl
def ek (s:List UInt8):Bool:= !(s.any fun b=>decide (b.toNat<32)||decide (126<b.toNat))
def bW (s:List UInt8):Int:=if 1320<s.length then 8 else if ek s then 0 else 3
theorem NH {g:FuncId}{p:UInt8→Bool}(hg:kA g=some p):(ev E).call 43 [LV.str s,LV.cv (CV.clo g [])] μ=some (.ret (LV.bool (s.any p)) μ):=by
 refine eh (g:=fR kA) (by kernel_rfl) ?_
 simp only[fR,ak,aa,aj,ah,hg]
theorem NQ:(ev E).call 85 [LV.str s] μ=some (.ret (LV.bool (ek s)) μ):=by
 refine aN ?_
 rw[Pf,NH (g:=122) rfl]
 simp only[ad,ao,aa,ak,am,ah,ae,aj,aA,cond_true,cond_false,Bool.not_true,Bool.not_false,au,ar,aq]
 rfl
theorem Mm:(ev E).call 117 [LV.str s] μ=some (.ret (LV.int .i64 (bW s)) μ):=by
 refine aN ?_
 rw[NW,NQ]
 simp only[ad,ao,aa,ak,am,ah,ae,aj,aA,cond_true,cond_false,Bool.not_true,Bool.not_false,au,ar,aq]
 unfold bW
 by_cases h:1320<s.length
 ·have:decide ((1320:Int)<(s.length:Int))=true:=by simp;omega
  rw[this,if_pos h]
  rfl
 ·have:decide ((1320:Int)<(s.length:Int))=false:=by simp;omega
  rw[this,if_neg h]
  cases ek s<;>rfl
structure Scan where
 toks:List Tok
 kept:List Nat
 n:Nat
 e:Int
def a6 (fx:Bool)(s:List UInt8):Scan:=
 if bW s=0 then
  let r:=bG fx s (s.length+1) 0 [] []
  if(bU r.1).2=0 then(if 300<r.2.1.length then⟨r.2.1,r.2.2,0,8⟩else⟨r.2.1,r.2.2,r.2.1.length,0⟩)else⟨r.2.1,r.2.2,(bU r.1).1,(bU r.1).2⟩
 else⟨[],[],0,bW s⟩
def mw (fx:Bool)(s:List UInt8):List CV:=if bW s=0 then [CV.str s,CV.bool fx,CV.sl (aB (a6 fx s).toks),CV.sl (aT (a6 fx s).kept)]else [CV.str s,CV.bool fx,CV.v (.slice none 0 0),CV.v (.slice none 0 0)]
theorem M8 {α:Type}{k:Lam→Option α}:EZ [(0,[0,0,1,1])] [scO s fx out kept] k=k [.cells [LV.str s,LV.bool fx,.osl (aB out),.osl (aT kept)]]:=by
 have h1:=HL (out:=out)
 have h2:=HK (kept:=kept)
 unfold scO
 simp only[EZ,aF,List.getElem?_cons_zero,fb,xb,h1,h2,aa,List.set_cons_zero]
theorem L9 {n:Nat}:below n (CV.view [CV.str s,CV.bool fx,CV.sl (aB out),CV.sl (aT kept)])=true:=by
 simp only[below,bO]
 rw[mG,mF]
theorem KA (hs:s.length≤200000):(ev E).call 78 [LV.str s,LV.bool fx] μ=some (.ret (.ltup [LV.cv (CV.view (mw fx s)),LV.int .i64 ((a6 fx s).n:Int),LV.int .i64 (a6 fx s).e]) μ):=by
 refine aN ?_
 rw[Pc,Mm]
 simp only[ad,ao,aa,ak,am,ah,ae,aj,aA,cond_true,cond_false,Bool.not_true,Bool.not_false,au,ar,aq]
 by_cases ht:bW s=0
 ·have:decide (bW s=0)=true:=by simp[ht]
  rw[this,Bool.not_true,cond_false]
  obtain⟨r,hr⟩: ∃r,bG fx s (s.length+1) 0 [] []=r:=⟨_,rfl⟩
  have hsc:a6 fx s=if(bU r.1).2=0 then(if 300<r.2.1.length then⟨r.2.1,r.2.2,0,8⟩else⟨r.2.1,r.2.2,r.2.1.length,0⟩)else⟨r.2.1,r.2.2,(bU r.1).1,(bU r.1).2⟩:=by
   unfold a6;rw[if_pos ht,hr]
  have htk:(a6 fx s).toks=r.2.1∧(a6 fx s).kept=r.2.2:=by
   rw[hsc];split
   ·split<;>exact⟨rfl,rfl⟩
   ·exact⟨rfl,rfl⟩
  have hC:mw fx s=[CV.str s,CV.bool fx,CV.sl (aB r.2.1),CV.sl (aT r.2.2)]:=by unfold mw;rw[if_pos ht,htk.1,htk.2]
  have hl:=Mn (b:=μ) (fx:=fx) hs hr
  have hlen:(aB r.2.1).length=r.2.1.length:=by simp[aB]
  have h5:Kd (ev E) s fx μ=some (if(bU r.1).2=0∧ ¬300<r.2.1.length then so s fx (aB r.2.1) (aT r.2.2) ((a6 fx s).n:Int) (a6 fx s).e .dead μ else nO s fx (aB r.2.1) (aT r.2.2) ((a6 fx s).n:Int) (a6 fx s).e μ):=by
   refine aU ?_
   have e0:μ++[[Ob.cells [LV.str s,LV.bool fx,LV.cv (CV.v (.slice none 0 0)),LV.cv (CV.v (.slice none 0 0))]]]=scM μ s fx [] []:=rfl
   rw[LI,e0,hl]
   simp only[ad,ao,aa,ak,am,ah,ae,aj,aA,cond_true,cond_false,Bool.not_true,Bool.not_false,au,ar,aq]
   unfold scM
   rw[vE,aa,M8]
   by_cases he:(bU r.1).2=0
   ·have h6:Ds (ev E) ((bU r.1).1:Int) (bU r.1).2 [.cells [LV.str s,LV.bool fx,.osl (aB r.2.1),.osl (aT r.2.2)]] μ=some (su s fx (aB r.2.1) (aT r.2.2) μ):=by
     refine aU ?_
     have:decide ((bU r.1).2=0)=true:=by simp[he]
     rw[CY,this]
     rfl
    rw[h6,aa,Ev]
    rw[hsc,if_pos he]
    by_cases h3:300<r.2.1.length
    ·have h8:Dt (ev E) [.cells [LV.str s,LV.bool fx,.osl (aB r.2.1),.osl (aT r.2.2)]] μ=some (sv s fx (aB r.2.1) (aT r.2.2) 0 8 μ):=by
      refine aU ?_
      have:decide ((300:Int)<((aB r.2.1).length:Int))=true:=by rw[hlen];simp;omega
      rw[CZ,this]
      rfl
     rw[h8,aa,Ew,if_pos h3,if_neg (by simp[h3])]
     rfl
    ·have h8:Dt (ev E) [.cells [LV.str s,LV.bool fx,.osl (aB r.2.1),.osl (aT r.2.2)]] μ=some (sw s fx (aB r.2.1) (aT r.2.2) (r.2.1.length:Int) 0 .dead μ):=by
      refine aU ?_
      have:decide ((300:Int)<((aB r.2.1).length:Int))=false:=by rw[hlen];simp;omega
      have h10:FE (ev E) s fx (aB r.2.1) (aT r.2.2) [Ob.dead] μ=some (pE s fx (aB r.2.1) (aT r.2.2) (r.2.1.length:Int) 0 .dead μ):=by
       refine aU ?_
       rw[Jo,hlen]
      rw[CZ,this,cond_false,h10,aa,Bh]
     rw[h8,aa,Ex,if_neg h3,if_pos ⟨he,h3⟩]
   ·have h6:Ds (ev E) ((bU r.1).1:Int) (bU r.1).2 [.cells [LV.str s,LV.bool fx,.osl (aB r.2.1),.osl (aT r.2.2)]] μ=some (ss s fx (aB r.2.1) (aT r.2.2) ((bU r.1).1:Int) (bU r.1).2 μ):=by
     refine aU ?_
     have:decide ((bU r.1).2=0)=false:=by simp[he]
     rw[CY,this]
     rfl
    rw[h6,aa,Eu,hsc,if_neg he,if_neg (by simp[he])]
  rw[h5,aa]
  have:eU μ.length (LV.ltup [LV.cv (CV.view [CV.str s,CV.bool fx,CV.sl (aB r.2.1),CV.sl (aT r.2.2)]),LV.int .i64 ((a6 fx s).n:Int),LV.int .i64 (a6 fx s).e])=true:=by
   simp only[eU,List.all_cons,kf,L9]
   rfl
  split
  ·rw[Et,this,aA,hC]
  ·rw[Es,this,aA,hC]
 ·have:decide (bW s=0)=false:=by simp[ht]
  have hC:mw fx s=[CV.str s,CV.bool fx,CV.v (.slice none 0 0),CV.v (.slice none 0 0)]:=by unfold mw;rw[if_neg ht]
  have hsc:a6 fx s=⟨[],[],0,bW s⟩:=by unfold a6;rw[if_neg ht]
  rw[this,Bool.not_false,cond_true,hC,hsc]
  rfl
def bB (fx:Bool)(s:List UInt8):List Tok:=if(a6 fx s).e=0 then(a6 fx s).toks else []
theorem vH (h:(a6 fx s).e=0):bW s=0∧(a6 fx s).n=(a6 fx s).toks.length∧mw fx s=[CV.str s,CV.bool fx,CV.sl (aB (a6 fx s).toks),CV.sl (aT (a6 fx s).kept)]:=by
 by_cases ht:bW s=0
 ·refine⟨ht,?_,by unfold mw;rw[if_pos ht]⟩
  unfold a6 at h ⊢
  rw[if_pos ht]at h ⊢
  simp only at h ⊢
  by_cases he:(bU (bG fx s (s.length+1) 0 [] []).1).2=0
  ·rw[if_pos he]at h ⊢
   by_cases h3:300<(bG fx s (s.length+1) 0 [] []).2.1.length
   ·rw[if_pos h3]at h;exact absurd h (by simp)
   ·rw[if_neg h3]
  ·rw[if_neg he]at h
   exact absurd h he
 ·unfold a6 at h
  rw[if_neg ht]at h
  exact absurd h ht
theorem t7 {l:List CV}:lA (LV.cv (CV.view l))=some false:=rfl
theorem wi {l:List CV}:iI (LV.cv (ny (CV.view l)))=some l:=rfl
theorem yN {t:List UInt8}:aL (LV.cv (CV.str t))=some t:=rfl
theorem wg {t:Bool}:aP (LV.cv (CV.bool t))=some t:=rfl
theorem NK (hs:s.length≤200000):(ev E).call 57 [LV.str s,LV.bool fx] μ=some (.ret (.ltup [if(a6 fx s).e=0 then LV.cv (CV.sl (aB (a6 fx s).toks))else zB,LV.int .i64 ((a6 fx s).n:Int),LV.int .i64 (a6 fx s).e]) μ):=by
 refine aN ?_
 rw[O7,KA hs]
 simp only[ad,ao,aa,ak,am,ah,ae,aj,aA,cond_true,cond_false,Bool.not_true,Bool.not_false,au,ar,aq,jv]
 by_cases he:(a6 fx s).e=0
 ·have h1:decide ((a6 fx s).e=0)=true:=by simp[he]
  obtain⟨_,_,hC⟩:=vH he
  have hG:J9 (ev E) (CV.view (mw fx s)) ((a6 fx s).n:Int) μ=some (sk (aB (a6 fx s).toks) ((a6 fx s).n:Int) 0 μ):=by
   refine aU ?_
   rw[LE,t7,aa,Bool.not_false,aA,wi,aa,hC]
   simp only[ad,ao,aa,ak,am,ah,ae,aj,aA,cond_true,cond_false,Bool.not_true,Bool.not_false,au,ar,aq,yN,wg]
  rw[h1,Bool.not_true,cond_false,hG,aa,En,he]
  simp
 ·have h1:decide ((a6 fx s).e=0)=false:=by simp[he]
  rw[h1,Bool.not_false,cond_true,if_neg he]
  rfl
theorem Kq (hs:s.length≤200000):(ev E).call 24 [LV.str s] μ=some (.ret (.ltup [LV.cv (CV.sl (aB (bB true s))),LV.int .i64 ((a6 true s).n:Int),LV.int .i64 (a6 true s).e]) μ):=by
 refine aN ?_
 rw[OU,NK hs]
 unfold bB
 by_cases he:(a6 true s).e=0
 ·rw[if_pos he,if_pos he];rfl
 ·rw[if_neg he,if_neg he];rfl
end
end Go.Abs
set_option linter.unusedVariables false
set_option linter.unusedSimpArgs false
namespace Go.Abs
open Go
def Fk (a:Nat)(c:UInt8):Nat:=a*10+(c.toNat-48)
def valD (acc:Nat)(l:List UInt8):Nat:=l.foldl Fk acc
theorem jK (acc:Nat):valD acc []=acc:=rfl
theorem Ih (c:UInt8)(r:List UInt8)(acc:Nat):valD acc (c::r)=valD (Fk acc c) r:=by unfold valD;rw[List.foldl_cons]
theorem dv (c:UInt8)(r:List UInt8)(acc:Nat):valD acc (c::r)=valD (acc*10+(c.toNat-48)) r:=by rw[Ih];unfold Fk;exact Eq.refl _
theorem ed {c:UInt8}:aw c=true↔48≤c.toNat∧c.toNat≤57:=by
 unfold aw
 rw[Bool.and_eq_true,decide_eq_true_eq,decide_eq_true_eq]
theorem J3 (c:UInt8)(l:List UInt8): ∀(acc:Nat),valD acc (l++[c])=valD acc l*10+(c.toNat-48):=by
 induction l with
 |nil=>intro acc;rw[List.nil_append,dv,jK,jK]
 |cons d r ih=>intro acc;rw[List.cons_append,dv,dv,ih]
theorem eY: ∀(l:List UInt8) (acc:Nat),(∀b∈l,aw b=true)→acc*10^l.length≤valD acc l∧valD acc l<(acc+1)*10^l.length
 |[],acc,_=>by rw[jK,List.length_nil,Nat.pow_zero];omega
 |c::r,acc,h=>by
  have hc:=ed.1 (h c List.mem_cons_self)
  obtain⟨h1,h2⟩:=eY r (acc*10+(c.toNat-48)) (fun b hb=>h b (List.mem_cons_of_mem _ hb))
  rw[dv];simp only[List.length_cons,Nat.pow_succ]
  have e1:acc*(10^r.length*10)=(acc*10)*10^r.length:=by rw[Nat.mul_comm (10^r.length) 10,Nat.mul_assoc]
  have e2:(acc+1)*(10^r.length*10)=((acc+1)*10)*10^r.length:=by rw[Nat.mul_comm (10^r.length) 10,Nat.mul_assoc]
  rw[e1,e2]
  refine⟨Nat.le_trans (Nat.mul_le_mul_right _ (by omega)) h1,Nat.lt_of_lt_of_le h2 (Nat.mul_le_mul_right _ (by omega))⟩
theorem rp: ∀(l:List UInt8) (acc:Nat),valD acc l=acc*10^l.length+valD 0 l
 |[],acc=>by simp[jK]
 |c::r,acc=>by
  rw[dv];simp only[List.length_cons,Nat.pow_succ]
  rw[dv c r 0,rp r (acc*10+(c.toNat-48)),rp r (0*10+(c.toNat-48)),Nat.add_mul,Nat.zero_mul,Nat.zero_add,Nat.add_assoc]
  congr 1
  rw[Nat.mul_comm (10^r.length) 10,Nat.mul_assoc]
theorem qu: ∀(l:List UInt8) (acc:Nat),(∀b∈l,aw b=true)→(acc+1)*10^l.length≤10000000000→Lib.parseUint10 acc l= .ok (valD acc l)
 |[],acc,_,_=>rfl
 |c::r,acc,h,hb=>by
  have hc:=ed.1 (h c List.mem_cons_self)
  have hp:1≤10^r.length:=Nat.pow_pos (by omega)
  have e2:(acc+1)*10^(c::r).length=((acc+1)*10)*10^r.length:=by simp only[List.length_cons,Nat.pow_succ];rw[Nat.mul_comm (10^r.length) 10,Nat.mul_assoc]
  rw[e2]at hb
  have h3:(acc+1)*10≤10000000000:=Nat.le_trans (Nat.le_mul_of_pos_right _ hp) hb
  simp only[Lib.parseUint10,dv]
  rw[if_pos hc,if_neg (by omega),if_neg (by omega)]
  exact qu r _ (fun b hb=>h b (List.mem_cons_of_mem _ hb)) (Nat.le_trans (Nat.mul_le_mul_right _ (by omega)) hb)
theorem mE {l:List UInt8}(h: ∀b∈l,aw b=true)(h1:l≠[])(h2:l.length≤10):Lib.atoiAll l= .ok (valD 0 l:Nat):=by
 cases l with
 |nil=>exact absurd rfl h1
 |cons c r=>
  have hc:=ed.1 (h c List.mem_cons_self)
  have hb:(0+1)*10^(c::r).length≤10000000000:=by
   have:10^(c::r).length≤10^10:=Nat.pow_le_pow_right (by omega) h2
   omega
  have hp:=qu (c::r) 0 h hb
  have hlt:=(eY (c::r) 0 h).2
  rw[Lib.atoiAll_plain c r (by omega) (by omega)]
  unfold Lib.parseMag
  rw[if_neg (by simp),hp]
  simp only[Lib.signless]
  rw[if_neg (by omega)]
theorem DK {l:List UInt8}(h: ∀b∈l,aw b=true)(h1:l≠[])(h2:l.length≤10):Lib.atoiAll (45::l)= .ok (-(valD 0 l:Nat):Int):=by
 have hb:(0+1)*10^l.length≤10000000000:=by
  have:10^l.length≤10^10:=Nat.pow_le_pow_right (by omega) h2
  omega
 have hp:=qu l 0 h hb
 have hlt:=(eY l 0 h).2
 rw[Lib.atoiAll_minus]
 unfold Lib.parseMag
 rw[if_neg h1,hp]
 simp only[Lib.signed]
 rw[if_neg (by omega)]
def bC:List UInt8→List UInt8
 |[]=>[]
 |[c]=>[c]
 |c::d::r=>if c=48 then bC (d::r)else c::d::r
theorem qJ: ∀(l:List UInt8),valD 0 (bC l)=valD 0 l
 |[]=>rfl
 |[c]=>rfl
 |c::d::r=>by
  unfold bC
  split
  ·rename_i hc
   rw[qJ (d::r)]
   subst hc
   rfl
  ·rfl
theorem qI: ∀(l:List UInt8),∀b∈bC l,b∈l
 |[],b,hb=>hb
 |[c],b,hb=>hb
 |c::d::r,b,hb=>by
  unfold bC at hb
  split at hb
  ·exact List.mem_cons_of_mem _ (qI (d::r) b hb)
  ·exact hb
theorem mz: ∀(l:List UInt8),(bC l).length≤l.length
 |[]=>Nat.le_refl _
 |[c]=>Nat.le_refl _
 |c::d::r=>by
  unfold bC
  split
  ·have:=mz (d::r)
   simp only[List.length_cons]at this ⊢
   omega
  ·exact Nat.le_refl _
def xf (l:List UInt8):Prop:=l.length=1∨ ∃c r,l=c::r∧c≠48
theorem uH: ∀(l:List UInt8),l≠[]→xf (bC l)
 |[],h=>absurd rfl h
 |[c],_=>Or.inl rfl
 |c::d::r,_=>by
  unfold bC
  split
  ·exact uH (d::r) (by simp)
  ·rename_i hc
   exact Or.inr ⟨c,_,rfl,hc⟩
theorem J4 {c:UInt8}{r:List UInt8}(h: ∀b∈c::r,aw b=true)(hc:c≠48):1≤valD 0 (c::r):=by
 have h1:=ed.1 (h c List.mem_cons_self)
 have h2:=(eY r (0*10+(c.toNat-48)) (fun b hb=>h b (List.mem_cons_of_mem _ hb))).1
 have hp:1≤10^r.length:=Nat.pow_pos (by omega)
 have h3:c.toNat≠48:=fun e=>hc (UInt8.toNat.inj (by rw[e];rfl))
 have h4:1≤(0*10+(c.toNat-48))*10^r.length:=Nat.one_le_iff_ne_zero.2 (Nat.mul_ne_zero (by omega) (by omega))
 simp only[dv,jK]
 omega
theorem vc {u d:Nat}(hu:1≤u)(hd:d≤9):Lib.decDigits (u*10+d)=Lib.decDigits u++[UInt8.ofNat (48+d)]:=by
 rw[Lib.decDigits,dif_neg (by omega)]
 have e1:(u*10+d) / 10=u:=by omega
 have e2:(u*10+d) % 10=d:=by omega
 rw[e1,e2]
theorem wy {c:UInt8}(h:aw c=true):UInt8.ofNat (48+(c.toNat-48))=c:=by
 have h1:=ed.1 h
 have:48+(c.toNat-48)=c.toNat:=by omega
 rw[this];simp
theorem La: ∀(n:Nat) (l:List UInt8),l.length=n→(∀b∈l,aw b=true)→xf l→Lib.decDigits (valD 0 l)=l:=by
 intro n
 induction n with
 |zero=>
  intro l hn _ hl
  rcases hl with h|⟨c,r,rfl,_⟩
  ·omega
  ·simp at hn
 |succ n ih=>
  intro l hn hd hl
  have hne:l≠[]:=by intro h;subst h;simp at hn
  have hsp:=List.dropLast_concat_getLast hne
  have hc:aw (l.getLast hne)=true:=hd _ (List.getLast_mem hne)
  have hc':=ed.1 hc
  by_cases h0:l.dropLast=[]
  ·rw[h0,List.nil_append]at hsp
   rw[←hsp]
   simp only[dv,jK]
   rw[Lib.decDigits_one (by omega),Nat.zero_mul,Nat.zero_add,wy hc]
  ·rcases hl with h|⟨c,r,e,hne2⟩
   ·exfalso
    apply h0
    apply List.eq_nil_of_length_eq_zero
    rw[List.length_dropLast]
    omega
   ·have hdl: ∀b∈l.dropLast,aw b=true:=fun b hb=>hd b (List.dropLast_subset _ hb)
    have hll: ∃r',l.dropLast=c::r':=by
     rw[e]at h0 ⊢
     cases r with
     |nil=>simp at h0
     |cons d r=>exact⟨_,rfl⟩
    obtain⟨r',hr'⟩:=hll
    have hp:1≤valD 0 l.dropLast:=by rw[hr']at hdl ⊢; exact J4 hdl hne2
    have:=ih l.dropLast (by rw[List.length_dropLast];omega) hdl (Or.inr ⟨c,r',hr',hne2⟩)
    rw[←hsp,J3,vc hp (by omega),this,wy hc]
theorem IQ {l:List UInt8}(h: ∀b∈l,aw b=true)(h1:l≠[]):Lib.itoa (valD 0 l:Nat)=bC l:=by
 unfold Lib.itoa
 rw[if_neg (by omega)]
 have e:((valD 0 l:Nat):Int).toNat=valD 0 (bC l):=by rw[qJ];omega
 rw[e]
 exact La _ _ rfl (fun b hb=>h b (qI l b hb)) (uH l h1)
end Go.Abs
set_option linter.unusedVariables false
set_option linter.unusedSimpArgs false
set_option maxRecDepth 100000
namespace Go.Abs
open Go Go.Proofs
section
variable {s:List UInt8}{n:Nat}
theorem cR:atC false s n=(s[n]?).getD 0:=rfl
theorem dk:atE false s n=if n<s.length then n+1 else n:=rfl
theorem qz {p:UInt8→Bool}(hp:p 0=false): ∀(l:List UInt8),cD false p l 0=(l.takeWhile p,(l.takeWhile p).length)
 |[]=>rfl
 |c::r=>by
  have ih:=qz hp r
  unfold cD
  rw[ih]
  by_cases h0:c=0
  ·subst h0
   simp[hp]
  ·have h1:(c != 0)=true:=by simp[h0]
   cases hc:p c
   ·simp[hc]
   ·simp[hc,h1];omega
theorem kz {p:UInt8→Bool}(hp:p 0=false):bk false p s n=(s.drop n).takeWhile p:=by unfold bk;rw[qz hp]
theorem mv {p:UInt8→Bool}(hp:p 0=false):runE false p s n=n+((s.drop n).takeWhile p).length:=by unfold runE;rw[qz hp]
theorem tZ:bo 0=false:=by decide
theorem GY:aw 0=false:=by decide
theorem yR:bD 0=false:=by decide
def bu (s:List UInt8)(n:Nat)(w:List UInt8):Bool:=decide (n+w.length≤s.length)&&decide (((s.drop n).take w.length).map upB=w)
def digR (s:List UInt8)(n:Nat):Nat:=((s.drop n).takeWhile aw).length
theorem lh:bk false aw s n=(s.drop n).take (digR s n)∧runE false aw s n=n+digR s n:=by
 rw[kz GY,mv GY]
 refine⟨?_,rfl⟩
 unfold digR
 exact(List.prefix_iff_eq_take.1 (List.takeWhile_prefix _))
def GZ (w:List UInt8):Prop:= ∃v,w=46::v++[46]∧ ∀b∈v,65≤b.toNat∧b.toNat≤90
theorem Do: ∀i:Fin 256,(upB (UInt8.ofNat i.val)=46→i.val=46)∧(65≤(upB (UInt8.ofNat i.val)).toNat∧(upB (UInt8.ofNat i.val)).toNat≤90→bo (UInt8.ofNat i.val)=true):=by decide
theorem Dn {c:UInt8}(h:upB c=46):c=46:=by
 have:=(Do ⟨c.toNat,c.toNat_lt⟩).1 (by simpa using h)
 exact UInt8.toNat.inj this
theorem L0 {c:UInt8}(h:65≤(upB c).toNat∧(upB c).toNat≤90):bo c=true:=by
 have:=(Do ⟨c.toNat,c.toNat_lt⟩).2 (by simpa using h)
 simpa using this
theorem io {p:UInt8→Bool}: ∀(l:List UInt8),∀c∈l.takeWhile p,p c=true
 |[],c,h=>by simp at h
 |d::r,c,h=>by
  rw[List.takeWhile_cons]at h
  split at h
  ·rename_i hd
   rcases List.mem_cons.1 h with rfl|h
   ·exact hd
   ·exact io r c h
  ·simp at h
theorem nq {p:UInt8→Bool}{d:UInt8}(hd:p d=false): ∀(v r:List UInt8),(∀b∈v,p b=true)→(v++d::r).takeWhile p=v
 |[],r,_=>by simp[hd]
 |c::v,r,h=>by
  have hc:=h c List.mem_cons_self
  rw[List.cons_append,List.takeWhile_cons,hc]
  simp only[if_true]
  rw[nq hd v r (fun b hb=>h b (List.mem_cons_of_mem _ hb))]
theorem wo {v w:List UInt8}: ∀{l:List UInt8},l.map upB=v++w→ ∃a b,l=a++b∧a.map upB=v∧b.map upB=w:=by
 intro l h
 obtain⟨a,b,e,h1,h2⟩:=List.map_eq_append_iff.1 h
 exact⟨a,b,e,h1,h2⟩
theorem ig {w:List UInt8}(hw:GZ w)(h:bu s n w=true):atC false s n=46∧cF false s n=w∧atC false s (runE false bo s (atE false s n))=46∧dotEnd false s n=n+w.length:=by
 obtain⟨v,rfl,hv⟩:=hw
 simp only[bu,Bool.and_eq_true,decide_eq_true_eq]at h
 obtain⟨hlen,hm⟩:=h
 rw[List.cons_append]at hm hlen
 simp only[List.length_cons,List.length_append,List.length_nil]at hlen hm
 obtain⟨a,b,he,ha,hb⟩:=wo (v:=[46]) (w:=v++[46]) hm
 obtain⟨b1,b2,he2,hb1,hb2⟩:=wo hb
 obtain⟨x,rfl⟩: ∃x,a=[x]:=by
  cases a with
  |nil=>simp at ha
  |cons x t=>cases t with
   |nil=>exact⟨x,rfl⟩
   |cons y t=>simp at ha
 obtain⟨y,rfl⟩: ∃y,b2=[y]:=by
  cases b2 with
  |nil=>simp at hb2
  |cons x t=>cases t with
   |nil=>exact⟨x,rfl⟩
   |cons y t=>simp at hb2
 have hx:x=46:=Dn (by simpa using ha)
 have hy:y=46:=Dn (by simpa using hb2)
 subst hx hy
 have hb1l:b1.length=v.length:=by rw[←hb1,List.length_map]
 have hlet: ∀c∈b1,bo c=true:=by
  intro c hc
  exact L0 (hv _ (by rw[←hb1];exact List.mem_map_of_mem hc))
 have hd:s.drop n=46::(b1++46::(s.drop (n+v.length+2))):=by
  have h1:=List.take_append_drop (v.length+(0+1)+1) (s.drop n)
  rw[he,he2,List.drop_drop]at h1
  rw[←h1]
  simp only[List.cons_append,List.nil_append,List.append_assoc]
  congr 4
 have hn:n<s.length:=by omega
 have h0:s[n]? =some 46:=by
  have:(s.drop n)[0]? =some 46:=by rw[hd];rfl
  rw[List.getElem?_drop]at this
  simpa using this
 have hd1:s.drop (n+1)=b1++46::(s.drop (n+v.length+2)):=by
  have:(s.drop n).drop 1=b1++46::(s.drop (n+v.length+2)):=by rw[hd];rfl
  rw[List.drop_drop]at this
  exact this
 have hr:(s.drop (n+1)).takeWhile bo=b1:=by rw[hd1];exact nq (by decide) _ _ hlet
 have hE:atE false s n=n+1:=by rw[dk,if_pos hn]
 have hR:runE false bo s (n+1)=n+1+v.length:=by rw[mv tZ,hr,hb1l]
 have h46:s[n+1+v.length]? =some 46:=by
  have:(s.drop (n+1))[b1.length]? =some 46:=by rw[hd1,List.getElem?_append_right (Nat.le_refl _),Nat.sub_self];rfl
  rw[List.getElem?_drop,hb1l]at this
  exact this
 refine⟨by rw[cR,h0];rfl,?_,?_,?_⟩
 ·unfold cF
  rw[hE,kz tZ,hr]
  have:up b1=v:=by
   unfold up
   rw[lO b1 (fun b hb=>jP (hlet b hb)),hb1]
  rw[this];rfl
 ·rw[hE,hR,cR,h46];rfl
 ·unfold dotEnd
  rw[hE,hR,dk,if_pos (by omega)]
  simp only[List.length_append,List.length_cons,List.length_nil]
  omega
theorem wQ {w:List UInt8}(h0:atC false s n=46)(h1:cF false s n=w)(h2:atC false s (runE false bo s (atE false s n))=46):bu s n w=true:=by
 have hn:n<s.length:=by
  rcases Nat.lt_or_ge n s.length with h|h
  ·exact h
  ·rw[cR,List.getElem?_eq_none h]at h0;simp at h0
 have hE:atE false s n=n+1:=by rw[dk,if_pos hn]
 rw[hE,mv tZ,cR]at h2
 have hg:s[n]? =some 46:=by
  rw[cR,List.getElem?_eq_getElem hn]at h0
  rw[List.getElem?_eq_getElem hn]
  simpa using h0
 have hd:s.drop n=46::s.drop (n+1):=by
  rw[List.drop_eq_getElem_cons hn]
  rw[List.getElem?_eq_getElem hn]at hg
  injection hg with hg
  rw[hg]
 obtain⟨v,hv⟩: ∃v,v=(s.drop (n+1)).takeWhile bo:=⟨_,rfl⟩
 rw[←hv]at h2
 have hm:n+1+v.length<s.length:=by
  rcases Nat.lt_or_ge (n+1+v.length) s.length with h|h
  ·exact h
  ·rw[List.getElem?_eq_none h]at h2;simp at h2
 have hg2:s[n+1+v.length]=46:=by
  rw[List.getElem?_eq_getElem hm]at h2
  simpa using h2
 have hp:s.drop (n+1)=v++s.drop (n+1+v.length):=by
  have h3:v <+: s.drop (n+1):=by rw[hv];exact List.takeWhile_prefix _
  have h4:=List.prefix_iff_eq_append.1 h3
  rw[List.drop_drop]at h4
  exact h4.symm
 have hd2:s.drop (n+1+v.length)=46::s.drop (n+1+v.length+1):=by rw[List.drop_eq_getElem_cons hm,hg2]
 have hlet: ∀c∈v,bo c=true:=by
  intro c hc
  rw[hv]at hc
  exact io _ c hc
 have hT:cF false s n=[46]++v.map upB++[46]:=by
  unfold cF
  rw[hE,kz tZ,←hv]
  unfold up
  rw[lO v (fun b hb=>jP (hlet b hb))]
 have hwl:w.length=v.length+2:=by rw[←h1,hT];simp
 simp only[bu,Bool.and_eq_true,decide_eq_true_eq]
 refine⟨by omega,?_⟩
 rw[hwl,hd,hp,hd2]
 have e:(46::(v++46::s.drop (n+1+v.length+1)))=(46::v++[46])++s.drop (n+1+v.length+1):=by simp
 rw[e,List.take_left' (by simp),←h1,hT]
 simp[upB]
end
end Go.Abs
set_option linter.unusedVariables false
set_option linter.unusedSimpArgs false
set_option maxRecDepth 100000
namespace Go.Abs
open Go Go.Proofs
section
variable {μ:Mu}
theorem cN {n m:Nat}(h:n<m):decide ((n:Int)<(m:Int))=true:=by simp;omega
theorem cS {n m:Nat}(h:m≤n):decide ((n:Int)<(m:Int))=false:=by simp;omega
theorem MI {n m:Nat}(h:n≤m):decide ((n:Int)≤(m:Int))=true:=by simp;omega
theorem MH {n m:Nat}(h:m<n):decide ((n:Int)≤(m:Int))=false:=by simp;omega
theorem bJ {s:List UInt8}{n:Nat}(h:n<s.length):a7 s (n:Int)=some s[n]:=by rw[gC,List.getElem?_eq_getElem h]
theorem bQ {n:Nat}(h:n≤1000000000):IntKind.wrap .i64 ((n:Int)+1)=((n+1:Nat):Int):=by rw[ce (by omega) (by omega)];omega
theorem fp {n m:Nat}(h:n+m≤1000000000):IntKind.wrap .i64 ((n:Int)+(m:Int))=((n+m:Nat):Int):=by rw[ce (by omega) (by omega)];omega
theorem Pw {n m:Nat}(h:n≤1000000000)(h2:m≤n):IntKind.wrap .i64 ((n:Int) -(m:Int))=((n-m:Nat):Int):=by rw[ce (by omega) (by omega)];omega
theorem uM {n:Nat}(h:n≤1000000000)(h2:1≤n):IntKind.wrap .i64 ((n:Int) -1)=((n-1:Nat):Int):=by rw[ce (by omega) (by omega)];omega
theorem u6 {s:List UInt8}{n:Nat}(h:n<s.length):bZ s (n:Int) ((n+1:Nat):Int)=some [s[n]]:=by
 rw[dD (by omega) (by omega),List.drop_eq_getElem_cons h]
 have:n+1-n=1:=by omega
 rw[this]
 rfl
theorem ow {c:UInt8}:(ev E).call 67 [LV.int .u8 (c.toNat:Int)] μ=some (.ret (LV.bool (aw c)) μ):=by
 refine aN ?_
 rw[O9]
 have e1:decide ((48:Int)≤(c.toNat:Int))=decide (48≤c.toNat):=dI 48 _
 have e2:decide ((c.toNat:Int)≤57)=decide (c.toNat≤57):=dI _ 57
 rw[e1,e2]
 unfold aw
 cases decide (48≤c.toNat)<;>rfl
theorem KF {c:UInt8}:(ev E).call 96 [LV.int .u8 (c.toNat:Int)] μ=some (.ret (LV.bool (bo c)) μ):=by
 refine aN ?_
 rw[Pk]
 have e1:decide ((97:Int)≤(c.toNat:Int))=decide (97≤c.toNat):=dI 97 _
 have e2:decide ((c.toNat:Int)≤122)=decide (c.toNat≤122):=dI _ 122
 have e3:decide ((65:Int)≤(c.toNat:Int))=decide (65≤c.toNat):=dI 65 _
 have e4:decide ((c.toNat:Int)≤90)=decide (c.toNat≤90):=dI _ 90
 rw[e1,e2,e3,e4]
 unfold bo
 cases decide (97≤c.toNat)<;>cases decide (c.toNat≤122)<;>cases decide (65≤c.toNat)<;>cases decide (c.toNat≤90)<;>rfl
theorem Kp {a b c:Int}:(ev E).call 23 [LV.int .i64 a,LV.int .i64 b,LV.int .i64 c] μ=some (.ret (LV.bool (decide (b≤a)&&decide (a≤c))) μ):=by
 refine aN ?_
 rw[OT]
 by_cases h:a<b
 ·have h1:decide (a<b)=true:=by simp[h]
  have h2:decide (b≤a)=false:=by simp;omega
  rw[h1,h2];rfl
 ·have h1:decide (a<b)=false:=by simp;omega
  have h2:decide (b≤a)=true:=by simp;omega
  have h3:(!decide (c<a))=decide (a≤c):=by
   by_cases h4:c<a
   ·have: ¬a≤c:=by omega
    simp[h4,this]
   ·have:a≤c:=by omega
    simp[h4,this]
  rw[h1,h2,h3];rfl
theorem MW: ∀(k:Nat) (p l:List UInt8),l.length=k→p.length+k≤1000000→
  qT (ev E) (p.length+k) (p.length:Int) (bd (p++l)) μ=some (nW (p.length+k) (bd (p++l.map upB)) μ):=by
 intro k
 induction k with
 |zero=>
  intro p l hl hp
  have:l=[]:=List.eq_nil_of_length_eq_zero hl
  subst this
  refine aV ?_
  rw[Dc,cS (by omega),cond_false]
  rfl
 |succ k ih=>
  intro p l hl hp
  cases l with
  |nil=>simp at hl
  |cons c r=>
   simp only[List.length_cons]at hl
   refine aV ?_
   have hr:dR (p.length:Int) (p.length+(k+1))=true:=by simp[dR];omega
   have ho:bv E.P 5 (Ob.arr 1 (bd (p++c::r))) (0+((p.length:Int)).toNat*1)=some (LV.int .u8 (c.toNat:Int)):=by
    have e1:0+((p.length:Int)).toNat*1=p.length:=by omega
    rw[e1]
    have e2:bv E.P 5 (Ob.arr 1 (bd (p++c::r))) p.length=opt ((bd (p++c::r))[p.length]?) fun c=>some (.cv c):=by kernel_rfl
    have e3:(bd (p++c::r))[p.length]? =some (CV.int .u8 (c.toNat:Int)):=by
     unfold bd
     rw[List.getElem?_map,List.getElem?_append_right (Nat.le_refl _),Nat.sub_self]
     rfl
    rw[e2,e3]
    rfl
   have hn:qT (ev E) (p.length+(k+1)) (IntKind.wrap .i64 ((p.length:Int)+1)) (bd (p++upB c::r)) μ=some (nW (p.length+(k+1)) (bd (p++(c::r).map upB)) μ):=by
    have:=ih (p++[upB c]) r (by omega) (by simp;omega)
    have e1:(p++[upB c]).length+k=p.length+(k+1):=by simp;omega
    have e2:(((p++[upB c]).length:Nat):Int)=((p.length+1:Nat):Int):=by simp
    rw[e1,e2]at this
    rw[bQ (by omega)]
    have e3:p++[upB c]++r=p++upB c::r:=by simp
    have e4:p++[upB c]++r.map upB=p++(c::r).map upB:=by simp
    rw[e3,e4]at this
    exact this
   rw[Dc,cN (by omega),cond_true,hr,aA,ho]
   simp only[ad,ao,aa,ak,am,ah,ae,aj,aA,cond_true,cond_false,Bool.not_true,Bool.not_false,au,ar,aq]
   have e1:decide ((97:Int)≤(c.toNat:Int))=decide (97≤c.toNat):=dI 97 _
   have e2:decide ((c.toNat:Int)≤122)=decide (c.toNat≤122):=dI _ 122
   rw[e1,e2]
   by_cases h1:97≤c.toNat
   ·by_cases h2:c.toNat≤122
    ·have hu:upB c=c-32:=by unfold upB;rw[if_pos ⟨h1,h2⟩]
     have hc:(c-32).toNat=c.toNat-32:=by
      rw[UInt8.toNat_sub_of_le]
      ·rfl
      ·rw[UInt8.le_iff_toNat_le];show 32≤c.toNat;omega
     have w1:IntKind.wrap .u8 ((c.toNat:Int) -97)=(c.toNat:Int) -97:=Fs (by omega) (by omega)
     have w2:IntKind.wrap .u8 ((c.toNat:Int) -97+65)=((upB c).toNat:Int):=by rw[Fs (by omega) (by omega),hu,hc];omega
     have hs:cz (bd (p++c::r)) (0+((p.length:Int)).toNat*1) (CV.cells (CV.int .u8 ((upB c).toNat:Int)))=bd (p++upB c::r):=by
      have e1:0+((p.length:Int)).toNat*1=p.length:=by omega
      rw[e1]
      show ((bd (p++c::r)).set p.length (CV.int .u8 ((upB c).toNat:Int)))=_
      unfold bd
      rw[List.map_append,List.map_append,List.set_append,if_neg (by simp)]
      simp
     have hg:(eH 1 (CV.int .u8 ((upB c).toNat:Int))&&Nat.ble (0+((p.length:Int)).toNat*1+1) (bd (p++c::r)).length)=true:=by
      have e1:0+((p.length:Int)).toNat*1+1=p.length+1:=by omega
      rw[e1,g8]
      have:eH 1 (CV.int .u8 ((upB c).toNat:Int))=true:=rfl
      rw[this,Bool.true_and]
      simp
     simp only[h1,h2,decide_true,ad,ao,aa,ak,am,ah,ae,aj,aA,cond_true,cond_false,Bool.not_true,Bool.not_false,au,ar,aq,hr]
     rw[w1,w2,hg,aA,hs,hn]
    ·have hu:upB c=c:=by unfold upB;rw[if_neg (by omega)]
     rw[hu]at hn
     simp only[h1,h2,decide_true,decide_false,ad,ao,aa,ak,am,ah,ae,aj,aA,cond_true,cond_false,Bool.not_true,Bool.not_false,au,ar,aq,hr]
     rw[hn]
   ·have hu:upB c=c:=by unfold upB;rw[if_neg (by omega)]
    rw[hu]at hn
    simp only[h1,decide_false,ad,ao,aa,ak,am,ah,ae,aj,aA,cond_true,cond_false,Bool.not_true,Bool.not_false,au,ar,aq]
    rw[hn]
theorem KG {s:List UInt8}(hs:s.length≤1000000):(ev E).call 97 [LV.str s] μ=some (.ret (LV.str (s.map upB)) μ):=by
 refine aN ?_
 have:=MW (μ:=μ) s.length [] s rfl (by simpa using hs)
 simp only[List.length_nil,Nat.zero_add,List.nil_append]at this
 have e0:((0:Nat):Int)=0:=rfl
 rw[e0]at this
 rw[Pm,bh (by omega),aA,this,aa,EU]
 have h1:(List.take s.length (List.drop 0 (bd (s.map upB))))=bd (s.map upB):=by
  rw[List.drop_zero,List.take_of_length_le]
  rw[g8,List.length_map];exact Nat.le_refl _
 have h2:Nat.ble (0+s.length) (bd (s.map upB)).length=true:=by rw[g8,List.length_map];simp
 rw[h1,h2,aA,cu,aa]
theorem ox {s w:List UInt8}{n:Nat}(hs:s.length≤200000)(hn:n≤s.length)(hw:w.length≤200000):(ev E).call 99 [LV.str s,LV.int .i64 (n:Int),LV.str w] μ=some (.ret (LV.bool (bu s n w)) μ):=by
 refine aN ?_
 rw[Po,fp (by omega)]
 unfold bu
 by_cases h:n+w.length≤s.length
 ·rw[MI h,cond_true,dD (by omega) h,aa]
  have e:n+w.length-n=w.length:=by omega
  rw[e,KG (by simp;omega)]
  simp only[ad,ao,aa,ak,am,ah,ae,aj,aA,cond_true,cond_false,Bool.not_true,Bool.not_false,au,ar,aq]
  simp[h]
 ·rw[MH (by omega),cond_false]
  simp[h]
theorem MP {s:List UInt8}(hs:s.length≤200000){n:Nat}(hn:n≤s.length): ∀(k m:Nat),n+m+k=s.length→DD (ev E) s (n:Int) (m:Int) μ=some (nS ((m+digR s (n+m):Nat):Int) μ):=by
 intro k
 induction k with
 |zero=>
  intro m hm
  refine aV ?_
  rw[C5,fp (by omega),cS (by omega),cond_false]
  have:s.drop (n+m)=[]:=List.drop_eq_nil_of_le (by omega)
  simp[digR,this]
 |succ k ih=>
  intro m hm
  refine aV ?_
  have hlt:n+m<s.length:=by omega
  rw[C5,fp (by omega),cN (by omega),cond_true,bJ hlt,aa,ow]
  simp only[ad,ao,aa,ak,am,ah,ae,aj,aA,cond_true,cond_false,Bool.not_true,Bool.not_false,au,ar,aq]
  have hd:s.drop (n+m)=s[n+m]::s.drop (n+m+1):=List.drop_eq_getElem_cons hlt
  cases hc:aw s[n+m]with
  |true=>
   rw[cond_true,bQ (by omega),ih (m+1) (by omega)]
   unfold digR
   rw[hd,List.takeWhile_cons,hc]
   simp only[if_true,List.length_cons]
   have:n+(m+1)=n+m+1:=by omega
   rw[this]
   congr 3
   omega
  |false=>
   rw[cond_false]
   unfold digR
   rw[hd,List.takeWhile_cons,hc]
   simp
theorem D5 {s:List UInt8}(hs:s.length≤200000){n:Nat}(hn:n≤s.length):(ev E).call 47 [LV.str s,LV.int .i64 (n:Int)] μ=some (.ret (LV.int .i64 (digR s n:Nat)) μ):=by
 refine aN ?_
 have:=MP (μ:=μ) hs hn (s.length-n) 0 (by omega)
 have e0:((0:Nat):Int)=0:=rfl
 rw[e0,Nat.zero_add,Nat.add_zero]at this
 rw[OZ,this,aa,EJ]
theorem m7 {s:List UInt8}{n:Nat}(hn:n≤s.length):n+digR s n≤s.length:=by
 unfold digR
 have:=(List.takeWhile_sublist aw (l:=s.drop n)).length_le
 rw[List.length_drop]at this
 omega
theorem Kz {t:List UInt8}:(ev E).call 70 [LV.str t] μ=some (.ret (LV.str (bF t)) μ):=by
 refine aN ?_
 rw[Pb]
 unfold bF
 by_cases h:t=[]<;>simp[h]
theorem Hp: ∀(s:List UInt8),s.length≤1000000→DE (ev E) s μ=some (nT (bC s) μ)
 |[],_=>aV (by rw[vv];rfl)
 |[c],_=>aV (by rw[vv];rfl)
 |c::d::r,h=>by
  have e48: ∀c:UInt8,decide ((c.toNat:Int)=48)=decide (c=48):=fun c=>bV (k:=48) (by omega)
  simp only[List.length_cons]at h
  refine aV ?_
  have h1:decide ((1:Int)<((c::d::r).length:Int))=true:=by simp;omega
  have h2:a7 (c::d::r) (0:Int)=some c:=rfl
  have h3:=oe (l:=c::d::r) (a:=1) (by simp)
  have e1:((1:Nat):Int)=1:=rfl
  rw[e1]at h3
  rw[vv,h1,cond_true,h2,aa,e48,h3,aa]
  unfold bC
  by_cases hc:c=48
  ·have:decide (c=48)=true:=by simp[hc]
   rw[this,cond_true,if_pos hc]
   exact Hp (d::r) (by simp;omega)
  ·have:decide (c=48)=false:=by simp[hc]
   rw[this,cond_false,if_neg hc]
theorem Ky {s:List UInt8}(hs:s.length≤1000000):(ev E).call 69 [LV.str s] μ=some (.ret (LV.str (bC s)) μ):=by
 refine aN ?_
 rw[Pa,Hp s hs,aa,EN]
def hZ (s:List UInt8):List UInt8:=(bC s.reverse).reverse
theorem Ls: ∀(k:Nat) (s:List UInt8),s.length=k→s.length≤1000000→xH (ev E) s μ=some (mb (hZ s) μ):=by
 have e48: ∀c:UInt8,decide ((c.toNat:Int)=48)=decide (c=48):=fun c=>bV (k:=48) (by omega)
 intro k
 induction k with
 |zero=>
  intro s hk h
  have:s=[]:=List.eq_nil_of_length_eq_zero hk
  subst this
  exact aV (by rw[ta];rfl)
 |succ k ih=>
  intro s hk h
  refine aV ?_
  have hne:s≠[]:=by intro e;subst e;simp at hk
  have hsp:=List.dropLast_concat_getLast hne
  have hrev:s.reverse=s.getLast hne::s.dropLast.reverse:=by
   conv=>lhs;rw[←hsp]
   simp
  by_cases h1:1<s.length
  ·have e1:decide ((1:Int)<(s.length:Int))=true:=by simp;omega
   have hdl:s.dropLast.length=s.length-1:=List.length_dropLast
   obtain⟨d,r,hr⟩: ∃d r,s.dropLast.reverse=d::r:=by
    cases hx:s.dropLast.reverse with
    |nil=>
     have:s.dropLast.length=0:=by rw[←List.length_reverse,hx];rfl
     omega
    |cons d r=>exact⟨d,r,rfl⟩
   have hl:a7 s ((s.length-1:Nat):Int)=some (s.getLast hne):=by rw[bJ (by omega),List.getLast_eq_getElem]
   have hcut:bZ s (0:Int) ((s.length-1:Nat):Int)=some s.dropLast:=by
    have:=dD (l:=s) (a:=0) (e:=s.length-1) (by omega) (by omega)
    have e0:((0:Nat):Int)=0:=rfl
    rw[e0]at this
    rw[this,List.drop_zero,Nat.sub_zero,List.dropLast_eq_take]
   rw[ta,e1,cond_true,uM (by omega) (by omega),hl,aa,e48,hcut,aa]
   by_cases hc:s.getLast hne=48
   ·have:decide (s.getLast hne=48)=true:=by simp[hc]
    rw[this,cond_true,ih s.dropLast (by omega) (by omega)]
    unfold hZ
    rw[hrev,hr,bC,if_pos hc]
   ·have:decide (s.getLast hne=48)=false:=by simp[hc]
    rw[this,cond_false]
    unfold hZ
    rw[hrev,hr,bC,if_neg hc,←hr,←hrev,List.reverse_reverse]
  ·have e1:decide ((1:Int)<(s.length:Int))=false:=by simp;omega
   rw[ta,e1,cond_false]
   have hd:s.dropLast=[]:=List.eq_nil_of_length_eq_zero (by rw[List.length_dropLast];omega)
   unfold hZ
   rw[hrev,hd]
   rw[hd,List.nil_append]at hsp
   rw[List.reverse_nil,bC,List.reverse_singleton,hsp]
theorem Mo {s:List UInt8}(hs:s.length≤1000000):(ev E).call 134 [LV.str s] μ=some (.ret (LV.str (hZ s)) μ):=by
 refine aN ?_
 rw[N1,Ls _ s rfl hs,aa,Br]
def countR (s:List UInt8):Nat:=if s=[48]then 0 else s.length
theorem Ha {s:List UInt8}:(ev E).call 135 [LV.str s] μ=some (.ret (LV.int .i64 (countR s:Nat)) μ):=by
 refine aN ?_
 rw[N2]
 unfold countR
 by_cases h:s=[48]
 ·simp[h]
 ·simp[h]
theorem Lr {s:List UInt8}(hs:s.length≤9)(hd: ∀b∈s,aw b=true): ∀(k m acc:Nat),m+k=s.length→(acc+1)*10^k≤1000000000→xG (ev E) s (acc:Int) (m:Int) μ=some (pL (valD acc (s.drop m):Nat) μ):=by
 intro k
 induction k with
 |zero=>
  intro m acc hm ha
  refine aV ?_
  rw[zg,cS (by omega),cond_false,List.drop_eq_nil_of_le (by omega)]
  rfl
 |succ k ih=>
  intro m acc hm ha
  have hp:1≤10^k:=Nat.pow_pos (by omega)
  have e2:(acc+1)*10^(k+1)=((acc+1)*10)*10^k:=by rw[Nat.pow_succ,Nat.mul_comm (10^k) 10,Nat.mul_assoc]
  rw[e2]at ha
  have h3:(acc+1)*10≤1000000000:=Nat.le_trans (Nat.le_mul_of_pos_right _ hp) ha
  have hlt:m<s.length:=by omega
  have hc:=ed.1 (hd s[m] (List.getElem_mem hlt))
  refine aV ?_
  have w1:IntKind.wrap .u8 ((s[m].toNat:Int) -48)=((s[m].toNat-48:Nat):Int):=by rw[Fs (by omega) (by omega)];omega
  have w2:IntKind.wrap .i64 ((s[m].toNat-48:Nat):Int)=((s[m].toNat-48:Nat):Int):=ce (by omega) (by omega)
  have w3:IntKind.wrap .i64 (10*(acc:Int))=((10*acc:Nat):Int):=by rw[ce (by omega) (by omega)];omega
  have w4:IntKind.wrap .i64 (((10*acc:Nat):Int)+((s[m].toNat-48:Nat):Int))=((acc*10+(s[m].toNat-48):Nat):Int):=by rw[ce (by omega) (by omega)];omega
  rw[zg,cN hlt,cond_true,bJ hlt,aa,w1,w2,w3,w4,bQ (by omega),ih (m+1) _ (by omega) (Nat.le_trans (Nat.mul_le_mul_right _ (by omega)) ha),List.drop_eq_getElem_cons hlt,dv]
theorem G9 {s:List UInt8}(hs:s.length≤9)(hd: ∀b∈s,aw b=true):(ev E).call 120 [LV.str s] μ=some (.ret (LV.int .i64 (valD 0 s:Nat)) μ):=by
 refine aN ?_
 have hp:(0+1)*10^s.length≤1000000000:=by
  have:10^s.length≤10^9:=Nat.pow_le_pow_right (by omega) hs
  omega
 have:=Lr (μ:=μ) hs hd s.length 0 0 (by omega) hp
 have e0:((0:Nat):Int)=0:=rfl
 rw[e0,List.drop_zero]at this
 rw[NY,this,aa,Bq]
theorem KO (n:Nat):Int.tdiv (n:Int) 10=((n / 10:Nat):Int):=by exact rfl
theorem KP (n:Nat):Int.tmod (n:Int) 10=((n % 10:Nat):Int):=by exact rfl
theorem sU {n:Nat}:Lib.itoa (n:Int)=Lib.decDigits n:=by
 unfold Lib.itoa
 rw[if_neg (by omega)]
 rfl
theorem yS {n:Nat}(h:1≤n):Lib.itoa (-(n:Int))=45::Lib.decDigits n:=by
 unfold Lib.itoa
 rw[if_pos (by omega)]
 congr 2
 omega
theorem Lb: ∀d:Fin 10,bZ ([48,49,50,51,52,53,54,55,56,57]:List UInt8) (d.val:Int) ((d.val+1:Nat):Int)=some [UInt8.ofNat (48+d.val)]:=by decide
theorem m6 {n:Nat}(h:n<18446744073709551616):(Lib.decDigits n).length≤20:=by rw[Lib.decDigits_length];exact Lib.nDigits_le20 n h
theorem yT: ∀(n:Nat),n≤1000000000→(ev E).call 71 [LV.int .i64 (n:Int)] μ=some (.ret (LV.str (Lib.decDigits n)) μ):=by
 intro n
 induction n using Nat.strongRecOn with
 |_ n ih=>
  intro hn
  refine aN ?_
  have h0:decide ((n:Int)<0)=false:=by simp
  rw[M3,h0,cond_false]
  have hG:Kc (ev E) (n:Int) μ=some (nN (Lib.decDigits n) μ):=by
   refine aU ?_
   rw[LH]
   by_cases h9:9<n
   ·have e9:decide ((9:Int)<(n:Int))=true:=by simp;omega
    have w1:IntKind.wrap .i64 (Int.tdiv (n:Int) 10)=((n / 10:Nat):Int):=by
     have:Int.tdiv (n:Int) 10=((n / 10:Nat):Int):=KO n
     rw[this,ce (by omega) (by omega)]
    have w2:Int.tmod (n:Int) 10=((n % 10:Nat):Int):=KP n
    have hd1:(Lib.decDigits (n / 10)).length≤20:=m6 (by omega)
    have hd2:(Lib.decDigits (n % 10)).length≤20:=m6 (by omega)
    rw[e9,cond_true,w1,ih (n / 10) (by omega) (by omega)]
    simp only[ad,ao,aa,ak,am,ah,ae,aj,aA,cond_true,cond_false,Bool.not_true,Bool.not_false,au,ar,aq]
    rw[w2,ih (n % 10) (by omega) (by omega)]
    simp only[ad,ao,aa,ak,am,ah,ae,aj,aA,cond_true,cond_false,Bool.not_true,Bool.not_false,au,ar,aq]
    rw[bh (by omega),aA]
    have:Lib.decDigits (n % 10)=[UInt8.ofNat (48+n % 10)]:=Lib.decDigits_one (by omega)
    rw[this]
    have e:=vc (u:=n / 10) (d:=n % 10) (by omega) (by omega)
    have e2:n / 10*10+n % 10=n:=by omega
    rw[e2]at e
    rw[e]
   ·have e9:decide ((9:Int)<(n:Int))=false:=by simp;omega
    rw[e9,cond_false,bQ (by omega)]
    have:=Lb ⟨n,by omega⟩
    simp only at this
    rw[this,aa,Lib.decDigits_one (by omega)]
  rw[hG,aa,Er]
theorem MF: ∀(n:Nat),1≤n→n≤1000000000→(ev E).call 71 [LV.int .i64 (-(n:Int))] μ=some (.ret (LV.str (45::Lib.decDigits n)) μ):=by
 intro n
 induction n using Nat.strongRecOn with
 |_ n ih=>
  intro h1 hn
  refine aN ?_
  have h0:decide (-(n:Int)<0)=true:=by simp;omega
  rw[M3,h0,cond_true]
  by_cases h9:9<n
  ·have e9:decide ((-10:Int)< -(n:Int))=false:=by simp;omega
   rw[e9,cond_false]
   have hG:Kb (ev E) (-(n:Int)) μ=some (sn (45::Lib.decDigits n) μ):=by
    refine aU ?_
    have w1:IntKind.wrap .i64 (Int.tdiv (-(n:Int)) 10)= -((n / 10:Nat):Int):=by
     have:Int.tdiv (-(n:Int)) 10= -((n / 10:Nat):Int):=by rw[Int.neg_tdiv,KO]
     rw[this,ce (by omega) (by omega)]
    have w2:IntKind.wrap .i64 (0-Int.tmod (-(n:Int)) 10)=((n % 10:Nat):Int):=by
     have:Int.tmod (-(n:Int)) 10= -((n % 10:Nat):Int):=by rw[Int.neg_tmod,KP]
     rw[this,ce (by omega) (by omega)]
     omega
    have hd1:(Lib.decDigits (n / 10)).length≤20:=m6 (by omega)
    have hd2:(Lib.decDigits (n % 10)).length≤20:=m6 (by omega)
    rw[LG,w1,ih (n / 10) (by omega) (by omega) (by omega)]
    simp only[ad,ao,aa,ak,am,ah,ae,aj,aA,cond_true,cond_false,Bool.not_true,Bool.not_false,au,ar,aq]
    rw[w2,yT (n % 10) (by omega)]
    simp only[ad,ao,aa,ak,am,ah,ae,aj,aA,cond_true,cond_false,Bool.not_true,Bool.not_false,au,ar,aq]
    rw[bh (by simp;omega),aA]
    have:Lib.decDigits (n % 10)=[UInt8.ofNat (48+n % 10)]:=Lib.decDigits_one (by omega)
    rw[this]
    have e:=vc (u:=n / 10) (d:=n % 10) (by omega) (by omega)
    have e2:n / 10*10+n % 10=n:=by omega
    rw[e2]at e
    rw[e]
    rfl
   rw[hG,aa,Ep]
  ·have e9:decide ((-10:Int)< -(n:Int))=true:=by simp;omega
   have w1:IntKind.wrap .i64 (0- -(n:Int))=(n:Int):=by rw[ce (by omega) (by omega)];omega
   have hd2:(Lib.decDigits n).length≤20:=m6 (by omega)
   rw[e9,cond_true,w1,yT n (by omega)]
   simp only[ad,ao,aa,ak,am,ah,ae,aj,aA,cond_true,cond_false,Bool.not_true,Bool.not_false,au,ar,aq]
   rw[bh (by simp;omega),aA]
   rfl
theorem NM {n:Int}(h0: -1000000000≤n)(h1:n≤1000000000):(ev E).call 71 [LV.int .i64 n] μ=some (.ret (LV.str (Lib.itoa n)) μ):=by
 by_cases h:0≤n
 ·obtain⟨m,rfl⟩: ∃m:Nat,n=(m:Int):=⟨n.toNat,by omega⟩
  rw[sU]
  exact yT m (by omega)
 ·obtain⟨m,rfl⟩: ∃m:Nat,n= -(m:Int):=⟨(-n).toNat,by omega⟩
  rw[yS (by omega)]
  exact MF m (by omega) (by omega)
theorem MO {s:List UInt8}(hs:s.length≤200000): ∀(k m:Nat) (acc:List UInt8),m+k=s.length→acc.length≤1+2*m→w5 (ev E) s acc (m:Int) μ=some (sH (acc++dbl (s.drop m)) μ):=by
 have e39: ∀c:UInt8,decide ((c.toNat:Int)=39)=decide (c=39):=fun c=>bV (k:=39) (by omega)
 intro k
 induction k with
 |zero=>
  intro m acc hm ha
  refine aV ?_
  rw[C4,cS (by omega),cond_false,List.drop_eq_nil_of_le (by omega)]
  simp[dbl]
 |succ k ih=>
  intro m acc hm ha
  have hlt:m<s.length:=by omega
  refine aV ?_
  rw[C4,cN hlt,cond_true,bQ (by omega),u6 hlt,aa,bh (by simp;omega),aA,bJ hlt,aa,e39,List.drop_eq_getElem_cons hlt,dbl]
  by_cases hc:s[m]=39
  ·have:decide (s[m]=39)=true:=by simp[hc]
   rw[this,cond_true,bh (by simp;omega),aA,ih (m+1) _ (by omega) (by simp;omega),if_pos hc,hc]
   simp
  ·have:decide (s[m]=39)=false:=by simp[hc]
   rw[this,cond_false,ih (m+1) _ (by omega) (by simp;omega),if_neg hc]
   simp
theorem Kr {s:List UInt8}(hs:s.length≤200000):(ev E).call 42 [LV.str s] μ=some (.ret (LV.str (eF s)) μ):=by
 refine aN ?_
 have:=MO (μ:=μ) hs s.length 0 [39] (by omega) (by simp)
 have e0:((0:Nat):Int)=0:=rfl
 have hd:=u9 s
 rw[e0,List.drop_zero]at this
 rw[OY,this,aa,EI,bh (by simp;omega),aA]
 rfl
theorem NG {s:List UInt8}{m:Int}(hs:s.length≤200000):(ev E).call 41 [LV.str s,LV.int .i64 m] μ=some (.ret (LV.bool (!decide (m<(s.length:Int))&&ek s)) μ):=by
 have hl: ∀(k n:Nat),n+k=s.length→DC (ev E) s (n:Int) μ=some (if ek (s.drop n)then sG μ else sF false μ):=by
  intro k
  induction k with
  |zero=>
   intro n hn
   refine aV ?_
   rw[C3,cS (by omega),cond_false,List.drop_eq_nil_of_le (by omega)]
   rfl
  |succ k ih=>
   intro n hn
   have hlt:n<s.length:=by omega
   refine aV ?_
   have w:IntKind.wrap .i64 (s[n].toNat:Int)=(s[n].toNat:Int):=by have:=s[n].toNat_lt;rw[ce (by omega) (by omega)]
   rw[C3,cN hlt,cond_true,bJ hlt,aa,w,Kp]
   simp only[ad,ao,aa,ak,am,ah,ae,aj,aA,cond_true,cond_false,Bool.not_true,Bool.not_false,au,ar,aq]
   rw[bQ (by omega),ih (n+1) (by omega),List.drop_eq_getElem_cons hlt]
   have e1:decide ((32:Int)≤(s[n].toNat:Int))=decide (32≤s[n].toNat):=dI 32 _
   have e2:decide ((s[n].toNat:Int)≤126)=decide (s[n].toNat≤126):=dI _ 126
   rw[e1,e2]
   have hT:ek (s[n]::s.drop (n+1))=((decide (32≤s[n].toNat)&&decide (s[n].toNat≤126))&&ek (s.drop (n+1))):=by
    unfold ek
    rw[List.any_cons]
    by_cases h1:32≤s[n].toNat
    ·by_cases h2:s[n].toNat≤126
     ·have h3: ¬s[n].toNat<32:=by omega
      have h4: ¬126<s[n].toNat:=by omega
      simp[h1,h2,h3,h4]
     ·have h4:126<s[n].toNat:=by omega
      simp[h2,h4]
    ·have h3:s[n].toNat<32:=by omega
     simp[h1,h3]
   rw[hT]
   cases decide (32≤s[n].toNat)&&decide (s[n].toNat≤126)<;>rfl
 refine aN ?_
 rw[OX]
 by_cases hm:m<(s.length:Int)
 ·have:decide (m<(s.length:Int))=true:=by simp[hm]
  rw[this];rfl
 ·have:decide (m<(s.length:Int))=false:=by simp[hm]
  have h0:=hl s.length 0 (by omega)
  have e0:((0:Nat):Int)=0:=rfl
  rw[e0,List.drop_zero]at h0
  have hG:J8 (ev E) s μ=some (nM (ek s) μ):=by
   refine aU ?_
   rw[LD,h0,aa]
   cases ek s with
   |true=>exact EH _ _
   |false=>exact EG _ _ _
  rw[this,cond_false,hG,aa,Em]
  rfl
theorem NI {s:List UInt8}(hs:s.length≤200000):(ev E).call 48 [LV.str s] μ=some (.ret (LV.int .i64 (bW s)) μ):=by
 refine aN ?_
 rw[O0,NG hs]
 simp only[ad,ao,aa,ak,am,ah,ae,aj,aA,cond_true,cond_false,Bool.not_true,Bool.not_false,au,ar,aq]
 unfold bW
 by_cases h:1320<s.length
 ·have:decide ((1320:Int)<(s.length:Int))=true:=by simp;omega
  rw[this,if_pos h]
  rfl
 ·have:decide ((1320:Int)<(s.length:Int))=false:=by simp;omega
  rw[this,if_neg h]
  cases ek s<;>rfl
theorem Ns (x y:Tok):(decide (x.kind=y.kind)&&(decide (x.type=y.type)&&(decide (x.text=y.text)&&true)))=decide (x=y):=by
 cases x;cases y
 simp[Bool.decide_and]
theorem ML {a b:List Tok}(hl:a.length=b.length)(h:a.length≤1000000): ∀(k n:Nat),n+k=a.length→DB (ev E) (aB a) (aB b) (n:Int) μ=some (if a.drop n=b.drop n then sC μ else sB false μ):=by
 intro k
 induction k with
 |zero=>
  intro n hn
  refine aV ?_
  have e:(aB a).length=a.length:=by simp[aB]
  rw[C1,e,cS (by omega),cond_false,List.drop_eq_nil_of_le (by omega),List.drop_eq_nil_of_le (by omega),if_pos rfl]
 |succ k ih=>
  intro n hn
  have h1:n<a.length:=by omega
  have h2:n<b.length:=by omega
  refine aV ?_
  have e:(aB a).length=a.length:=by simp[aB]
  have ga:cE (aB a) (n:Int)=some a[n].cv:=by rw[c6];simp[aB,h1]
  have gb:cE (aB b) (n:Int)=some b[n].cv:=by rw[c6];simp[aB,h2]
  rw[C1,e,cN h1,cond_true,ga,aa,cx,gb,aa,cx,bQ (by omega),ih (n+1) (by omega),List.drop_eq_getElem_cons h1,List.drop_eq_getElem_cons h2]
  rw[Ns]
  generalize a[n]=x,b[n]=y
  by_cases hab:x=y
  ·subst hab
   simp
  ·have:decide (x=y)=false:=by simp[hab]
   rw[this,Bool.not_false,cond_true,if_neg]
   intro h
   injection h with h
   exact hab h
theorem Ko {a b:List Tok}(h:a.length≤1000000):(ev E).call 19 [LV.cv (CV.sl (aB a)),LV.cv (CV.sl (aB b))] μ=some (.ret (LV.bool (decide (a=b))) μ):=by
 refine aN ?_
 have ea:(aB a).length=a.length:=by simp[aB]
 have eb:(aB b).length=b.length:=by simp[aB]
 rw[OS,ea,eb]
 by_cases hl:a.length=b.length
 ·have e1:decide ((a.length:Int)=(b.length:Int))=true:=by simp[hl]
  have:=ML (μ:=μ) hl h a.length 0 (by omega)
  have e0:((0:Nat):Int)=0:=rfl
  rw[e0,List.drop_zero,List.drop_zero]at this
  have hG:J6 (ev E) (aB a) (aB b) μ=some (nK (decide (a=b)) μ):=by
   refine aU ?_
   rw[LB,this,aa]
   by_cases hab:a=b
   ·rw[if_pos hab,ED];simp[hab]
   ·rw[if_neg hab,EC];simp[hab]
  rw[e1,Bool.not_true,cond_false,hG,aa,Ek]
 ·have e1:decide ((a.length:Int)=(b.length:Int))=false:=by simp;omega
  have e2:decide (a=b)=false:=by simp;intro e;subst e;exact hl rfl
  rw[e1,e2];rfl
def tM (s:List UInt8):Bool:=decide (s.length≤200)||(decide (1320<s.length)&&decide (s.length≤1340))
theorem ND {s:List UInt8}:(ev E).call 16 [LV.str s] μ=some (.ret (LV.bool (tM s)) μ):=by
 refine aN ?_
 rw[OR]
 have e1:decide ((s.length:Int)≤200)=decide (s.length≤200):=dI _ 200
 have e2:decide ((1320:Int)<(s.length:Int))=decide (1320<s.length):=by simp;omega
 have e3:decide ((s.length:Int)≤1340)=decide (s.length≤1340):=dI _ 1340
 rw[e1,e2,e3]
 unfold tM
 cases decide (s.length≤200)<;>cases decide (1320<s.length)<;>rfl
end
end Go.Abs
set_option linter.unusedVariables false
set_option linter.unusedSimpArgs false
set_option maxRecDepth 100000
namespace Go.Abs
open Go Go.Proofs
def stN (μ:Mu)(X:Int→Int→List UInt8→Int→Int→Mu→St):Except Int (Tok×Nat)→St
 | .ok q=>X q.1.kind q.1.type q.1.text (q.2:Int) 0 μ
 | .error e=>X 0 0 [] 0 e μ
def kx:Except Int (Tok×Nat)→CV
 | .ok q=> .agg [CV.int .i64 q.1.kind,CV.int .i64 q.1.type,CV.str q.1.text,CV.int .i64 (q.2:Int),CV.int .i64 0]
 | .error e=> .agg [CV.int .i64 0,CV.int .i64 0,CV.str [],CV.int .i64 0,CV.int .i64 e]
def before (whole:List UInt8):List UInt8:=bC (bF whole)
def after (part:List UInt8):List UInt8:=hZ (bF part)
def eR (whole part:List UInt8)(kind exp:Int)(e:Nat):Except Int (Tok×Nat):=
 if 30<countR (before whole)+countR (after part)then .error 7
 else if kind=2 then .ok (⟨1,kind,before whole++[46]++after part++[68]++Lib.itoa exp⟩,e)
 else if exp≠0 then .ok (⟨1,kind,before whole++[46]++after part++[69]++Lib.itoa exp⟩,e)
 else .ok (⟨1,kind,before whole++[46]++after part⟩,e)
def fQ:List UInt8:=[50,49,52,55,52,56,51,54,52,55]
def lz (whole:List UInt8)(e:Nat):Except Int (Tok×Nat):=
 if 10<whole.length then .error 28
 else if(bC whole).length=10∧(Op.bytesLess (bC whole) fQ||decide (bC whole=fQ))=false then .error 28
 else .ok (⟨1,0,bC whole⟩,e)
def fe (s:List UInt8)(e:Nat):Int:=if atC false s (e+1)=45 then -((valD 0 (aY false s e):Nat):Int)else((valD 0 (aY false s e):Nat):Int)
def jB (s whole part:List UInt8)(point:Bool)(e:Nat):Except Int (Tok×Nat):=
 if(aX false s e).2.2.2 then(if 3<(aY false s e).length then .error 7 else eR whole part (if(aX false s e).1=68 then 2 else 1) (fe s e) (aX false s e).2.2.1)
 else if point then eR whole part 1 0 e else lz whole e
def ci:List (List UInt8):=dq++[eZ,eq]
def mB (s:List UInt8)(n:Nat):Bool:=decide (0<digR s n)&&ci.any (bu s (n+digR s n))
def jC (s:List UInt8)(n:Nat):Except Int (Tok×Nat):=
 if !mB s n&&decide (s[n+digR s n]? =some 46)then
  jB s ((s.drop n).take (digR s n)) ((s.drop (n+digR s n+1)).take (digR s (n+digR s n+1))) true (n+digR s n+1+digR s (n+digR s n+1))
 else jB s ((s.drop n).take (digR s n)) [] false (n+digR s n)
section
variable {μ:Mu}{s:List UInt8}
theorem Fo (l:List UInt8):(hZ l).length≤l.length:=by
 unfold hZ
 have:=mz l.reverse
 simpa using this
theorem D2 {x:Int}(h0: -1000000000≤x)(h1:x≤1000000000):(Lib.itoa x).length≤21:=Lib.itoa_length_le x (by omega) (by omega)
theorem JX {e:Nat}{kind exp a b c d:Int}{t be af:List UInt8}(hb:be.length≤300000)(ha:af.length≤300000)(h0: -1000000000≤exp)(h1:exp≤1000000000):
  FI (ev E) (e:Int) kind exp be af a b t c d μ=some (ka 1 kind (if kind=2 then be++[46]++af++[68]++Lib.itoa exp else if exp≠0 then be++[46]++af++[69]++Lib.itoa exp else be++[46]++af) (e:Int) 0 μ):=by
 refine aU ?_
 have hi:=D2 h0 h1
 rw[Jy,bh (by simp;omega),aA,bh (by simp;omega),aA,NM h0 h1]
 simp only[ad,ao,aa,ak,am,ah,ae,aj,aA,cond_true,cond_false,Bool.not_true,Bool.not_false,au,ar,aq]
 by_cases hk:kind=2
 ·have:decide (kind=2)=true:=by simp[hk]
  rw[this,cond_true,bh (by simp;omega),aA,bh (by simp;omega),aA,if_pos hk]
 ·have:decide (kind=2)=false:=by simp[hk]
  rw[this,cond_false,if_neg hk]
  by_cases he:exp=0
  ·have:decide (exp=0)=true:=by simp[he]
   rw[this,Bool.not_true,cond_false,if_neg (by simp[he])]
  ·have:decide (exp=0)=false:=by simp[he]
   rw[this,Bool.not_false,cond_true,if_pos he,bh (by simp;omega),aA,bh (by simp;omega),aA]
theorem zT {n w e:Nat}{kind exp a b c d:Int}{t part:List UInt8}(hs:s.length≤200000)(hw:n+w≤s.length)(hp:part.length≤200000)(h0: -1000000000≤exp)(h1:exp≤1000000000):
  xC (ev E) s (n:Int) (w:Int) (e:Int) kind exp part a b t c d μ=some (stN μ j9 (eR ((s.drop n).take w) part kind exp e)):=by
 refine aU ?_
 have e1:n+w-n=w:=by omega
 have hl:((s.drop n).take w).length≤200000:=by simp;omega
 have k1:=kZ ((s.drop n).take w)
 have k2:=kZ part
 have k3:(before ((s.drop n).take w)).length≤200001:=by have:=mz (bF ((s.drop n).take w));unfold before;omega
 have k4:(after part).length≤200001:=by have:=Fo (bF part);unfold after;omega
 rw[Jx,fp (by omega),dD (by omega) hw,aa,e1,Kz]
 simp only[ad,ao,aa,ak,am,ah,ae,aj,aA,cond_true,cond_false,Bool.not_true,Bool.not_false,au,ar,aq]
 rw[Ky (by omega)]
 simp only[ad,ao,aa,ak,am,ah,ae,aj,aA,cond_true,cond_false,Bool.not_true,Bool.not_false,au,ar,aq]
 rw[Kz]
 simp only[ad,ao,aa,ak,am,ah,ae,aj,aA,cond_true,cond_false,Bool.not_true,Bool.not_false,au,ar,aq]
 rw[Mo (by omega)]
 simp only[ad,ao,aa,ak,am,ah,ae,aj,aA,cond_true,cond_false,Bool.not_true,Bool.not_false,au,ar,aq]
 rw[Ha]
 simp only[ad,ao,aa,ak,am,ah,ae,aj,aA,cond_true,cond_false,Bool.not_true,Bool.not_false,au,ar,aq]
 rw[Ha]
 simp only[ad,ao,aa,ak,am,ah,ae,aj,aA,cond_true,cond_false,Bool.not_true,Bool.not_false,au,ar,aq]
 have hB:bC (bF ((s.drop n).take w))=before ((s.drop n).take w):=rfl
 have hA:hZ (bF part)=after part:=rfl
 have c1:countR (before ((s.drop n).take w))≤200001:=by unfold countR;split<;>omega
 have c2:countR (after part)≤200001:=by unfold countR;split<;>omega
 rw[hB,hA,fp (by omega),JX (by omega) (by omega) h0 h1,aa,Bl]
 unfold eR
 by_cases h30:30<countR (before ((s.drop n).take w))+countR (after part)
 ·have:decide ((30:Int)<((countR (before ((s.drop n).take w))+countR (after part):Nat):Int))=true:=by simp;omega
  rw[this,cond_true,if_pos h30]
  rfl
 ·have:decide ((30:Int)<((countR (before ((s.drop n).take w))+countR (after part):Nat):Int))=false:=by simp;omega
  rw[this,cond_false,if_neg h30]
  by_cases hk:kind=2
  ·rw[if_pos hk,if_pos hk];rfl
  ·rw[if_neg hk,if_neg hk]
   by_cases he:exp≠0
   ·rw[if_pos he,if_pos he];rfl
   ·rw[if_neg he,if_neg he];rfl
theorem JW {n w e:Nat}{a b c d:Int}{t:List UInt8}(hs:s.length≤200000)(hw:n+w≤s.length)(h10:w≤10):
  FH (ev E) s (n:Int) (w:Int) (e:Int) a b t c d μ=some (stN μ j8 (lz ((s.drop n).take w) e)):=by
 refine aU ?_
 have e1:n+w-n=w:=by omega
 have hl:((s.drop n).take w).length=w:=by simp;omega
 rw[Jw,fp (by omega),dD (by omega) hw,aa,e1,Ky (by omega)]
 simp only[ad,ao,aa,ak,am,ah,ae,aj,aA,cond_true,cond_false,Bool.not_true,Bool.not_false,au,ar,aq]
 unfold lz
 rw[if_neg (by omega)]
 have hm:([50,49,52,55,52,56,51,54,52,55]:List UInt8)=fQ:=rfl
 rw[hm]
 by_cases hT:(bC ((s.drop n).take w)).length=10
 ·have:decide (((bC ((s.drop n).take w)).length:Int)=10)=true:=by simp;omega
  rw[this,cond_true]
  cases hB:(Op.bytesLess (bC ((s.drop n).take w)) fQ||decide (bC ((s.drop n).take w)=fQ))with
  |true=>rw[if_neg (by simp)];rfl
  |false=>rw[if_pos ⟨hT,rfl⟩];rfl
 ·have:decide (((bC ((s.drop n).take w)).length:Int)=10)=false:=by simp;omega
  rw[this,cond_false,if_neg (by simp[hT])]
  rfl
def lK (whole part:List UInt8)(point has:Bool)(kind exp:Int)(e:Nat):Except Int (Tok×Nat):=if point||has then eR whole part kind exp e else lz whole e
theorem JV {n w e p:Nat}{kind exp a b c d:Int}{t:List UInt8}{point has:Bool}(hs:s.length≤200000)(hw:n+w≤s.length)(hp:point=true→n+w+1+p≤s.length)(h0: -1000000000≤exp)(h1:exp≤1000000000):
  mY (ev E) s (n:Int) (w:Int) (e:Int) point (p:Int) kind exp has a b t c d μ=some (stN μ iD (lK ((s.drop n).take w) (if point then(s.drop (n+w+1)).take p else []) point has kind exp e)):=by
 refine aU ?_
 have h38:(opt (tv (ev E) s (n:Int) (w:Int) (e:Int) point (p:Int) kind exp a b t c d μ) (kS (ev E) H98 [] [(4,0)]))=some (stN μ iD (eR ((s.drop n).take w) (if point then(s.drop (n+w+1)).take p else []) kind exp e)):=by
  have:tv (ev E) s (n:Int) (w:Int) (e:Int) point (p:Int) kind exp a b t c d μ=some (stN μ l9 (eR ((s.drop n).take w) (if point then(s.drop (n+w+1)).take p else []) kind exp e)):=by
   refine aU ?_
   have hfin: ∀q,kS (ev E) H98 [] [(4,0)] (stN μ j9 q)=some (stN μ l9 q):=by
    intro q
    cases q with
    |ok q=>exact rQ _ _ _ _ _ _ _
    |error e=>exact rQ _ _ _ _ _ _ _
   cases point with
   |true=>
    have hp':=hp rfl
    have e1:n+w+1+p-(n+w+1)=p:=by omega
    rw[ze,cond_true,fp (by omega),bQ (by omega),fp (by omega),dD (by omega) hp',aa,e1,zT hs hw (by simp;omega) h0 h1,aa,hfin]
    rfl
   |false=>
    rw[ze,cond_false,zT hs hw (by simp) h0 h1,aa,hfin]
    rfl
  rw[this,aa]
  cases eR ((s.drop n).take w) (if point then(s.drop (n+w+1)).take p else []) kind exp e with
  |ok q=>exact rP _ _ _ _ _ _ _
  |error e=>exact rP _ _ _ _ _ _ _
 rw[Jv]
 unfold lK
 cases point with
 |true=>rw[Bool.not_true,cond_false,h38];rfl
 |false=>
  rw[Bool.not_false,cond_true]
  cases has with
  |true=>rw[Bool.not_true,cond_false,h38];rfl
  |false=>
   rw[Bool.not_false,cond_true]
   have hl:((s.drop n).take w).length=w:=by simp;omega
   by_cases h10:10<w
   ·have:decide ((10:Int)<(w:Int))=true:=by simp;omega
    rw[this,cond_true]
    simp only[Bool.or_self,Bool.false_eq_true,if_false,lz,hl,if_pos h10]
    rfl
   ·have:decide ((10:Int)<(w:Int))=false:=by simp;omega
    rw[this,cond_false,JW hs hw (by omega),aa]
    simp only[Bool.or_self,Bool.false_eq_true,if_false]
    cases lz ((s.drop n).take w) e with
    |ok q=>exact rO _ _ _ _ _ _ _
    |error e=>exact rO _ _ _ _ _ _ _
theorem vh: ∀i:Fin 256,((UInt8.ofNat i.val &&& 223=69)↔(UInt8.ofNat i.val=69∨UInt8.ofNat i.val=101))∧((UInt8.ofNat i.val &&& 223=68)↔(UInt8.ofNat i.val=68∨UInt8.ofNat i.val=100)):=by decide
theorem ol (c:UInt8):((c &&& 223=69)↔(c=69∨c=101))∧((c &&& 223=68)↔(c=68∨c=100)):=by
 have:=vh ⟨c.toNat,c.toNat_lt⟩
 simpa using this
theorem Dp {l:List UInt8}(h: ∀b∈l,aw b=true)(hl:l.length≤9):valD 0 l<1000000000:=by
 have:=(eY l 0 h).2
 have h2:10^l.length≤10^9:=Nat.pow_le_pow_right (by omega) hl
 omega
theorem JU {n w e p k:Nat}{a b c d:Int}{t:List UInt8}{point:Bool}(hs:s.length≤200000)(hw:n+w≤s.length)(he:e<s.length)(hk:k≤s.length)(hk1:e+1≤k):
  cO (ev E) s (n : Int) (w : Int) (e : Int) point (p : Int) 1 0 false (k : Int) a b t c d μ = some (
   if digR s k=0 then j6 s (n:Int) (w:Int) (e:Int) point (p:Int) 1 0 false a b t c d μ
   else if 3<digR s k then pG 0 0 [] 0 7 μ
   else j6 s (n:Int) (w:Int) ((k+digR s k:Nat):Int) point (p:Int) (if s[e]=68∨s[e]=100 then 2 else 1) (if s[k-1]? =some 45 then -((valD 0 ((s.drop k).take (digR s k)):Nat):Int)else((valD 0 ((s.drop k).take (digR s k)):Nat):Int)) true a b t c d μ):=by
 have e68: ∀c:UInt8,decide ((c.toNat:Int)=68)=decide (c=68):=fun c=>bV (k:=68) (by omega)
 have e100: ∀c:UInt8,decide ((c.toNat:Int)=100)=decide (c=100):=fun c=>bV (k:=100) (by omega)
 have e45: ∀c:UInt8,decide ((c.toNat:Int)=45)=decide (c=45):=fun c=>bV (k:=45) (by omega)
 have hm:=m7 hk
 refine aU ?_
 rw[Js,D5 hs hk]
 simp only[ad,ao,aa,ak,am,ah,ae,aj,aA,cond_true,cond_false,Bool.not_true,Bool.not_false,au,ar,aq]
 by_cases h0:digR s k=0
 ·have:decide ((0:Int)<((digR s k:Nat):Int))=false:=by simp;omega
  rw[this,cond_false,if_pos h0]
 ·have:decide ((0:Int)<((digR s k:Nat):Int))=true:=by simp;omega
  rw[this,cond_true,if_neg h0]
  by_cases h3:3<digR s k
  ·have:decide ((3:Int)<((digR s k:Nat):Int))=true:=by simp;omega
   rw[this,cond_true,if_pos h3]
  ·have:decide ((3:Int)<((digR s k:Nat):Int))=false:=by simp;omega
   rw[this,cond_false,if_neg h3]
   have hk2:k-1<s.length:=by omega
   have hdig: ∀b∈(s.drop k).take (digR s k),aw b=true:=by
    intro b hb
    have:(s.drop k).take (digR s k)=(s.drop k).takeWhile aw:=by
     unfold digR
     exact(List.prefix_iff_eq_take.1 (List.takeWhile_prefix _)).symm
    rw[this]at hb
    exact io _ b hb
   have hlen:((s.drop k).take (digR s k)).length≤9:=by simp;omega
   have hv:=Dp hdig hlen
   have h28: ∀(x:Int),xB (ev E) s (n:Int) (w:Int) (e:Int) point (p:Int) 1 x true (k:Int) (digR s k:Nat) a b t c d μ=some (j7 s (n:Int) (w:Int) ((k+digR s k:Nat):Int) point (p:Int) (if s[e]=68∨s[e]=100 then 2 else 1) x true a b t c d μ):=by
    intro x
    refine aU ?_
    rw[Ju,bJ he,aa,aa,e68,e100,fp (by omega)]
    by_cases h1:s[e]=68
    ·have:decide (s[e]=68)=true:=by simp[h1]
     rw[this,cond_true,if_pos (Or.inl h1)]
    ·have:decide (s[e]=68)=false:=by simp[h1]
     rw[this,cond_false]
     by_cases h2:s[e]=100
     ·have:decide (s[e]=100)=true:=by simp[h2]
      rw[this,cond_true,if_pos (Or.inr h2)]
     ·have:decide (s[e]=100)=false:=by simp[h2]
      rw[this,cond_false,if_neg (by simp[h1,h2])]
   have h24:FG (ev E) s (n:Int) (w:Int) (e:Int) point (p:Int) 1 (k:Int) (digR s k:Nat) a b t c d μ=some (pH s (n:Int) (w:Int) ((k+digR s k:Nat):Int) point (p:Int) (if s[e]=68∨s[e]=100 then 2 else 1) (if s[k-1]? =some 45 then -((valD 0 ((s.drop k).take (digR s k)):Nat):Int)else((valD 0 ((s.drop k).take (digR s k)):Nat):Int)) true a b t c d μ):=by
    refine aU ?_
    have e1:k+digR s k-k=digR s k:=by omega
    rw[Jt,fp (by omega),dD (by omega) hm,aa,e1,G9 hlen hdig]
    simp only[ad,ao,aa,ak,am,ah,ae,aj,aA,cond_true,cond_false,Bool.not_true,Bool.not_false,au,ar,aq]
    rw[uM (by omega) (by omega),bJ hk2,aa,e45,List.getElem?_eq_getElem hk2]
    by_cases h45:s[k-1]=45
    ·have:decide (s[k-1]=45)=true:=by simp[h45]
     have w1:IntKind.wrap .i64 (0-((valD 0 ((s.drop k).take (digR s k)):Nat):Int))= -((valD 0 ((s.drop k).take (digR s k)):Nat):Int):=by rw[ce (by omega) (by omega)];omega
     rw[this,cond_true,w1,h28,aa,rM,if_pos (show (some s[k-1]:Option UInt8)=some 45 by rw[h45])]
    ·have:decide (s[k-1]=45)=false:=by simp[h45]
     rw[this,cond_false,h28,aa,rM,if_neg (show ¬(some s[k-1]:Option UInt8)=some 45 by simp[h45])]
   rw[h24,aa,Bk]
theorem zS {n w e p:Nat}{a b c d:Int}{t:List UInt8}{word point:Bool}(hs:s.length≤200000)(hw:n+w≤s.length)(he:e≤s.length)(hp:point=true→n+w+1+p≤s.length)(hword:word=true→s[e]? =some 46):
  mX (ev E) s (n:Int) (w:Int) (e:Int) word point (p:Int) a b t c d μ=some (stN μ fu (jB s ((s.drop n).take w) (if point then(s.drop (n+w+1)).take p else []) point e)):=by
 have e69: ∀c:UInt8,decide ((c.toNat:Int)=69)=decide (c=69):=fun c=>bV (k:=69) (by omega)
 have e101: ∀c:UInt8,decide ((c.toNat:Int)=101)=decide (c=101):=fun c=>bV (k:=101) (by omega)
 have e68: ∀c:UInt8,decide ((c.toNat:Int)=68)=decide (c=68):=fun c=>bV (k:=68) (by omega)
 have e100: ∀c:UInt8,decide ((c.toNat:Int)=100)=decide (c=100):=fun c=>bV (k:=100) (by omega)
 have e43: ∀c:UInt8,decide ((c.toNat:Int)=43)=decide (c=43):=fun c=>bV (k:=43) (by omega)
 have e45: ∀c:UInt8,decide ((c.toNat:Int)=45)=decide (c=45):=fun c=>bV (k:=45) (by omega)
 obtain⟨whole,hwhole⟩: ∃x,x=(s.drop n).take w:=⟨_,rfl⟩
 obtain⟨part,hpart⟩: ∃x,x=(if point then(s.drop (n+w+1)).take p else []):=⟨_,rfl⟩
 have h31: ∀{kind exp:Int} {has:Bool} {e:Nat},-1000000000≤exp→exp≤1000000000→(opt (mY (ev E) s (n:Int) (w:Int) (e:Int) point (p:Int) kind exp has a b t c d μ) (kS (ev E) H98 [] [(4,0)]))=some (stN μ fu (lK whole part point has kind exp e)):=by
  intro kind exp has e h0 h1
  rw[JV hs hw hp h0 h1,aa,hwhole,hpart]
  cases lK ((s.drop n).take w) (if point then(s.drop (n+w+1)).take p else []) point has kind exp e with
  |ok q=>exact rN _ _ _ _ _ _ _
  |error e=>exact rN _ _ _ _ _ _ _
 have hno: ∀{kind exp:Int},lK whole part point false 1 0 e=if point then eR whole part 1 0 e else lz whole e:=by
  intro kind exp
  unfold lK
  rw[Bool.or_false]
 rw[←hwhole,←hpart]
 refine aU ?_
 rw[Jr,h31 (by omega) (by omega),hno (kind:=0) (exp:=0)]
 unfold jB
 cases word with
 |true=>
  have hc:atC false s e=46:=by rw[cR,hword rfl];rfl
  have hx:(aX false s e).2.2.2=false:=by
   have:cK false s e=14:=by unfold cK;rw[hc];rfl
   unfold aX
   rw[this];rfl
  rw[Bool.not_true,cond_false,hx]
  rfl
 |false=>
  rw[Bool.not_false,cond_true]
  by_cases hlt:e<s.length
  ·have hg:s[e]? =some s[e]:=List.getElem?_eq_getElem hlt
   have hc:atC false s e=s[e]:=by rw[cR,hg];rfl
   have hE:atE false s e=e+1:=by rw[dk,if_pos hlt]
   rw[cN hlt,cond_true,bJ hlt]
   simp only[aa,e69,e101,e68,e100]
   by_cases hlet:s[e]=69∨s[e]=101∨s[e]=68∨s[e]=100
   ·
    have hL:cK false s e=69∨cK false s e=68:=by
     unfold cK
     rw[hc]
     have:=ol s[e]
     rcases hlet with h|h|h|h
     ·exact Or.inl (this.1.2 (Or.inl h))
     ·exact Or.inl (this.1.2 (Or.inr h))
     ·exact Or.inr (this.2.2 (Or.inl h))
     ·exact Or.inr (this.2.2 (Or.inr h))
    have hC2:atC false s (e+1)=(s[e+1]?).getD 0:=rfl
    have hst:expStart false s e≤s.length:=by
     unfold expStart
     rw[hE,dk]
     split<;>(try split)<;>omega
    have hst1:e+1≤expStart false s e:=by
     unfold expStart
     rw[hE,dk]
     split<;>(try split)<;>omega
    have hdg:aY false s e=(s.drop (expStart false s e)).take (digR s (expStart false s e)):=(lh).1
    have hend:runE false aw s (expStart false s e)=expStart false s e+digR s (expStart false s e):=(lh).2
    have hok:(aX false s e)=(cK false s e,cG false s e++aY false s e,runE false aw s (expStart false s e),!decide (aY false s e=[])):=by unfold aX;rw[if_pos hL]
    have hdl:(aY false s e).length=digR s (expStart false s e):=by
     rw[hdg]
     have:=m7 hst
     simp;omega
    have h20:(opt (cO (ev E) s (n:Int) (w:Int) (e:Int) point (p:Int) 1 0 false (expStart false s e:Nat) a b t c d μ) (kS (ev E) H98 [.seq (cA 98 [1,1,1,1,1,1,1,1,1,1])] [(4,0)]))=
      some (stN μ fu (if(aX false s e).2.2.2 then(if 3<(aY false s e).length then .error 7 else eR whole part (if(aX false s e).1=68 then 2 else 1) (fe s e) (aX false s e).2.2.1)else if point then eR whole part 1 0 e else lz whole e)):=by
     rw[JU hs hw hlt hst hst1,aa,hok,hdl,hend]
     simp only
     by_cases h0:digR s (expStart false s e)=0
     ·have:aY false s e=[]:=List.eq_nil_of_length_eq_zero (by omega)
      rw[if_pos h0,this,rL,h31 (by omega) (by omega),hno (kind:=0) (exp:=0)]
      rfl
     ·have:aY false s e≠[]:=by intro h;rw[h]at hdl;simp at hdl;omega
      have h1:(!decide (aY false s e=[]))=true:=by simp[this]
      rw[if_neg h0,h1,if_pos rfl]
      by_cases h3:3<digR s (expStart false s e)
      ·rw[if_pos h3,if_pos h3,Bj]
       rfl
      ·have hlen:(aY false s e).length≤9:=by omega
       have hdig: ∀b∈aY false s e,aw b=true:=jG
       have hv:=Dp hdig hlen
       rw[hdg]at hv
       have hsign:(if s[expStart false s e-1]? =some 45 then -((valD 0 ((s.drop (expStart false s e)).take (digR s (expStart false s e))):Nat):Int)else((valD 0 ((s.drop (expStart false s e)).take (digR s (expStart false s e))):Nat):Int))=fe s e:=by
        unfold fe
        rw[hdg]
        have hiff:s[expStart false s e-1]? =some 45↔atC false s (e+1)=45:=by
         have hstD:expStart false s e=if(s[e+1]?).getD 0=43∨(s[e+1]?).getD 0=45 then atE false s (e+1)else e+1:=by unfold expStart;rw[hE,hC2]
         rw[hC2,hstD]
         by_cases hsg:(s[e+1]?).getD 0=43∨(s[e+1]?).getD 0=45
         ·have h2:e+1<s.length:=by
           rcases Nat.lt_or_ge (e+1) s.length with h|h
           ·exact h
           ·rw[List.getElem?_eq_none h]at hsg
            rcases hsg with h|h<;>simp at h
          rw[if_pos hsg,dk,if_pos h2]
          have:e+1+1-1=e+1:=by omega
          rw[this,List.getElem?_eq_getElem h2]
          simp
         ·rw[if_neg hsg]
          have:e+1-1=e:=by omega
          rw[this,hg]
          constructor
          ·intro h
           injection h with h
           rw[h]at hlet
           exact absurd hlet (by decide)
          ·intro h
           exact absurd (Or.inr h) hsg
        by_cases h:s[expStart false s e-1]? =some 45
        ·rw[if_pos h,if_pos (hiff.1 h)]
        ·rw[if_neg h,if_neg (fun hh=>h (hiff.2 hh))]
       have hkind:(if s[e]=68∨s[e]=100 then(2:Int)else 1)=if cK false s e=68 then 2 else 1:=by
        have hL2:cK false s e=s[e] &&& 223:=by unfold cK;rw[hc]
        rw[hL2]
        have:=(ol s[e]).2
        by_cases h:s[e]=68∨s[e]=100
        ·rw[if_pos h,if_pos (this.2 h)]
        ·rw[if_neg h,if_neg (fun hh=>h (this.1 hh))]
       have hb: -1000000000≤fe s e∧fe s e≤1000000000:=by
        unfold fe
        rw[hdg]
        split<;>omega
       rw[if_neg h3,if_neg h3,hsign,hkind,rL,h31 hb.1 hb.2]
       unfold lK
       rw[Bool.or_true,if_pos rfl]
    have hA : cond (decide (IntKind.wrap .i64 ((e : Int) + 1) < (s.length : Int))) (
      opt (a7 s (IntKind.wrap .i64 ((e:Int)+1))) fun y25=>
      cond (decide (y25 = 43)) (
      opt (cO (ev E) s (n:Int) (w:Int) (e:Int) point (p:Int) 1 0 false (IntKind.wrap .i64 (IntKind.wrap .i64 ((e:Int)+1)+1)) a b t c d μ) (kS (ev E) H98 [.seq (cA 98 [1,1,1,1,1,1,1,1,1,1])] [(4,0)])) (
      opt (a7 s (IntKind.wrap .i64 ((e:Int)+1))) fun y99=>
      cond (decide (y99 = 45)) (
      opt (cO (ev E) s (n:Int) (w:Int) (e:Int) point (p:Int) 1 0 false (IntKind.wrap .i64 (IntKind.wrap .i64 ((e:Int)+1)+1)) a b t c d μ) (kS (ev E) H98 [.seq (cA 98 [1,1,1,1,1,1,1,1,1,1])] [(4,0)])) (
      opt (cO (ev E) s (n:Int) (w:Int) (e:Int) point (p:Int) 1 0 false (IntKind.wrap .i64 ((e:Int)+1)) a b t c d μ) (kS (ev E) H98 [.seq (cA 98 [1,1,1,1,1,1,1,1,1,1])] [(4,0)])))) (
      opt (cO (ev E) s (n:Int) (w:Int) (e:Int) point (p:Int) 1 0 false (IntKind.wrap .i64 ((e:Int)+1)) a b t c d μ) (kS (ev E) H98 [.seq (cA 98 [1,1,1,1,1,1,1,1,1,1])] [(4,0)]))=
      some (stN μ fu (if(aX false s e).2.2.2 then(if 3<(aY false s e).length then .error 7 else eR whole part (if(aX false s e).1=68 then 2 else 1) (fe s e) (aX false s e).2.2.1)else if point then eR whole part 1 0 e else lz whole e)):=by
     have hstD:expStart false s e=if(s[e+1]?).getD 0=43∨(s[e+1]?).getD 0=45 then atE false s (e+1)else e+1:=by unfold expStart;rw[hE,hC2]
     rw[bQ (by omega),bQ (by omega)]
     by_cases h2:e+1<s.length
     ·have hg2:(s[e+1]?).getD 0=s[e+1]:=by rw[List.getElem?_eq_getElem h2];rfl
      rw[hg2,dk,if_pos h2]at hstD
      rw[cN h2,cond_true,bJ h2]
      simp only[aa]
      by_cases h43:s[e+1]=43
      ·have:decide (s[e+1]=43)=true:=by simp[h43]
       rw[if_pos (Or.inl h43)]at hstD
       rw[hstD]at h20
       rw[this,cond_true,h20]
      ·have:decide (s[e+1]=43)=false:=by simp[h43]
       rw[this,cond_false]
       by_cases h45:s[e+1]=45
       ·have:decide (s[e+1]=45)=true:=by simp[h45]
        rw[if_pos (Or.inr h45)]at hstD
        rw[hstD]at h20
        rw[this,cond_true,h20]
       ·have:decide (s[e+1]=45)=false:=by simp[h45]
        rw[if_neg (by simp[h43,h45])]at hstD
        rw[hstD]at h20
        rw[this,cond_false,h20]
     ·have hg2:(s[e+1]?).getD 0=0:=by rw[List.getElem?_eq_none (by omega)];rfl
      rw[hg2,if_neg (by decide)]at hstD
      rw[hstD]at h20
      rw[cS (by omega),cond_false,h20]
    simp only[e43,e45]
    rw[hA]
    rcases hlet with h|h|h|h
    ·rw[h];rfl
    ·rw[h];rfl
    ·rw[h];rfl
    ·rw[h];rfl
   ·have hn1:s[e]≠69:=fun h=>hlet (Or.inl h)
    have hn2:s[e]≠101:=fun h=>hlet (Or.inr (Or.inl h))
    have hn3:s[e]≠68:=fun h=>hlet (Or.inr (Or.inr (Or.inl h)))
    have hn4:s[e]≠100:=fun h=>hlet (Or.inr (Or.inr (Or.inr h)))
    have d1:decide (s[e]=69)=false:=by simp[hn1]
    have d2:decide (s[e]=101)=false:=by simp[hn2]
    have d3:decide (s[e]=68)=false:=by simp[hn3]
    have d4:decide (s[e]=100)=false:=by simp[hn4]
    have hx:(aX false s e).2.2.2=false:=by
     have hL2:cK false s e=s[e] &&& 223:=by unfold cK;rw[hc]
     unfold aX
     rw[hL2,if_neg]
     intro h
     have:=ol s[e]
     rcases h with h|h
     ·rcases this.1.1 h with h|h
      ·exact hn1 h
      ·exact hn2 h
     ·rcases this.2.1 h with h|h
      ·exact hn3 h
      ·exact hn4 h
    rw[d1,d2,d3,d4,hx]
    rfl
  ·have hx:(aX false s e).2.2.2=false:=by
    have hc:atC false s e=0:=by rw[cR,List.getElem?_eq_none (by omega)];rfl
    have:cK false s e=0:=by unfold cK;rw[hc];rfl
    unfold aX
    rw[this];rfl
   rw[cS (by omega),cond_false,hx]
   rfl
theorem Kt:(ev E).call 55 [] μ=some (.ret (LV.osl (bj dq)) μ):=aN (by rw[O5];rfl)
theorem Fq: ∀w∈ci,w.length≤200000:=by decide
theorem MX {n w i:Nat}{a b c d:Int}{t:List UInt8}(hs:s.length≤200000)(hi:i≤s.length): ∀(k j:Nat) (word:Bool),j+k=ci.length→
  tz (ev E) s (n:Int) (w:Int) (i:Int) word (bj ci) (ci.length:Int) (j:Int) a b t c d μ=some (sO s (n:Int) (w:Int) (i:Int) (word||(decide (0<w)&&(ci.drop j).any (bu s i))) a b t c d μ):=by
 intro k
 induction k with
 |zero=>
  intro j word hj
  refine aV ?_
  rw[Dd,cS (by omega),cond_false,List.drop_eq_nil_of_le (by omega)]
  simp
 |succ k ih=>
  intro j word hj
  have hlt:j<ci.length:=by omega
  have hj2:ci.length≤13:=by decide
  have hg:cE (bj ci) (j:Int)=some (CV.str ci[j]):=by rw[c6];simp[bj,hlt]
  refine aV ?_
  rw[Dd,cN hlt,cond_true,hg,aa,gn,aa,bQ (by omega),List.drop_eq_getElem_cons hlt,List.any_cons]
  cases word with
  |true=>rw[cond_true,ih (j+1) true (by omega)];rfl
  |false=>
   rw[cond_false]
   by_cases hw:0<w
   ·have:decide ((0:Int)<(w:Int))=true:=by simp;omega
    rw[this,cond_true,ox hs hi (Fq _ (List.getElem_mem hlt))]
    simp only[ad,ao,aa,ak,am,ah,ae,aj,aA,cond_true,cond_false,Bool.not_true,Bool.not_false,au,ar,aq]
    rw[ih (j+1) _ (by omega)]
    have:decide (0<w)=true:=by simp[hw]
    rw[this]
    simp
   ·have:decide ((0:Int)<(w:Int))=false:=by simp;omega
    have h2:decide (0<w)=false:=by simp;omega
    rw[this,cond_false,ih (j+1) false (by omega),h2]
    rfl
theorem jY: ∀w∈ci,GZ w:=by
 intro w hw
 simp only[ci,dq,eZ,eq,List.cons_append,List.nil_append,List.mem_cons,List.not_mem_nil,or_false]at hw
 rcases hw with rfl|rfl|rfl|rfl|rfl|rfl|rfl|rfl|rfl|rfl|rfl|rfl|rfl
 ·exact⟨[76,84],rfl,by decide⟩
 ·exact⟨[76,69],rfl,by decide⟩
 ·exact⟨[69,81],rfl,by decide⟩
 ·exact⟨[78,69],rfl,by decide⟩
 ·exact⟨[71,69],rfl,by decide⟩
 ·exact⟨[71,84],rfl,by decide⟩
 ·exact⟨[78,79,84],rfl,by decide⟩
 ·exact⟨[65,78,68],rfl,by decide⟩
 ·exact⟨[79,82],rfl,by decide⟩
 ·exact⟨[69,81,86],rfl,by decide⟩
 ·exact⟨[78,69,81,86],rfl,by decide⟩
 ·exact⟨[84,82,85,69],rfl,by decide⟩
 ·exact⟨[70,65,76,83,69],rfl,by decide⟩
theorem KU {n:Nat}(h:ci.any (bu s n)=true):s[n]? =some 46:=by
 rw[List.any_eq_true]at h
 obtain⟨w,hw,hb⟩:=h
 have:=(ig (jY w hw) hb).1
 rw[cR]at this
 cases hg:s[n]? with
 |none=>rw[hg]at this;simp at this
 |some c=>rw[hg]at this;simp at this;rw[this]
theorem NT (hs:s.length≤200000){n:Nat}(hn:n≤s.length):(ev E).call 98 [LV.str s,LV.int .i64 (n:Int)] μ=some (.ret (.cv (kx (jC s n))) μ):=by
 have e46: ∀c:UInt8,decide ((c.toNat:Int)=46)=decide (c=46):=fun c=>bV (k:=46) (by omega)
 have hw:=m7 hn
 have hap:dQ 1 (bj dq) [CV.str ([46,84,82,85,69,46]:List UInt8),CV.str ([46,70,65,76,83,69,46]:List UInt8)]=true:=by decide
 have hwr:bj dq++[CV.str ([46,84,82,85,69,46]:List UInt8),CV.str ([46,70,65,76,83,69,46]:List UInt8)]=bj ci:=rfl
 have hwl:(bj ci).length=ci.length:=by simp[bj]
 refine aN ?_
 rw[Pn,D5 hs hn]
 simp only[ad,ao,aa,ak,am,ah,ae,aj,aA,cond_true,cond_false,Bool.not_true,Bool.not_false,au,ar,aq]
 rw[Kt]
 simp only[ad,ao,aa,ak,am,ah,ae,aj,aA,cond_true,cond_false,Bool.not_true,Bool.not_false,au,ar,aq]
 have hl:=MX (μ:=μ) (n:=n) (w:=digR s n) (i:=n+digR s n) (a:=0) (b:=0) (c:=0) (d:=0) (t:=[]) hs hw ci.length 0 false (by omega)
 have e0:((0:Nat):Int)=0:=rfl
 rw[e0,List.drop_zero,Bool.false_or]at hl
 rw[hap,aA,hwr,hwl,fp (by omega),hl,aa,EV]
 have hW:(decide (0<digR s n)&&ci.any (bu s (n+digR s n)))=mB s n:=rfl
 rw[hW]
 have hfin: ∀q:Except Int (Tok×Nat),kB (ev E) 98 H98 [] (stN μ fu q)=some (.ret (.cv (kx q)) μ):=by
  intro q
  cases q with
  |ok q=>exact rJ _ _ _ _ _ _ _
  |error e=>exact rJ _ _ _ _ _ _ _
 have hword: ∀{x:Bool},mB s n=x→x=true→s[n+digR s n]? =some 46:=by
  intro x h1 h2
  rw[h2]at h1
  unfold mB at h1
  rw[Bool.and_eq_true]at h1
  exact KU h1.2
 have hno: ∀{x:Bool},mB s n=x→(opt (mX (ev E) s (n:Int) (digR s n:Nat) ((n+digR s n:Nat):Int) x false 0 0 0 [] 0 0 μ) (kB (ev E) 98 H98 []))=some (.ret (.cv (kx (jB s ((s.drop n).take (digR s n)) [] false (n+digR s n)))) μ):=by
  intro x hx
  have:=zS (μ:=μ) (n:=n) (w:=digR s n) (e:=n+digR s n) (p:=0) (a:=0) (b:=0) (c:=0) (d:=0) (t:=[]) (word:=x) (point:=false) hs hw hw (by intro h;cases h) (hword hx)
  rw[e0]at this
  rw[this,aa,hfin]
  rfl
 unfold jC
 cases hx:mB s n with
 |true=>rw[Bool.not_true,cond_false,hno hx];rfl
 |false=>
  rw[Bool.not_false,cond_true]
  by_cases hlt:n+digR s n<s.length
  ·rw[cN hlt,cond_true,bJ hlt]
   simp only[aa,e46]
   rw[List.getElem?_eq_getElem hlt]
   by_cases h46:s[n+digR s n]=46
   ·have:decide (s[n+digR s n]=46)=true:=by simp[h46]
    have hp:=m7 (s:=s) (n:=n+digR s n+1) hlt
    rw[this,cond_true,bQ (by omega),D5 hs hlt]
    simp only[ad,ao,aa,ak,am,ah,ae,aj,aA,cond_true,cond_false,Bool.not_true,Bool.not_false,au,ar,aq]
    rw[fp (n:=n+digR s n+1) (m:=digR s (n+digR s n+1)) (by omega),zS hs hw hp (fun _=>hp) (by intro h;cases h),aa,hfin]
    have h2:(true&&decide ((some s[n+digR s n]:Option UInt8)=some 46))=true:=by simp[h46]
    rw[h2,if_pos rfl]
    rfl
   ·have:decide (s[n+digR s n]=46)=false:=by simp[h46]
    have h2:(true&&decide ((some s[n+digR s n]:Option UInt8)=some 46))=false:=by simp[h46]
    rw[this,cond_false,hno hx,h2]
    rfl
  ·have h2:(true&&decide (s[n+digR s n]? =some 46))=false:=by rw[List.getElem?_eq_none (by omega)];rfl
   rw[cS (by omega),cond_false,hno hx,h2]
   rfl
end
end Go.Abs
set_option linter.unusedVariables false
set_option linter.unusedSimpArgs false
set_option maxRecDepth 100000
namespace Go.Abs
open Go Go.Proofs
section
variable {s:List UInt8}{n:Nat}
theorem ie:ci=dq++[eZ,eq]:=rfl
theorem F3 (h:atC false s n=46):ci.any (bu s n)=(bI false s n).2.2:=by
 have hd:(bI false s n).2.2=gM false s n:=by unfold bI;rw[if_pos h]
 rw[hd]
 apply Bool.eq_iff_iff.2
 constructor
 ·intro ha
  rw[List.any_eq_true]at ha
  obtain⟨w,hw,hb⟩:=ha
  obtain⟨_,h2,h3,_⟩:=ig (jY w hw) hb
  unfold gM
  rw[h2,h3]
  rw[ie,List.mem_append]at hw
  rcases hw with hw|hw
  ·have:dq.contains w=true:=List.contains_iff_mem.2 hw
   rw[this];rfl
  ·simp only[List.mem_cons,List.not_mem_nil,or_false]at hw
   rcases hw with rfl|rfl
   ·simp
   ·simp
 ·intro ha
  unfold gM at ha
  simp only[Bool.and_eq_true,Bool.or_eq_true,decide_eq_true_eq]at ha
  obtain⟨h3,h4⟩:=ha
  have hm:cF false s n∈ci:=by
   rw[ie,List.mem_append]
   rcases h4 with(h4|h4)|h4
   ·exact Or.inl (List.contains_iff_mem.1 h4)
   ·rw[h4];exact Or.inr (by simp)
   ·rw[h4];exact Or.inr (by simp)
  rw[List.any_eq_true]
  exact⟨_,hm,wQ h rfl h3⟩
theorem oL: ∀(l:List UInt8),l≠[]→bC l=bF (l.dropWhile (· == 48))
 |[],h=>absurd rfl h
 |[c],_=>by
  unfold bC bF
  by_cases hc:c=48
  ·simp[hc]
  ·simp[hc]
 |c::d::r,_=>by
  unfold bC
  by_cases hc:c=48
  ·have:(c::d::r).dropWhile (· ==(48:UInt8))=(d::r).dropWhile (· == 48):=by
    rw[List.dropWhile_cons,hc];rfl
   rw[if_pos hc,oL (d::r) (by simp),this]
  ·rw[if_neg hc,List.dropWhile_cons]
   simp[hc,bF]
theorem vW (l:List UInt8):before l=bF (dx l):=by
 unfold before dx Lib.trimLeftB
 by_cases h:l=[]
 ·subst h;rfl
 ·have:bF l=l:=by unfold bF;rw[if_neg h]
  rw[this]
  exact oL l h
theorem E8 (l:List UInt8):(bF l).reverse=bF l.reverse:=by
 unfold bF
 by_cases h:l=[]
 ·subst h;rfl
 ·rw[if_neg h,if_neg (by simpa using h)]
theorem xV (l:List UInt8):after l=bF (dy l):=by
 unfold after dy Lib.trimRightB hZ
 by_cases h:l=[]
 ·subst h;rfl
 ·have:bF l=l:=by unfold bF;rw[if_neg h]
  rw[this,oL l.reverse (by simpa using h),E8]
theorem tQ (l:List UInt8):countR (bF (dx l))=(dx l).length:=by
 unfold countR bF
 by_cases h:dx l=[]
 ·rw[if_pos h,if_pos rfl,h];rfl
 ·rw[if_neg h,if_neg]
  intro h2
  unfold dx Lib.trimLeftB at h2
  have:=List.head_dropWhile_not (· ==(48:UInt8)) (l:=l) (by rw[h2];simp)
  simp only[h2]at this
  simp at this
theorem ru (l:List UInt8):countR (bF (dy l))=(dy l).length:=by
 unfold countR bF
 by_cases h:dy l=[]
 ·rw[if_pos h,if_pos rfl,h];rfl
 ·rw[if_neg h,if_neg]
  intro h2
  unfold dy Lib.trimRightB at h2
  have h3:l.reverse.dropWhile (· ==(48:UInt8))=[48]:=by
   have:=congrArg List.reverse h2
   simpa using this
  have:=List.head_dropWhile_not (· ==(48:UInt8)) (l:=l.reverse) (by rw[h3];simp)
  simp only[h3]at this
  simp at this
theorem sV: ∀(a b:List UInt8),a.length=b.length→(∀x∈a,aw x=true)→(∀x∈b,aw x=true)→Op.bytesLess a b=true→valD 0 a<valD 0 b
 |[],[],_,_,_,h=>by simp[Op.bytesLess]at h
 |[],_::_,hl,_,_,_=>by simp at hl
 |_::_,[],hl,_,_,_=>by simp at hl
 |x::a,y::b,hl,ha,hb,h=>by
  simp only[List.length_cons,Nat.add_right_cancel_iff]at hl
  have hx:=ed.1 (ha x List.mem_cons_self)
  have hy:=ed.1 (hb y List.mem_cons_self)
  have ha': ∀x∈a,aw x=true:=fun z hz=>ha z (List.mem_cons_of_mem _ hz)
  have hb': ∀x∈b,aw x=true:=fun z hz=>hb z (List.mem_cons_of_mem _ hz)
  rw[dv,dv,rp a,rp b,hl]
  have h1:=(eY a 0 ha').2
  rw[hl]at h1
  simp only[Op.bytesLess,Bool.or_eq_true,Bool.and_eq_true,decide_eq_true_eq,beq_iff_eq]at h
  rcases h with h|⟨h,h2⟩
  ·have hlt:x.toNat<y.toNat:=UInt8.lt_iff_toNat_lt.1 h
   have h3:(0*10+(x.toNat-48)+1)*10^b.length≤(0*10+(y.toNat-48))*10^b.length:=Nat.mul_le_mul_right _ (by omega)
   rw[Nat.add_mul]at h3
   omega
  ·subst h
   have:=sV a b hl ha' hb' h2
   omega
theorem uc: ∀(a b:List UInt8),a.length=b.length→Op.bytesLess a b=true∨a=b∨Op.bytesLess b a=true
 |[],[],_=>Or.inr (Or.inl rfl)
 |[],_::_,hl=>by simp at hl
 |_::_,[],hl=>by simp at hl
 |x::a,y::b,hl=>by
  simp only[List.length_cons,Nat.add_right_cancel_iff]at hl
  simp only[Op.bytesLess,Bool.or_eq_true,Bool.and_eq_true,decide_eq_true_eq,beq_iff_eq,List.cons.injEq]
  by_cases h1:x<y
  ·exact Or.inl (Or.inl h1)
  ·by_cases h2:y<x
   ·exact Or.inr (Or.inr (Or.inl h2))
   ·have:x=y:=by
     apply UInt8.toNat.inj
     rw[UInt8.lt_iff_toNat_lt]at h1 h2
     omega
    subst this
    rcases uc a b hl with h|h|h
    ·exact Or.inl (Or.inr ⟨rfl,h⟩)
    ·exact Or.inr (Or.inl ⟨rfl,h⟩)
    ·exact Or.inr (Or.inr (Or.inr ⟨rfl,h⟩))
theorem sZ:valD 0 fQ=2147483647:=by decide
theorem yZ: ∀x∈fQ,aw x=true:=by decide
theorem Mj {w:List UInt8}(hd: ∀b∈w,aw b=true)(h0:w≠[])(e:Nat):lz w e=(match de w with| .ok t=> .ok (t,e)| .error x=> .error x):=by
 unfold lz de
 by_cases h10:10<w.length
 ·rw[if_pos h10,if_pos (Or.inl h10)]
 ·rw[if_neg h10]
  have ha:=mE hd h0 (by omega)
  have hN:dH w=(valD 0 w:Nat):=by unfold dH;rw[ha]
  have hK:mg w=true:=by unfold mg;rw[ha]
  have hT:=qJ w
  have hTd: ∀b∈bC w,aw b=true:=fun b hb=>hd b (qI w b hb)
  have key:((bC w).length=10∧(Op.bytesLess (bC w) fQ||decide (bC w=fQ))=false)↔2147483647<valD 0 w:=by
   by_cases hl:(bC w).length=10
   ·have hlm:(bC w).length=fQ.length:=hl
    constructor
    ·rintro⟨_,h2⟩
     rw[Bool.or_eq_false_iff]at h2
     rcases uc (bC w) fQ hlm with h|h|h
     ·rw[h]at h2;exact absurd h2.1 (by simp)
     ·rw[h]at h2;exact absurd h2.2 (by simp)
     ·have:=sV _ _ hlm.symm yZ hTd h
      rw[sZ,hT]at this
      exact this
    ·intro h
     refine⟨hl,?_⟩
     rw[Bool.or_eq_false_iff]
     constructor
     ·cases hb:Op.bytesLess (bC w) fQ with
      |false=>rfl
      |true=>
       have:=sV _ _ hlm hTd yZ hb
       rw[sZ,hT]at this
       omega
     ·simp only[decide_eq_false_iff_not]
      intro hb
      rw[hb,sZ]at hT
      omega
   ·constructor
    ·rintro⟨h,_⟩;exact absurd h hl
    ·intro h
     exfalso
     have h1:=(eY (bC w) 0 hTd).2
     have h2:=mz w
     have h3:(10:Nat)^(bC w).length≤10^9:=Nat.pow_le_pow_right (by omega) (by omega)
     rw[hT]at h1
     omega
  by_cases hm:2147483647<valD 0 w
  ·rw[if_pos (key.2 hm),if_pos (Or.inr (Or.inr (by rw[hN];omega)))]
  ·rw[if_neg (fun h=>hm (key.1 h)),if_neg (by rw[hN,hK];simp;omega),hN,IQ hd h0]
theorem G5 {x:Int}:Lib.itoa x=[48]↔x=0:=by
 constructor
 ·intro h
  by_cases h0:0≤x
  ·obtain⟨m,rfl⟩: ∃m:Nat,x=(m:Int):=⟨x.toNat,by omega⟩
   rw[sU]at h
   by_cases h9:m<10
   ·rw[Lib.decDigits_one h9]at h
    injection h with h _
    have:=congrArg UInt8.toNat h
    rw[UInt8.toNat_ofNat_of_lt' (by show 48+m<256;omega)]at this
    have h48:(48:UInt8).toNat=48:=rfl
    omega
   ·have hl:=congrArg List.length h
    rw[Lib.decDigits,dif_neg h9]at hl
    have:=Lib.nDigits_pos (m / 10)
    rw[List.length_append,Lib.decDigits_length]at hl
    simp at hl
    omega
  ·obtain⟨m,rfl⟩: ∃m:Nat,x= -(m:Int):=⟨(-x).toNat,by omega⟩
   rw[yS (by omega)]at h
   injection h with h _
   exact absurd h (by decide)
 ·intro h
  subst h
  have:(0:Int)=((0:Nat):Int):=rfl
  rw[this,sU,Lib.decDigits_one (by omega)]
  rfl
theorem rW {D:List UInt8}(hd: ∀b∈D,aw b=true):Lib.trimPrefix D [45]=D∧Lib.trimPrefix ([45]++D) [45]=D:=by
 constructor
 ·cases D with
  |nil=>rfl
  |cons c r=>
   have:c≠45:=by rintro rfl;exact absurd (hd _ List.mem_cons_self) (by decide)
   have h2:(45 == c)=false:=by simpa using fun h:45=c=>this h.symm
   simp[Lib.trimPrefix,Lib.hasPrefix,List.isPrefixOf,h2]
 ·simp[Lib.trimPrefix,Lib.hasPrefix,List.isPrefixOf]
theorem HT {whole part digits:List UInt8}{letter:UInt8}{e:Nat}:eR whole part 1 0 e=fj whole part digits letter false e:=by
 unfold eR fj rn el gd gA
 rw[vW,xV,tQ,ru]
 by_cases h30:30<(dx whole).length+(dy part).length
 ·simp[h30]
 ·simp[h30]
theorem wF {whole part:List UInt8}{e m:Nat}(he:(aX false s e).2.2.2=true):(if 3<(aY false s e).length then .error 7 else eR whole part (if(aX false s e).1=68 then 2 else 1) (fe s e) m)=fj whole part (aX false s e).2.1 (aX false s e).1 true m:=by
 have hL:cK false s e=69∨cK false s e=68:=by
  unfold aX at he
  split at he
  ·assumption
  ·simp at he
 have hx:aX false s e=(cK false s e,cG false s e++aY false s e,runE false aw s (expStart false s e),!decide (aY false s e=[])):=by unfold aX;rw[if_pos hL]
 have hne:aY false s e≠[]:=by
  rw[hx]at he
  simpa using he
 have hdig: ∀b∈aY false s e,aw b=true:=jG
 rw[hx]
 simp only
 have hlt:e<s.length:=by
  rcases Nat.lt_or_ge e s.length with h|h
  ·exact h
  ·exfalso
   unfold cK at hL
   rw[cR,List.getElem?_eq_none h]at hL
   exact absurd hL (by decide)
 have hE:atE false s e=e+1:=by rw[dk,if_pos hlt]
 have hS:cG false s e=if atC false s (e+1)=45 then [45]else []:=by unfold cG;rw[hE]
 have hpre:Lib.trimPrefix (cG false s e++aY false s e) [45]=aY false s e:=by
  rw[hS]
  split
  ·exact(rW hdig).2
  ·exact(rW hdig).1
 unfold fj rn
 rw[hpre]
 by_cases h3:3<(aY false s e).length
 ·simp[h3]
 ·rw[if_neg h3]
  have hval:dH (cG false s e++aY false s e)=fe s e:=by
   unfold fe
   rw[hS]
   by_cases h45:atC false s (e+1)=45
   ·rw[if_pos h45,if_pos h45]
    unfold dH
    rw[List.singleton_append,DK hdig hne (by omega)]
   ·rw[if_neg h45,if_neg h45]
    unfold dH
    rw[List.nil_append,mE hdig hne (by omega)]
  unfold eR el gd gA
  rw[vW,xV,tQ,ru,hval]
  by_cases h30:30<(dx whole).length+(dy part).length
  ·simp[h30]
  ·have hz:=G5 (x:=fe s e)
   have h3d:decide (3<(aY false s e).length)=false:=by simp[h3]
   have h30d:decide (30<(dx whole).length+(dy part).length)=false:=by simp[h30]
   rw[if_neg h30,h3d,h30d]
   simp only[Bool.false_and,Bool.or_self,Bool.false_eq_true,if_false,and_true,if_true]
   by_cases h68:cK false s e=68
   ·rw[if_pos h68,if_pos rfl,if_pos h68]
   ·rw[if_neg h68,if_neg (by decide),if_neg h68]
    by_cases h0:fe s e=0
    ·rw[if_neg (by simp[h0]),if_pos (hz.2 h0)]
    ·rw[if_pos h0,if_neg (fun h=>h0 (hz.1 h))]
     simp
theorem EX {c:UInt8}(h:s[n]? =some c)(hc:aw c=true∨(c=46∧aw ((s[n+1]?).getD 0)=true)):jC s n=dA false s n:=by
 have hn:=cM h
 have hw:=m7 (s:=s) (n:=n) (by omega)
 have hwhole:bS false s n=(s.drop n).take (digR s n):=(lh).1
 have hrun:runE false aw s n=n+digR s n:=(lh).2
 have hdig: ∀b∈bS false s n,aw b=true:=jG
 have hwl:(bS false s n).length=digR s n:=by rw[hwhole];simp;omega
 have hdot:(!mB s n&&decide (s[n+digR s n]? =some 46))=cB false s n:=by
  unfold cB mB
  rw[hrun]
  by_cases h46:s[n+digR s n]? =some 46
  ·have ha:atC false s (n+digR s n)=46:=by rw[cR,h46];rfl
   rw[F3 ha,ha]
   have:decide (bS false s n=[])= !decide (0<digR s n):=by
    by_cases h0:0<digR s n
    ·have:bS false s n≠[]:=by intro hh;rw[hh]at hwl;simp at hwl;omega
     simp[h0,this]
    ·have:bS false s n=[]:=List.eq_nil_of_length_eq_zero (by omega)
     simp[h0,this]
   rw[this]
   simp only[h46,decide_true,Bool.and_true,Bool.true_and]
   cases decide (0<digR s n)<;>cases (bI false s (n+digR s n)).2.2<;>rfl
  ·have ha:atC false s (n+digR s n)≠46:=by
    rw[cR]
    cases hg:s[n+digR s n]? with
    |none=>decide
    |some x=>intro hh;apply h46;rw[hg];simpa using hh
   simp[h46,ha]
 have hdotne:cB false s n=false→bS false s n≠[]:=by
  intro hf hnil
  rcases hc with hc|⟨hc1,hc2⟩
  ·have:digR s n=0:=by rw[←hwl,hnil];rfl
   unfold digR at this
   rw[List.drop_eq_getElem_cons hn,List.takeWhile_cons]at this
   rw[List.getElem?_eq_getElem hn]at h
   injection h with h
   rw[h,hc]at this
   simp at this
  ·unfold cB at hf
   have h0:digR s n=0:=by rw[←hwl,hnil];rfl
   have ha:atC false s (n+digR s n)=46:=by rw[h0,Nat.add_zero,cR,h,hc1];rfl
   rw[hrun,ha,hnil]at hf
   simp at hf
 unfold jC dA
 rw[hdot,←hwhole]
 cases hD:cB false s n with
 |true=>
  have hlt:n+digR s n<s.length:=by
   have:=hdot
   rw[hD,Bool.and_eq_true,decide_eq_true_eq]at this
   exact cM this.2
  have hE:atE false s (n+digR s n)=n+digR s n+1:=by rw[dk,if_pos hlt]
  have hend:numEnd false s n=n+digR s n+1+digR s (n+digR s n+1):=by
   unfold numEnd;rw[if_pos hD,hrun,hE];exact(lh).2
  have hpart:dE false s n=(s.drop (n+digR s n+1)).take (digR s (n+digR s n+1)):=by
   unfold dE;rw[if_pos hD,hrun,hE];exact(lh).1
  rw[if_pos rfl,←hend,←hpart]
  simp only[Bool.not_true,Bool.false_and,Bool.false_eq_true,if_false]
  unfold jB
  cases hq:(aX false s (numEnd false s n)).2.2.2 with
  |true=>
   rw[if_pos rfl]
   simp only[if_true]
   exact wF hq
  |false=>
   rw[if_neg (by simp),if_pos rfl]
   exact HT
 |false=>
  have hend:numEnd false s n=n+digR s n:=by unfold numEnd;rw[if_neg (by rw[hD];simp),hrun]
  have hpart:dE false s n=[]:=by unfold dE;rw[if_neg (by rw[hD];simp)]
  rw[if_neg (by simp),←hend,hpart]
  unfold jB
  have hq1: ∀{α:Type} {x y:α},(aX false s (numEnd false s n)).2.2.2=true→(if(!false&& !(aX false s (numEnd false s n)).2.2.2)=true then x else y)=y:=by
   intro α x y h;rw[h];rfl
  have hq2: ∀{α:Type} {x y:α},(aX false s (numEnd false s n)).2.2.2=false→(if(!false&& !(aX false s (numEnd false s n)).2.2.2)=true then x else y)=x:=by
   intro α x y h;rw[h];rfl
  cases hq:(aX false s (numEnd false s n)).2.2.2 with
  |true=>
   simp only[hq,Bool.not_false,Bool.not_true,Bool.and_false,Bool.false_eq_true,if_false,if_true]
   exact wF hq
  |false=>
   simp only[hq,Bool.not_false,Bool.and_true,Bool.false_eq_true,if_false,if_true]
   exact Mj hdig (hdotne hD) _
end
end Go.Abs
set_option linter.unusedVariables false
set_option linter.unusedSimpArgs false
set_option maxRecDepth 100000
namespace Go.Abs
open Go Go.Proofs
section
variable {μ:Mu}{s:List UInt8}
theorem z8 {x y:UInt8}:decide ((x.toNat:Int)=(y.toNat:Int))=decide (x=y):=by
 by_cases h:x=y
 ·subst h;simp
 ·have:x.toNat≠y.toNat:=fun e=>h (UInt8.toNat.inj e)
  simp[h];omega
def kg (t:List UInt8)(e:Nat):Except Int (Tok×Nat):=if 60<t.length then .error 8 else .ok (⟨1,6,eF t⟩,e)
noncomputable def tS (μ:Mu)(acc:List UInt8)(i:Nat)(a b c d:Int)(t:List UInt8):Option (List UInt8×Nat)→St
 |none=>sL a b t c d μ
 |some (x,k)=>stN μ sJ (kg (acc++x) (i+k))
theorem MT (hs:s.length≤200000){q:UInt8}{a b c d:Int}{t:List UInt8}: ∀(k i:Nat) (acc:List UInt8),s.length-i≤k→i≤s.length→acc.length≤i→
  w7 (ev E) s (q.toNat:Int) acc (i:Int) a b t c d μ=some (tS μ acc i a b c d t (bP q (s.drop i))):=by
 intro k
 induction k using Nat.strongRecOn with
 |_ k ih=>
  intro i acc hk hi ha
  by_cases hlt:i<s.length
  ·have hd:=List.drop_eq_getElem_cons hlt
   refine aV ?_
   rw[C9,cN hlt,cond_true,bJ hlt,aa,z8,bQ (by omega),u6 hlt,aa,bh (by simp;omega),aA,hd]
   by_cases hq:s[i]=q
   ·have hq1:decide (s[i]=q)=true:=by simp[hq]
    rw[hq1,Bool.not_true,cond_false,hq]
    have h11: ∀{i:Nat},i<s.length→(opt (tu (ev E) acc (i:Int) a b t c d μ) (kS (ev E) H81 [] [(0,0),(4,0),(5,0),(6,0),(7,0)]))=some (stN μ nP (kg acc (i+1))):=by
     intro i hlt
     have:tu (ev E) acc (i:Int) a b t c d μ=some (stN μ l5 (kg acc (i+1))):=by
      refine aU ?_
      rw[Jp]
      unfold kg
      by_cases h60:60<acc.length
      ·have:decide ((60:Int)<(acc.length:Int))=true:=by simp;omega
       rw[this,cond_true,if_pos h60]
       rfl
      ·have:decide ((60:Int)<(acc.length:Int))=false:=by simp;omega
       have hG:FF (ev E) acc (i:Int) a b t c d μ=some (pF 1 6 (eF acc) ((i+1:Nat):Int) 0 μ):=by
        refine aU ?_
        rw[Jq,Kr (by omega)]
        simp only[ad,ao,aa,ak,am,ah,ae,aj,aA,cond_true,cond_false,Bool.not_true,Bool.not_false,au,ar,aq]
        rw[bQ (by omega)]
       rw[this,cond_false,if_neg h60,hG,aa,Bi]
       rfl
     rw[this,aa]
     cases kg acc (i+1)with
     |ok q=>exact rI _ _ _ _ _ _ _
     |error e=>exact rI _ _ _ _ _ _ _
    by_cases hlt2:i+1<s.length∧s[i+1]? =some q
    ·obtain⟨h2,h3⟩:=hlt2
     have hd2:=List.drop_eq_getElem_cons h2
     have hg2:s[i+1]=q:=by rw[List.getElem?_eq_getElem h2]at h3;simpa using h3
     have hG:Du (ev E) s (q.toNat:Int) acc (i:Int) a b t c d μ=some (sy s (q.toNat:Int) (acc++[q]) ((i+1:Nat):Int) a b t c d μ):=by
      refine aU ?_
      have hq2:decide (q=q)=true:=by simp
      rw[C0,bQ (by omega),cN h2,cond_true,bJ h2,aa,z8,hg2,hq2,cond_true,u6 hlt,aa,bh (by simp;omega),aA,hq]
     rw[hG,aa,Ez,bQ (by omega),ih (s.length-(i+1+1)) (by omega) (i+1+1) (acc++[q]) (Nat.le_refl _) (by omega) (by simp;omega),hd2,hg2,kw]
     cases bP q (s.drop (i+1+1))with
     |none=>rfl
     |some x=>
      simp only[tS,Option.map_some]
      have e1:i+1+1+x.2=i+(x.2+2):=by omega
      rw[e1]
      simp
    ·have hne: ∀d u,s.drop (i+1)=d::u→d≠q:=by
      intro d u hdu hdq
      apply hlt2
      have h2:i+1<s.length:=by
       rcases Nat.lt_or_ge (i+1) s.length with h|h
       ·exact h
       ·rw[List.drop_eq_nil_of_le h]at hdu;cases hdu
      refine⟨h2,?_⟩
      rw[List.drop_eq_getElem_cons h2]at hdu
      injection hdu with hdu _
      rw[List.getElem?_eq_getElem h2,hdu,hdq]
     have hG:Du (ev E) s (q.toNat:Int) acc (i:Int) a b t c d μ=some (stN μ nP (kg acc (i+1))):=by
      refine aU ?_
      rw[C0,bQ (by omega)]
      by_cases h2:i+1<s.length
      ·have h3:s[i+1]≠q:=fun h=>hlt2 ⟨h2,by rw[List.getElem?_eq_getElem h2,h]⟩
       have h4:decide (s[i+1]=q)=false:=by simp[h3]
       rw[cN h2,cond_true,bJ h2,aa,z8,h4,cond_false,h11 hlt]
      ·rw[cS (by omega),cond_false,h11 hlt]
     rw[hG,aa,gz hne]
     simp only[tS,List.append_nil]
     cases kg acc (i+1)with
     |ok q=>exact ul _ _ _ _ _ _ _
     |error e=>exact ul _ _ _ _ _ _ _
   ·have hq1:decide (s[i]=q)=false:=by simp[hq]
    rw[hq1,Bool.not_false,cond_true,ih (s.length-(i+1)) (by omega) (i+1) (acc++[s[i]]) (Nat.le_refl _) (by omega) (by simp;omega),jF hq]
    cases bP q (s.drop (i+1))with
    |none=>rfl
    |some x=>
     simp only[tS,Option.map_some]
     have e1:i+1+x.2=i+(x.2+1):=by omega
     rw[e1]
     simp
  ·refine aV ?_
   rw[C9,cS (by omega),cond_false,List.drop_eq_nil_of_le (by omega)]
   rfl
theorem KC (hs:s.length≤200000){n:Nat}(hn:n<s.length):(ev E).call 81 [LV.str s,LV.int .i64 (n:Int)] μ=some (.ret (.cv (kx (dV s n))) μ):=by
 refine aN ?_
 rw[Pd,bJ hn,aa,bQ (by omega),MT hs (s.length-(n+1)) (n+1) [] (Nat.le_refl _) (by omega) (by simp),aa]
 unfold dV
 rw[List.getElem?_eq_getElem hn,Option.getD_some]
 cases hq:bP s[n] (s.drop (n+1))with
 |none=>exact EO _ _ _ _ _ _ _
 |some x=>
  obtain⟨t,k⟩:=x
  simp only[tS,List.nil_append]
  unfold kg
  by_cases h60:60<t.length
  ·rw[if_pos h60];exact un _ _ _ _ _ _ _
  ·rw[if_neg h60];exact un _ _ _ _ _ _ _
theorem MR (hs:s.length≤200000){n:Nat}{a b c d:Int}{t:List UInt8}: ∀(k i:Nat),i+k=s.length→
  qR (ev E) s (n:Int) (i:Int) a b t c d μ=some (lq s (n:Int) ((i+((s.drop i).takeWhile bD).length:Nat):Int) a b t c d μ):=by
 have e95: ∀c:UInt8,decide ((c.toNat:Int)=95)=decide (c.toNat=95):=fun c=>by simp;omega
 intro k
 induction k with
 |zero=>
  intro i hi
  refine aV ?_
  rw[C7,cS (by omega),cond_false,List.drop_eq_nil_of_le (by omega)]
  rfl
 |succ k ih=>
  intro i hi
  have hlt:i<s.length:=by omega
  have hy: ∀{q:Bool},bD s[i]=q→(q=true→qR (ev E) s (n:Int) ((i+1:Nat):Int) a b t c d μ=some (lq s (n:Int) ((i+((s.drop i).takeWhile bD).length:Nat):Int) a b t c d μ))∧(q=false→i+((s.drop i).takeWhile bD).length=i):=by
   intro q hq
   rw[List.drop_eq_getElem_cons hlt,List.takeWhile_cons,hq]
   constructor
   ·intro h
    rw[ih (i+1) (by omega),h]
    simp only[if_true,List.length_cons]
    congr 3
    omega
   ·intro h;rw[h];rfl
  refine aV ?_
  rw[C7,cN hlt,cond_true,bJ hlt,aa,KF]
  simp only[ad,ao,aa,ak,am,ah,ae,aj,aA,cond_true,cond_false,Bool.not_true,Bool.not_false,au,ar,aq,e95]
  rw[bQ (by omega)]
  have hp:bD s[i]=(bo s[i]||aw s[i]||decide (s[i].toNat=95)):=rfl
  cases h1:bo s[i]with
  |true=>
   rw[cond_true]
   exact(hy (by rw[hp,h1];rfl)).1 rfl
  |false=>
   rw[cond_false,ow]
   simp only[ad,ao,aa,ak,am,ah,ae,aj,aA,cond_true,cond_false,Bool.not_true,Bool.not_false,au,ar,aq]
   cases h2:aw s[i]with
   |true=>
    rw[cond_true]
    exact(hy (by rw[hp,h1,h2];rfl)).1 rfl
   |false=>
    rw[cond_false]
    cases h3:decide (s[i].toNat=95)with
    |true=>
     rw[cond_true]
     exact(hy (by rw[hp,h1,h2,h3];rfl)).1 rfl
    |false=>
     rw[cond_false,(hy (q:=false) (by rw[hp,h1,h2,h3];rfl)).2 rfl]
def kJ:List (List UInt8×List UInt8):=[([60,61],[46,76,69,46]),([62,61],[46,71,69,46]),([61,61],[46,69,81,46]),([47,61],[46,78,69,46]),([60],[46,76,84,46]),([62],[46,71,84,46])]
def qF (l:List (List UInt8×List UInt8)):List CV:=l.map fun x=>CV.agg [CV.str x.1,CV.str x.2]
def toE:Except Int (Tok×Nat)→Nat
 | .ok q=>q.2
 | .error _=>0
def ew (s:List UInt8)(n:Nat):List (List UInt8×List UInt8)→Except Int (Tok×Nat)→Except Int (Tok×Nat)
 |[],r=>r
 |x::l,r=>ew s n l (if bu s n x.1=true∧toE r<n+x.1.length then .ok (⟨2,0,x.2⟩,n+x.1.length)else r)
def stB {α:Sort _}(X:Int→Int→List UInt8→Int→Int→α):Except Int (Tok×Nat)→α
 | .ok q=>X q.1.kind q.1.type q.1.text (q.2:Int) 0
 | .error e=>X 0 0 [] 0 e
theorem Hn (hs:s.length≤200000){n:Nat}(hn:n≤s.length){a b c d:Int}{t:List UInt8}{l:List (List UInt8×List UInt8)}(hl:l.length≤100)(hw: ∀x∈l,x.1.length≤100): ∀(k j:Nat) (r:Except Int (Tok×Nat)),j+k=l.length→
  stB (fun p q u v w=>o9 (ev E) s (n:Int) (qF l) (l.length:Int) (j:Int) a b t c d p q u v w μ) r=some (stB (fun p q u v w=>pT s (n:Int) a b t c d p q u v w μ) (ew s n (l.drop j) r)):=by
 intro k
 induction k with
 |zero=>
  intro j r hj
  rw[List.drop_eq_nil_of_le (by omega)]
  cases r with
  |ok q=>
   refine aV ?_
   rw[oC,cS (by omega),cond_false]
   rfl
  |error e=>
   refine aV ?_
   rw[oC,cS (by omega),cond_false]
   rfl
 |succ k ih=>
  intro j r hj
  have hlt:j<l.length:=by omega
  have hg:cE (qF l) (j:Int)=some (CV.agg [CV.str l[j].1,CV.str l[j].2]):=by rw[c6];simp[qF,hlt]
  have hrd: ∀{β:Type} {k:List UInt8→List UInt8→Option β},KK (LV.cv (CV.agg [CV.str l[j].1,CV.str l[j].2])) k=k l[j].1 l[j].2:=rfl
  have hwl:=hw _ (List.getElem_mem hlt)
  rw[List.drop_eq_getElem_cons hlt,ew]
  have hih:=fun r=>ih (j+1) r (by omega)
  cases r with
  |ok q=>
   refine aV ?_
   rw[oC,cN hlt,cond_true,hg,aa,hrd,ox hs hn (by omega)]
   simp only[ad,ao,aa,ak,am,ah,ae,aj,aA,cond_true,cond_false,Bool.not_true,Bool.not_false,au,ar,aq]
   rw[bQ (by omega),fp (by omega)]
   cases hb:bu s n l[j].1 with
   |false=>
    rw[cond_false,if_neg (by simp)]
    exact hih (.ok q)
   |true=>
    rw[cond_true]
    by_cases h2:q.2<n+l[j].1.length
    ·rw[cN h2,cond_true,if_pos ⟨rfl,h2⟩]
     exact hih (.ok (⟨2,0,l[j].2⟩,n+l[j].1.length))
    ·rw[cS (by omega),cond_false,if_neg (fun h=>h2 h.2)]
     exact hih (.ok q)
  |error e=>
   refine aV ?_
   rw[oC,cN hlt,cond_true,hg,aa,hrd,ox hs hn (by omega)]
   simp only[ad,ao,aa,ak,am,ah,ae,aj,aA,cond_true,cond_false,Bool.not_true,Bool.not_false,au,ar,aq]
   rw[bQ (by omega),fp (by omega)]
   cases hb:bu s n l[j].1 with
   |false=>
    rw[cond_false,if_neg (by simp)]
    exact hih (.error e)
   |true=>
    rw[cond_true]
    by_cases h2:0<n+l[j].1.length
    ·have:=cN h2
     have e0:((0:Nat):Int)=0:=rfl
     rw[e0]at this
     rw[this,cond_true,if_pos ⟨rfl,h2⟩]
     exact hih (.ok (⟨2,0,l[j].2⟩,n+l[j].1.length))
    ·have:=cS (n:=0) (m:=n+l[j].1.length) (by omega)
     have e0:((0:Nat):Int)=0:=rfl
     rw[e0]at this
     rw[this,cond_false,if_neg (fun h=>h2 h.2)]
     exact hih (.error e)
def k9 (l:List (List UInt8)):List (List UInt8×List UInt8):=l.map fun x=>(x,x)
theorem Ho (hs:s.length≤200000){n:Nat}(hn:n≤s.length){a b c d:Int}{t:List UInt8}{l:List (List UInt8)}(hl:l.length≤100)(hw: ∀x∈l,x.length≤100): ∀(k j:Nat) (r:Except Int (Tok×Nat)),j+k=l.length→
  stB (fun p q u v w=>mZ (ev E) s (n:Int) (bj l) (l.length:Int) (j:Int) a b t c d p q u v w μ) r=some (stB (fun p q u v w=>kc a b t c d p q u v w μ) (ew s n (k9 (l.drop j)) r)):=by
 intro k
 induction k with
 |zero=>
  intro j r hj
  rw[List.drop_eq_nil_of_le (by omega)]
  cases r with
  |ok q=>
   refine aV ?_
   rw[oD,cS (by omega),cond_false]
   rfl
  |error e=>
   refine aV ?_
   rw[oD,cS (by omega),cond_false]
   rfl
 |succ k ih=>
  intro j r hj
  have hlt:j<l.length:=by omega
  have hg:cE (bj l) (j:Int)=some (CV.str l[j]):=by rw[c6];simp[bj,hlt]
  have hwl:=hw _ (List.getElem_mem hlt)
  have hsel:k9 (l[j]::l.drop (j+1))=(l[j],l[j])::k9 (l.drop (j+1)):=rfl
  rw[List.drop_eq_getElem_cons hlt,hsel,ew]
  have hih:=fun r=>ih (j+1) r (by omega)
  cases r with
  |ok q=>
   refine aV ?_
   rw[oD,cN hlt,cond_true,hg,aa,gn,aa,ox hs hn (by omega)]
   simp only[ad,ao,aa,ak,am,ah,ae,aj,aA,cond_true,cond_false,Bool.not_true,Bool.not_false,au,ar,aq]
   rw[bQ (by omega),fp (by omega)]
   cases hb:bu s n l[j]with
   |false=>
    rw[cond_false,if_neg (by simp)]
    exact hih (.ok q)
   |true=>
    rw[cond_true]
    by_cases h2:q.2<n+l[j].length
    ·rw[cN h2,cond_true,if_pos ⟨rfl,h2⟩]
     exact hih (.ok (⟨2,0,l[j]⟩,n+l[j].length))
    ·rw[cS (by omega),cond_false,if_neg (fun h=>h2 h.2)]
     exact hih (.ok q)
  |error e=>
   refine aV ?_
   rw[oD,cN hlt,cond_true,hg,aa,gn,aa,ox hs hn (by omega)]
   simp only[ad,ao,aa,ak,am,ah,ae,aj,aA,cond_true,cond_false,Bool.not_true,Bool.not_false,au,ar,aq]
   rw[bQ (by omega),fp (by omega)]
   cases hb:bu s n l[j]with
   |false=>
    rw[cond_false,if_neg (by simp)]
    exact hih (.error e)
   |true=>
    rw[cond_true]
    by_cases h2:0<n+l[j].length
    ·have:=cN h2
     have e0:((0:Nat):Int)=0:=rfl
     rw[e0]at this
     rw[this,cond_true,if_pos ⟨rfl,h2⟩]
     exact hih (.ok (⟨2,0,l[j]⟩,n+l[j].length))
    ·have:=cS (n:=0) (m:=n+l[j].length) (by omega)
     have e0:((0:Nat):Int)=0:=rfl
     rw[e0]at this
     rw[this,cond_false,if_neg (fun h=>h2 h.2)]
     exact hih (.error e)
theorem Ku:(ev E).call 56 [] μ=some (.ret (LV.osl (bj bX)) μ):=aN (by rw[O6];rfl)
theorem Ml:(ev E).call 100 [] μ=some (.ret (LV.osl (qF kJ)) μ):=aN (by rw[NV];rfl)
def oa (s:List UInt8)(n:Nat):Except Int (Tok×Nat):=ew s n (k9 bX) (ew s n kJ (.error 7))
theorem JT (hs:s.length≤200000){n:Nat}(hn:n≤s.length){a b c d:Int}{t:List UInt8}:FD (ev E) s (n:Int) a b t c d μ=some (stN μ l3 (oa s n)):=by
 refine aU ?_
 rw[Jn,Ml]
 simp only[ad,ao,aa,ak,am,ah,ae,aj,aA,cond_true,cond_false,Bool.not_true,Bool.not_false,au,ar,aq]
 have h1:=Hn (μ:=μ) hs hn (a:=a) (b:=b) (c:=c) (d:=d) (t:=t) (l:=kJ) (by decide) (by decide) kJ.length 0 (.error 7) (by omega)
 have e0:((0:Nat):Int)=0:=rfl
 have e1:(qF kJ).length=kJ.length:=rfl
 have e2:(bj bX).length=bX.length:=rfl
 rw[e0,List.drop_zero]at h1
 simp only[stB]at h1
 have h2: ∀r,stB (fun p q u v w=>mZ (ev E) s (n:Int) (bj bX) (bX.length:Int) 0 a b t c d p q u v w μ) r=some (stB (fun p q u v w=>kc a b t c d p q u v w μ) (ew s n (k9 bX) r)):=by
  intro r
  have:=Ho (μ:=μ) hs hn (a:=a) (b:=b) (c:=c) (d:=d) (t:=t) (l:=bX) (by decide) (by decide) bX.length 0 r (by omega)
  rw[e0,List.drop_zero]at this
  exact this
 rw[e1,h1,aa]
 unfold oa
 have h3:=h2 (ew s n kJ (.error 7))
 have fin: ∀r,kS (ev E) H58 [.block 9,.seq (cA 58 [1,1,1,1,1,1])] [(4,0)] (stB (fun p q u v w=>kc a b t c d p q u v w μ) r)=some (stN μ l3 r):=by
  intro r
  cases r with
  |ok q=>exact rS _ _ _ _ _ _ _ _ _ _ _ _
  |error e=>exact rS _ _ _ _ _ _ _ _ _ _ _ _
 cases hr:ew s n kJ (.error 7)with
 |ok q=>
  rw[hr]at h3
  simp only[stB]at h3 ⊢
  rw[rR,Ku]
  simp only[ad,ao,aa,ak,am,ah,ae,aj,aA,cond_true,cond_false,Bool.not_true,Bool.not_false,au,ar,aq]
  rw[e2,h3,aa]
  exact fin _
 |error e=>
  rw[hr]at h3
  simp only[stB]at h3 ⊢
  rw[rR,Ku]
  simp only[ad,ao,aa,ak,am,ah,ae,aj,aA,cond_true,cond_false,Bool.not_true,Bool.not_false,au,ar,aq]
  rw[e2,h3,aa]
  exact fin _
def xc (s:List UInt8)(n:Nat)(l:List (List UInt8))(kind type:Int)(els:Except Int (Tok×Nat)):Except Int (Tok×Nat):=
 match l.find? (bu s n)with|some w=> .ok (⟨kind,type,w⟩,n+w.length)|none=>els
theorem Hl (hs:s.length≤200000){n:Nat}(hn:n≤s.length){a b c d:Int}{t:List UInt8}{l:List (List UInt8)}(hl:l.length≤100)(hw: ∀x∈l,x.length≤100): ∀(k j:Nat),j+k=l.length→
  xM (ev E) s (n:Int) (bj l) (l.length:Int) (j:Int) a b t c d μ=some (match(l.drop j).find? (bu s n)with|some w=>pO 2 0 w ((n+w.length:Nat):Int) 0 μ|none=>pQ s (n:Int) a b t c d μ):=by
 intro k
 induction k with
 |zero=>
  intro j hj
  refine aV ?_
  rw[zm,cS (by omega),cond_false,List.drop_eq_nil_of_le (by omega)]
  rfl
 |succ k ih=>
  intro j hj
  have hlt:j<l.length:=by omega
  have hg:cE (bj l) (j:Int)=some (CV.str l[j]):=by rw[c6];simp[bj,hlt]
  have hwl:=hw _ (List.getElem_mem hlt)
  refine aV ?_
  rw[zm,cN hlt,cond_true,hg,aa,gn,aa,ox hs hn (by omega)]
  simp only[ad,ao,aa,ak,am,ah,ae,aj,aA,cond_true,cond_false,Bool.not_true,Bool.not_false,au,ar,aq]
  rw[bQ (by omega),fp (by omega),ih (j+1) (by omega),List.drop_eq_getElem_cons hlt,List.find?_cons]
  cases hb:bu s n l[j]<;>rfl
theorem Hm (hs:s.length≤200000){n:Nat}(hn:n≤s.length){a b c d:Int}{t:List UInt8}{l:List (List UInt8)}(hl:l.length≤100)(hw: ∀x∈l,x.length≤100): ∀(k j:Nat),j+k=l.length→
  xN (ev E) s (n:Int) (bj l) (l.length:Int) (j:Int) a b t c d μ=some (match(l.drop j).find? (bu s n)with|some w=>pR 1 5 w ((n+w.length:Nat):Int) 0 μ|none=>pS a b t c d μ):=by
 intro k
 induction k with
 |zero=>
  intro j hj
  refine aV ?_
  rw[zn,cS (by omega),cond_false,List.drop_eq_nil_of_le (by omega)]
  rfl
 |succ k ih=>
  intro j hj
  have hlt:j<l.length:=by omega
  have hg:cE (bj l) (j:Int)=some (CV.str l[j]):=by rw[c6];simp[bj,hlt]
  have hwl:=hw _ (List.getElem_mem hlt)
  refine aV ?_
  rw[zn,cN hlt,cond_true,hg,aa,gn,aa,ox hs hn (by omega)]
  simp only[ad,ao,aa,ak,am,ah,ae,aj,aA,cond_true,cond_false,Bool.not_true,Bool.not_false,au,ar,aq]
  rw[bQ (by omega),fp (by omega),ih (j+1) (by omega),List.drop_eq_getElem_cons hlt,List.find?_cons]
  cases hb:bu s n l[j]<;>rfl
def rq (s:List UInt8)(n:Nat):Except Int (Tok×Nat):=xc s n dq 2 0 (xc s n [eZ,eq] 1 5 (.error 7))
def xi (s:List UInt8)(n:Nat)(c:UInt8):Except Int (Tok×Nat):=
 if bo c then(if 31<((s.drop n).takeWhile bD).length then .error 4 else .ok (⟨0,0,((s.drop n).takeWhile bD).map upB⟩,n+((s.drop n).takeWhile bD).length))
 else if aw c||(decide (c=46)&&aw ((s[n+1]?).getD 0))then jC s n
 else if c=46 then rq s n
 else if c=39∨c=34 then dV s n
 else oa s n
theorem mr {β:Type}{q:Except Int (Tok×Nat)}{k:Int→Int→List UInt8→Int→Int→Option β}:qw (.cv (kx q)) k=stB k q:=by cases q<;>rfl
theorem JS (hs : s.length ≤ 200000) {n : Nat} (hn : n < s.length) {x : Bool} {a b c d : Int} {t : List UInt8} : mW (ev E) s (n : Int) (s[n].toNat : Int) x a b t c d μ = some (
  if x=true then stN μ c8 (jC s n)else if s[n]=46 then stN μ c8 (rq s n)else if s[n]=39∨s[n]=34 then stN μ c8 (dV s n)else pD s (n:Int) a b t c d μ):=by
 have e46: ∀c:UInt8,decide ((c.toNat:Int)=46)=decide (c=46):=fun c=>bV (k:=46) (by omega)
 have e39: ∀c:UInt8,decide ((c.toNat:Int)=39)=decide (c=39):=fun c=>bV (k:=39) (by omega)
 have e34: ∀c:UInt8,decide ((c.toNat:Int)=34)=decide (c=34):=fun c=>bV (k:=34) (by omega)
 have hst: ∀(q:Except Int (Tok×Nat)),stB (fun p q u v w=>some (c8 p q u v w μ)) q=some (stN μ c8 q):=by intro q;cases q<;>rfl
 refine aU ?_
 rw[Jm,NT hs (by omega),e46,e39,e34,KC hs hn,ad,ad,mr,mr,hst,hst]
 cases x with
 |true=>rw[cond_true,if_pos rfl]
 |false=>
  rw[cond_false,if_neg (by simp)]
  by_cases h46:s[n]=46
  ·have:decide (s[n]=46)=true:=by simp[h46]
   rw[this,cond_true,if_pos h46,Kt]
   simp only[ad,ao,aa,ak,am,ah,ae,aj,aA,cond_true,cond_false,Bool.not_true,Bool.not_false,au,ar,aq]
   have e2:(bj dq).length=dq.length:=rfl
   have e0:((0:Nat):Int)=0:=rfl
   have h14:=Hl (μ:=μ) hs (Nat.le_of_lt hn) (a:=a) (b:=b) (c:=c) (d:=d) (t:=t) (l:=dq) (by decide) (by decide) dq.length 0 (by omega)
   rw[e0,List.drop_zero]at h14
   have h20:=Hm (μ:=μ) hs (Nat.le_of_lt hn) (a:=a) (b:=b) (c:=c) (d:=d) (t:=t) (l:=[eZ,eq]) (by decide) (by decide) 2 0 (by simp)
   rw[e0,List.drop_zero]at h20
   rw[e2,h14,aa]
   unfold rq xc
   cases hf:dq.find? (bu s n)with
   |some w=>simp only;rw[By];rfl
   |none=>
    simp only
    have e3:[CV.str ([46,84,82,85,69,46]:List UInt8),CV.str ([46,70,65,76,83,69,46]:List UInt8)]=bj [eZ,eq]:=rfl
    have e4:(2:Int)=(([eZ,eq]:List (List UInt8)).length:Int):=rfl
    rw[Bz,e3]
    rw[←e4]at h20
    rw[h20,aa]
    cases hf2:([eZ,eq]:List (List UInt8)).find? (bu s n)with
    |some w=>simp only;rw[BA];rfl
    |none=>simp only;rw[BB];rfl
  ·have:decide (s[n]=46)=false:=by simp[h46]
   rw[this,cond_false,if_neg h46]
   by_cases h39:s[n]=39
   ·simp[h39]
   ·by_cases h34:s[n]=34
    ·simp[h34]
    ·simp[h39,h34]
theorem NL (hs:s.length≤200000){n:Nat}(hn:n<s.length):(ev E).call 58 [LV.str s,LV.int .i64 (n:Int)] μ=some (.ret (.cv (kx (xi s n s[n]))) μ):=by
 have e46: ∀c:UInt8,decide ((c.toNat:Int)=46)=decide (c=46):=fun c=>bV (k:=46) (by omega)
 refine aN ?_
 rw[O8,bJ hn,aa,KF]
 simp only[ad,ao,aa,ak,am,ah,ae,aj,aA,cond_true,cond_false,Bool.not_true,Bool.not_false,au,ar,aq]
 unfold xi
 cases hlet:bo s[n]with
 |true=>
  have htw:((s.drop n).takeWhile bD).length≤s.length-n:=by
   have:=(List.takeWhile_sublist bD (l:=s.drop n)).length_le
   rw[List.length_drop]at this
   exact this
  rw[cond_true,MR hs (s.length-n) n (by omega),aa,EM,Pw (by omega) (by omega)]
  have e1:n+((s.drop n).takeWhile bD).length-n=((s.drop n).takeWhile bD).length:=by omega
  rw[e1,if_pos rfl]
  by_cases h31:31<((s.drop n).takeWhile bD).length
  ·have:decide ((31:Int)<(((s.drop n).takeWhile bD).length:Int))=true:=by simp;omega
   rw[this,cond_true,if_pos h31]
   rfl
  ·have:decide ((31:Int)<(((s.drop n).takeWhile bD).length:Int))=false:=by simp;omega
   have hcut:(s.drop n).take ((s.drop n).takeWhile bD).length=(s.drop n).takeWhile bD:=(List.prefix_iff_eq_take.1 (List.takeWhile_prefix _)).symm
   have hG: ∀{a b c d:Int} {t:List UInt8},Ka (ev E) s (n:Int) ((n+((s.drop n).takeWhile bD).length:Nat):Int) a b t c d μ=some (sm 0 0 (((s.drop n).takeWhile bD).map upB) ((n+((s.drop n).takeWhile bD).length:Nat):Int) 0 μ):=by
    intro a b c d t
    refine aU ?_
    rw[LF,dD (by omega) (by omega),aa,e1,hcut,KG (by omega)]
    simp only[ad,ao,aa,ak,am,ah,ae,aj,aA,cond_true,cond_false,Bool.not_true,Bool.not_false,au,ar,aq]
   rw[this,cond_false,if_neg h31,hG,aa,Eo]
   rfl
 |false=>
  rw[cond_false,ow]
  simp only[ad,ao,aa,ak,am,ah,ae,aj,aA,cond_true,cond_false,Bool.not_true,Bool.not_false,au,ar,aq,Bool.false_eq_true,if_false,e46]
  have hfin: ∀{x:Bool} {a b c d:Int} {t:List UInt8},(aw s[n]||(decide (s[n]=46)&&aw ((s[n+1]?).getD 0)))=x→(opt (mW (ev E) s (n:Int) (s[n].toNat:Int) x a b t c d μ) (kB (ev E) 58 H58 [.block 0,.seq (cA 58 [1,1,1])]))=
    some (.ret (.cv (kx (if(aw s[n]||(decide (s[n]=46)&&aw ((s[n+1]?).getD 0)))=true then jC s n else if s[n]=46 then rq s n else if s[n]=39∨s[n]=34 then dV s n else oa s n))) μ):=by
   intro x a b c d t hx
   have f0: ∀q:Except Int (Tok×Nat),kB (ev E) 58 H58 [.block 0,.seq (cA 58 [1,1,1])] (stN μ c8 q)=some (.ret (.cv (kx q)) μ):=by
    intro q
    cases q with
    |ok q=>exact rG _ _ _ _ _ _ _
    |error e=>exact rG _ _ _ _ _ _ _
   rw[JS hs hn,aa,hx]
   cases x with
   |true=>rw[if_pos rfl,if_pos rfl,f0]
   |false=>
    simp only[Bool.false_eq_true,if_false]
    by_cases h46:s[n]=46
    ·rw[if_pos h46,if_pos h46,f0]
    ·rw[if_neg h46,if_neg h46]
     by_cases hq:s[n]=39∨s[n]=34
     ·rw[if_pos hq,if_pos hq,f0]
     ·rw[if_neg hq,if_neg hq,Bg,JT hs (by omega),aa]
      cases oa s n with
      |ok q=>exact rH _ _ _ _ _ _ _
      |error e=>exact rH _ _ _ _ _ _ _
  cases hdig:aw s[n]with
  |true=>
   rw[cond_true]
   have:=hfin (x:=true) (a:=0) (b:=0) (c:=0) (d:=0) (t:=[]) (by rw[hdig];rfl)
   rw[hdig]at this
   exact this
  |false=>
   rw[cond_false]
   by_cases h46:s[n]=46
   ·have h1:decide (s[n]=46)=true:=by simp[h46]
    rw[h1,cond_true,bQ (by omega)]
    by_cases h2:n+1<s.length
    ·rw[cN h2,cond_true,bJ h2,aa,ow]
     simp only[ad,ao,aa,ak,am,ah,ae,aj,aA,cond_true,cond_false,Bool.not_true,Bool.not_false,au,ar,aq]
     have hg:(s[n+1]?).getD 0=s[n+1]:=by rw[List.getElem?_eq_getElem h2];rfl
     have:=hfin (x:=aw s[n+1]) (a:=0) (b:=0) (c:=0) (d:=0) (t:=[]) (by rw[hdig,h1,hg];rfl)
     rw[hdig,h1]at this
     exact this
    ·have hg:aw ((s[n+1]?).getD 0)=false:=by rw[List.getElem?_eq_none (by omega)];rfl
     rw[cS (by omega),cond_false]
     have:=hfin (x:=false) (a:=0) (b:=0) (c:=0) (d:=0) (t:=[]) (by rw[hdig,h1,hg];rfl)
     rw[hdig,h1]at this
     exact this
   ·have h1:decide (s[n]=46)=false:=by simp[h46]
    rw[h1,cond_false]
    have:=hfin (x:=false) (a:=0) (b:=0) (c:=0) (d:=0) (t:=[]) (by rw[hdig,h1];rfl)
    rw[hdig,h1]at this
    exact this
end
end Go.Abs
