/-
  The statement TokensBlanksCardSaid, proved; part 6 of 8 of its proof.
  A number as a token.
  CHARACTER constants: what stands between quotes, plainly.
  The scanner's own list and the places that it keeps; CHARACTER constants.
  The arguments of this chapter's laws.
  Hollerith constants, operators, tokens.
  Operators, tokens.
  All tokens of a text.
  Digits and the numbers that they spell: plain facts.
  The scanner in free form, plainly; words between dots, as the reference looks for them.
  The reference's small functions.
  The reference's numbers.
  The reference's number is the program's.
  The reference's CHARACTER constants and tokens.
-/
import Derived.Test.YtfcjjankfjaapaaGreatDoorK4
import Derived.Lib.ItoaLen
import Derived.Test.YtfcjjankfjaapaaGreatDoorK2
import Derived.Lib.IndexMore
import Derived.Lib.IndexBytes
import Derived.Lib.Replace
import Derived.Test.YtfcjjankfjaapaaGreatDoorK3
import Derived.Lib.AtoiAllCases
set_option linter.all false
set_option linter.unusedSectionVars false
set_option linter.unusedVariables false
set_option linter.unusedSimpArgs false
set_option maxRecDepth 100000
namespace Go.Abs
open Go Go.Proofs
def rH (μ:Mu):Except Int (Tok×Nat)→Out
 | .ok q=> .ret (.ltup [.cv q.1.cv,LV.int .i64 (q.2:Int)]) μ
 | .error e=> .panic (gH e) μ
def dY (whole part:List UInt8):List UInt8:=bh (dn whole)++[46]++bh (bQ part)
def ep (digits:List UInt8)(ok:Bool):List UInt8:=if ok then Lib.itoa (cg digits)else [48]
def c8 (text pow:List UInt8)(letter:UInt8)(ok:Bool):Tok:=
 if letter=68∧ok=true then⟨1,2,text++[68]++pow⟩else if pow=[48]then⟨1,1,text⟩else⟨1,1,text++([69]++pow)⟩
def jr (whole part digits:List UInt8)(ok:Bool):Bool:=decide (30<(dn whole).length+(bQ part).length)||(decide (3<(Lib.trimPrefix digits [45]).length)&&ok)
def real (whole part digits:List UInt8)(letter:UInt8)(ok:Bool)(e:Nat):Except Int (Tok×Nat):=
 if jr whole part digits ok then .error 7 else .ok (c8 (dY whole part) (ep digits ok) letter ok,e)
def bx (fx:Bool)(s:List UInt8)(n:Nat):List UInt8:=cj fx ah s n
def bS (fx:Bool)(s:List UInt8)(n:Nat):Bool:=decide (atC fx s (runE fx ah s n)=46)&&(!(bg fx s (runE fx ah s n)).2.2||decide (bx fx s n=[]))
def cB (fx:Bool)(s:List UInt8)(n:Nat):List UInt8:=if bS fx s n then cj fx ah s (atE fx s (runE fx ah s n))else []
def numEnd (fx:Bool)(s:List UInt8)(n:Nat):Nat:=if bS fx s n then runE fx ah s (atE fx s (runE fx ah s n))else runE fx ah s n
def bO (fx:Bool)(s:List UInt8)(n:Nat):Except Int (Tok×Nat):=
 let q:=aL fx s (numEnd fx s n)
 if !bS fx s n&& !q.2.2.2 then(match bU (bx fx s n)with| .ok t=> .ok (t,numEnd fx s n)| .error e=> .error e)
 else real (bx fx s n) (cB fx s n) q.2.1 q.1 q.2.2.2 (if q.2.2.2 then q.2.2.1 else numEnd fx s n)
def stT (μ:Mu)(xr:Int→Int→Int→List UInt8→Mu→St)(xp:CV→Mu→St):Except Int (Tok×Nat)→St
 | .ok q=>xr (q.2:Int) q.1.kind q.1.type q.1.text μ
 | .error e=>xp (gH e) μ
section
variable {μ:Mu}{l i:Nat}{s:List UInt8}{fx:Bool}{r:List LV}
theorem RT {e:Nat}{text pow:List UInt8}{a b:Int}{c:List UInt8}(h:text.length+pow.length≤1000000):
  wJ (ev E) (e:Int) text pow a b c μ=some (lO (e:Int) 1 1 (if pow=[48]then text else text++([69]++pow)) μ):=by
 refine aZ ?_
 rw[J1]
 by_cases hp:pow=[48]
 ·have:decide (pow=[48])=true:=by simp[hp]
  rw[this,if_pos hp];rfl
 ·have:decide (pow=[48])=false:=by simp[hp]
  rw[this,if_neg hp]
  simp only[ad,aq,aa,am,ao,aj,ae,ak,az,cond_true,cond_false,Bool.not_true,Bool.not_false,av,au,ar]
  rw[bq (by simp;omega),bq (by simp;omega)]
  simp only[ad,aq,aa,am,ao,aj,ae,ak,az,cond_true,cond_false,Bool.not_true,Bool.not_false,av,au,ar]
theorem NK {e:Nat}{letter:UInt8}{ok:Bool}{text pow:List UInt8}{a b:Int}{c:List UInt8}(h:text.length+pow.length≤1000000):
  wI (ev E) (e:Int) (letter.toNat:Int) ok text pow a b c μ=some (lN (e:Int) (c8 text pow letter ok).kind (c8 text pow letter ok).type (c8 text pow letter ok).text μ):=by
 have e68:decide ((letter.toNat:Int)=68)=decide (letter=68):=co (k:=68) (by omega)
 refine aZ ?_
 rw[J0,e68,RT h,aa,AY]
 by_cases hl:letter=68
 ·cases ok with
  |true=>
   have:c8 text pow letter true=⟨1,2,text++[68]++pow⟩:=by simp[c8,hl]
   rw[this]
   simp only[hl,decide_true,ad,aq,aa,am,ao,aj,ae,ak,az,cond_true,cond_false,Bool.not_true,Bool.not_false,av,au,ar]
   rw[bq (by simp;omega),bq (by simp;omega)]
   simp only[ad,aq,aa,am,ao,aj,ae,ak,az,cond_true,cond_false,Bool.not_true,Bool.not_false,av,au,ar]
  |false=>
   simp only[hl,decide_true,ad,aq,aa,am,ao,aj,ae,ak,az,cond_true,cond_false,Bool.not_true,Bool.not_false,av,au,ar]
   by_cases hp:pow=[48]<;>simp[c8,hp]
 ·simp only[hl,decide_false,ad,aq,aa,am,ao,aj,ae,ak,az,cond_true,cond_false,Bool.not_true,Bool.not_false,av,au,ar]
  by_cases hp:pow=[48]<;>simp[c8,hp,hl]
theorem ir (t:List UInt8):(bh t).length≤t.length+1:=by
 unfold bh
 split<;>simp
theorem RS {e:Nat}{letter:UInt8}{ok:Bool}{whole part digits:List UInt8}{a b:Int}{c:List UInt8}(h1:whole.length≤200000)(h2:part.length≤200000)(h3:digits.length≤200001)(h4:(ep digits ok).length≤100):
  nY (ev E) (e:Int) whole part (letter.toNat:Int) digits ok a b c μ=some (o7 (e:Int) (c8 (dY whole part) (ep digits ok) letter ok).kind (c8 (dY whole part) (ep digits ok) letter ok).type (c8 (dY whole part) (ep digits ok) letter ok).text μ):=by
 refine aZ ?_
 have k1:=yu whole
 have k2:=yv part
 have k3:=ir (dn whole)
 have k4:=ir (bQ part)
 rw[JZ,PV]
 simp only[ad,aq,aa,am,ao,aj,ae,ak,az,cond_true,cond_false,Bool.not_true,Bool.not_false,av,au,ar]
 rw[bq (by simp;omega)]
 simp only[ad,aq,aa,am,ao,aj,ae,ak,az,cond_true,cond_false,Bool.not_true,Bool.not_false,av,au,ar]
 rw[PW (by omega)]
 simp only[ad,aq,aa,am,ao,aj,ae,ak,az,cond_true,cond_false,Bool.not_true,Bool.not_false,av,au,ar]
 rw[bq (by simp;omega)]
 have ht:bh (dn whole)++[46]++bh (bQ part)=dY whole part:=rfl
 have hl:(dY whole part).length≤400003:=by rw[←ht];simp;omega
 cases ok with
 |true=>
  have hr:=iK digits
  simp only[ad,aq,aa,am,ao,aj,ae,ak,az,cond_true,cond_false,Bool.not_true,Bool.not_false,av,au,ar,FX (show digits.length≤1000000 by omega),uB,mh,Ny hr.1 hr.2]
  have hp:Lib.itoa (cg digits)=ep digits true:=rfl
  rw[hp,ht,NK (by omega),aa,rE]
 |false=>
  simp only[ad,aq,aa,am,ao,aj,ae,ak,az,cond_true,cond_false,Bool.not_true,Bool.not_false,av,au,ar]
  have hp:([48]:List UInt8)=ep digits false:=rfl
  rw[hp,ht,NK (by omega),aa,rE]
theorem xo (a b:List UInt8):(Lib.trimPrefix a b).length≤a.length:=Lib.trimPrefix_le a b
theorem NJ {e:Nat}{letter:UInt8}{ok:Bool}{whole part digits:List UInt8}{a b:Int}{c:List UInt8}(h1:whole.length≤200000)(h2:part.length≤200000)(h3:digits.length≤200001)(h4:(ep digits ok).length≤100):
  wH (ev E) (e:Int) whole part (letter.toNat:Int) digits ok a b c μ=some (stT μ o6 ig (real whole part digits letter ok e)):=by
 refine aZ ?_
 rw[JY,PR (by omega) (by omega)]
 simp only[ad,aq,aa,am,ao,aj,ae,ak,az,cond_true,cond_false,Bool.not_true,Bool.not_false,av,au,ar,jM,d7,PS]
 have k0:=xo digits [45]
 have e30:decide ((30:Int)<(((dn whole).length+(bQ part).length:Nat):Int))=decide (30<(dn whole).length+(bQ part).length):=by simp;omega
 have e3:decide ((3:Int)<((Lib.trimPrefix digits [45]).length:Int))=decide (3<(Lib.trimPrefix digits [45]).length):=by simp;omega
 rw[e30,e3,RS h1 h2 h3 h4,aa,AX]
 unfold real jr
 cases decide (30<(dn whole).length+(bQ part).length)<;>cases decide (3<(Lib.trimPrefix digits [45]).length)<;>cases ok<;>rfl
theorem RR {e x:Nat}{letter:UInt8}{ok:Bool}{whole part digits:List UInt8}{a b:Int}{c:List UInt8}(h1:whole.length≤200000)(h2:part.length≤200000)(h3:digits.length≤200001)(h4:(ep digits ok).length≤100):
  wG (ev E) (e:Int) whole part (letter.toNat:Int) digits (x:Int) ok a b c μ=some (stT μ lK lL (real whole part digits letter ok (if ok then x else e))):=by
 refine aZ ?_
 rw[JX]
 cases ok with
 |true=>
  rw[cond_true,NJ h1 h2 h3 h4,aa]
  simp only[if_true]
  cases real whole part digits letter true x with
  |ok q=>exact rC _ _ _ _ _ _
  |error e=>exact rD _ _ _
 |false=>
  rw[cond_false,NJ h1 h2 h3 h4,aa]
  simp only[Bool.false_eq_true,if_false]
  cases real whole part digits letter false e with
  |ok q=>exact rC _ _ _ _ _ _
  |error e=>exact rD _ _ _
theorem bB {β:Type}{t:Tok}{k:Int→Int→List UInt8→Option β}:cO (.cv t.cv) k=k t.kind t.type t.text:=rfl
theorem S2 (h:Sc μ l i s fx r)(hs:s.length≤200000){whole part:List UInt8}{dot:Bool}{n:Nat}(hn:n≤s.length)(h1:whole.length≤200000)(h2:part.length≤200000)(h3:(aL fx s n).2.1.length≤200001)(h4:(ep (aL fx s n).2.1 (aL fx s n).2.2.2).length≤100):
  nZ (ev E) l i (n:Int) whole part dot 0 0 [] μ=some (stT μ jc gJ (if !dot&& !(aL fx s n).2.2.2 then(match bU whole with| .ok t=> .ok (t,n)| .error e=> .error e)else real whole part (aL fx s n).2.1 (aL fx s n).1 (aL fx s n).2.2.2 (if(aL fx s n).2.2.2 then(aL fx s n).2.2.1 else n))):=by
 refine aZ ?_
 rw[L5,PP h hs hn]
 simp only[ad,aq,aa,am,ao,aj,ae,ak,az,cond_true,cond_false,Bool.not_true,Bool.not_false,av,au,ar]
 rw[RR h1 h2 h3 h4,aa,PQ (by omega)]
 have hreal:kS (ev E) cT [] [(4,0),(5,0)] (stT μ lK lL (real whole part (aL fx s n).2.1 (aL fx s n).1 (aL fx s n).2.2.2 (if(aL fx s n).2.2.2 then(aL fx s n).2.2.1 else n)))=
   some (stT μ jc gJ (real whole part (aL fx s n).2.1 (aL fx s n).1 (aL fx s n).2.2.2 (if(aL fx s n).2.2.2 then(aL fx s n).2.2.1 else n))):=by
  cases real whole part (aL fx s n).2.1 (aL fx s n).1 (aL fx s n).2.2.2 (if(aL fx s n).2.2.2 then(aL fx s n).2.2.1 else n)with
  |ok q=>exact AV _ _ _ _ _ _
  |error e=>exact AW _ _ _
 rw[hreal]
 cases dot with
 |true=>rfl
 |false=>
  cases (aL fx s n).2.2.2 with
  |true=>rfl
  |false=>
   simp only[ad,aq,aa,am,ao,aj,ae,ak,az,cond_true,cond_false,Bool.not_true,Bool.not_false,av,au,ar,Bool.and_self,if_true]
   cases bU whole with
   |ok t=>simp only[Qz,ad,bB];rfl
   |error e=>rfl
theorem Km (digits:List UInt8)(ok:Bool):(ep digits ok).length≤100:=by
 have hr:=iK digits
 have:=Lib.itoa_length_le _ hr.1 hr.2
 unfold ep
 split
 ·omega
 ·simp
theorem JE (h:Sc μ l i s fx r)(hs:s.length≤200000){n:Nat}(hn:n≤s.length):
  (ev E).call 171 [LV.cv (CV.ref l i 0),LV.int .i64 (n:Int)] μ=some (rH μ (bO fx s n)):=by
 have e46: ∀c:UInt8,decide ((c.toNat:Int)=46)=decide (c=46):=fun c=>co (k:=46) (by omega)
 have hle:=iy (fx:=fx) (p:=ah) hn
 have hle2:=gh (fx:=fx) hle
 have hle3:=iy (fx:=fx) (p:=ah) hle2
 have hr1:=i8 (fx:=fx) (s:=s) (p:=ah) (n:=n)
 have hr2:=i8 (fx:=fx) (s:=s) (p:=ah) (n:=atE fx s (runE fx ah s n))
 have hx: ∀m,(aL fx s m).2.1.length≤200001:=by
  intro m
  unfold aL
  split
  ·have:=i8 (fx:=fx) (s:=s) (p:=ah) (n:=expStart fx s m)
   simp only[List.length_append,bX,aP]
   split<;>simp<;>omega
  ·simp
 have fin: ∀q:Except Int (Tok×Nat),kB (ev E) 171 cT [] (stT μ jc gJ q)=some (rH μ q):=by
  intro q
  cases q with
  |ok q=>exact Cu _ _ _ _ _ _
  |error e=>
   simp only[stT]
   rw[Cv]
   rfl
 have hend:numEnd fx s n≤s.length:=by unfold numEnd;split<;>assumption
 have key: ∀(dot:Bool),bS fx s n=dot→(opt (nZ (ev E) l i (numEnd fx s n:Nat) (bx fx s n) (cB fx s n) dot 0 0 [] μ) (kB (ev E) 171 cT []))=some (rH μ (bO fx s n)):=by
  intro dot hd
  rw[S2 h hs hend (by unfold bx;omega) (by unfold cB;split<;>first|omega|simp) (hx _) (Km _ _),aa,fin]
  unfold bO
  rw[hd]
 refine aO ?_
 rw[RB,oA h (by omega) (fun c=>lk) hn]
 simp only[ad,aq,aa,am,ao,aj,ae,ak,az,cond_true,cond_false,Bool.not_true,Bool.not_false,av,au,ar]
 rw[gU h (by omega) hle]
 simp only[ad,aq,aa,am,ao,aj,ae,ak,az,cond_true,cond_false,Bool.not_true,Bool.not_false,av,au,ar,e46]
 have hw:cj fx ah s n=bx fx s n:=rfl
 by_cases hc:atC fx s (runE fx ah s n)=46
 ·have hc':decide (atC fx s (runE fx ah s n)=46)=true:=by simp[hc]
  rw[hc',cond_true,JF h hs hle]
  simp only[ad,aq,aa,am,ao,aj,ae,ak,az,cond_true,cond_false,Bool.not_true,Bool.not_false,av,au,ar]
  rw[oA h (by omega) (fun c=>lk) hle2]
  simp only[ad,aq,aa,am,ao,aj,ae,ak,az,cond_true,cond_false,Bool.not_true,Bool.not_false,av,au,ar]
  cases hdo:(bg fx s (runE fx ah s n)).2.2 with
  |false=>
   have hd:bS fx s n=true:=by simp[bS,hc,hdo]
   have:=key true hd
   simp only[numEnd,cB,hd,if_true]at this
   simp only[ad,aq,aa,am,ao,aj,ae,ak,az,cond_true,cond_false,Bool.not_true,Bool.not_false,av,au,ar,hw]
   exact this
  |true=>
   simp only[ad,aq,aa,am,ao,aj,ae,ak,az,cond_true,cond_false,Bool.not_true,Bool.not_false,av,au,ar,hw]
   by_cases hz:bx fx s n=[]
   ·have hd:bS fx s n=true:=by simp[bS,hc,hz]
    have:=key true hd
    simp only[numEnd,cB,hd,if_true]at this
    have h5:decide (bx fx s n=[])=true:=by simp[hz]
    rw[h5,cond_true]
    exact this
   ·have hd:bS fx s n=false:=by simp[bS,hdo,hz]
    have:=key false hd
    simp only[numEnd,cB,hd,Bool.false_eq_true,if_false]at this
    have h5:decide (bx fx s n=[])=false:=by simp[hz]
    rw[h5,cond_false]
    exact this
 ·have hc':decide (atC fx s (runE fx ah s n)=46)=false:=by simp[hc]
  have hd:bS fx s n=false:=by simp[bS,hc]
  have:=key false hd
  simp only[numEnd,cB,hd,Bool.false_eq_true,if_false]at this
  rw[hc',cond_false,hw]
  exact this
end
end Go.Abs
set_option linter.unusedVariables false
set_option linter.unusedSimpArgs false
namespace Go.Abs
open Go
def bE (q:UInt8):List UInt8→Option (List UInt8×Nat)
 |[]=>none
 |[c]=>if c=q then some ([],1)else none
 |c::d::r=>if c=q then(if d=q then(bE q r).map (fun x=>(q::x.1,x.2+2))else some ([],1))else(bE q (d::r)).map fun x=>(c::x.1,x.2+1)
theorem fv {q c:UInt8}(h:c≠q)(r:List UInt8):bE q (c::r)=(bE q r).map fun x=>(c::x.1,x.2+1):=by
 cases r with
 |nil=>simp[bE,h]
 |cons d r=>rw[bE,if_neg h]
theorem eM {q:UInt8}(r:List UInt8):bE q (q::q::r)=(bE q r).map fun x=>(q::x.1,x.2+2):=by
 rw[bE,if_pos rfl,if_pos rfl]
theorem ei {q:UInt8}{r:List UInt8}(h: ∀d t,r=d::t→d≠q):bE q (q::r)=some ([],1):=by
 cases r with
 |nil=>simp[bE]
 |cons d r=>rw[bE,if_pos rfl,if_neg (h d r rfl)]
theorem yh {q:UInt8}: ∀(a l:List UInt8),(∀b∈a,b≠q)→bE q (a++l)=(bE q l).map fun x=>(a++x.1,a.length+x.2)
 |[],l,_=>by
  simp only[List.nil_append,List.length_nil,Nat.zero_add]
  cases bE q l<;>rfl
 |c::a,l,h=>by
  rw[List.cons_append,fv (h c List.mem_cons_self),yh a l (fun b hb=>h b (List.mem_cons_of_mem _ hb))]
  cases bE q l with
  |none=>rfl
  |some x=>simp only[Option.map_some,List.cons_append,List.length_cons];congr 2;omega
theorem vZ {q:UInt8}: ∀(l:List UInt8),(∀b∈l,b≠q)→bE q l=none
 |[],_=>rfl
 |c::r,h=>by rw[fv (h c List.mem_cons_self),vZ r (fun b hb=>h b (List.mem_cons_of_mem _ hb))];rfl
theorem nA {q:UInt8}: ∀(n:Nat) (l:List UInt8),l.length≤n→ ∀t k,bE q l=some (t,k)→1≤k∧k≤l.length∧t.length+1≤k
 |0,l,hn,t,k,h=>by
  have:l=[]:=List.eq_nil_of_length_eq_zero (by omega)
  subst this
  cases h
 |n+1,[],hn,t,k,h=>by cases h
 |n+1,c::r,hn,t,k,h=>by
  simp only[List.length_cons]at hn ⊢
  by_cases hc:c=q
  ·subst hc
   cases r with
   |nil=>
    rw[ei (by intro d t h;cases h)]at h
    cases h
    simp
   |cons d r=>
    by_cases hd:d=c
    ·subst hd
     rw[eM]at h
     cases hq:bE d r with
     |none=>rw[hq]at h;cases h
     |some x=>
      rw[hq]at h
      cases h
      simp only[List.length_cons]at hn ⊢
      have:=nA n r (by omega) x.1 x.2 hq
      omega
    ·rw[ei (by intro e t h;cases h;exact hd)]at h
     cases h
     simp
  ·rw[fv hc]at h
   cases hq:bE q r with
   |none=>rw[hq]at h;cases h
   |some x=>
    rw[hq]at h
    cases h
    have:=nA n r (by omega) x.1 x.2 hq
    simp only[List.length_cons]
    omega
theorem kD (l:List UInt8)(q:UInt8):(Lib.index l [q]= -1∧ ∀b∈l,b≠q)∨(∃a r,l=a++q::r∧(∀b∈a,b≠q)∧Lib.index l [q]=(a.length:Int)):=by
 induction l with
 |nil=>exact Or.inl ⟨rfl,by simp⟩
 |cons c l ih=>
  by_cases hc:c=q
  ·subst hc
   refine Or.inr ⟨[],l,rfl,by simp,?_⟩
   simp[Lib.index,List.isPrefixOf]
  ·have hp:([q].isPrefixOf (c::l))=false:=by
    have:(q == c)=false:=by simpa using fun h:q=c=>hc h.symm
    simp[List.isPrefixOf,this]
   rcases ih with⟨h1,h2⟩|⟨a,r,h1,h2,h3⟩
   ·refine Or.inl ⟨?_,?_⟩
    ·simp only[Lib.index,hp,h1];rfl
    ·intro b hb
     rcases List.mem_cons.1 hb with rfl|hb
     ·exact hc
     ·exact h2 b hb
   ·refine Or.inr ⟨c::a,r,by rw[h1];rfl,?_,?_⟩
    ·intro b hb
     rcases List.mem_cons.1 hb with rfl|hb
     ·exact hc
     ·exact h2 b hb
    ·have hne:(Lib.index l [q] == -1)=false:=by rw[h3];simp;try omega
     simp only[Lib.index,hp,hne,h3]
     simp
def dbl:List UInt8→List UInt8
 |[]=>[]
 |c::r=>if c=39 then 39::39::dbl r else c::dbl r
theorem ji: ∀(a l:List UInt8),(∀b∈a,b≠39)→dbl (a++l)=a++dbl l
 |[],l,_=>rfl
 |c::a,l,h=>by
  rw[List.cons_append,dbl,if_neg (h c List.mem_cons_self),ji a l (fun b hb=>h b (List.mem_cons_of_mem _ hb))]
  rfl
theorem mf: ∀(l:List UInt8),(dbl l).length≤2*l.length
 |[]=>Nat.le_refl _
 |c::r=>by
  have:=mf r
  unfold dbl
  split<;>simp only[List.length_cons]<;>omega
theorem rL: ∀(k:Nat) (l:List UInt8),Lib.count l [39]≤k→Lib.replaceK [39] [39,39] k l=dbl l
 |0,l,h=>by
  rcases kD l 39 with⟨h1,h2⟩|⟨a,r,h1,h2,h3⟩
  ·have:=ji l [] h2
   simp only[List.append_nil,dbl]at this
   rw[this];rfl
  ·exfalso
   have:=Lib.count_hit (sub:=[39]) (by simp) h3
   omega
 |k+1,l,h=>by
  rcases kD l 39 with⟨h1,h2⟩|⟨a,r,h1,h2,h3⟩
  ·have:=ji l [] h2
   simp only[List.append_nil,dbl]at this
   rw[this,Lib.replaceK,h1];rfl
  ·have hc:=Lib.count_hit (sub:=[39]) (by simp) h3
   rw[Lib.replaceK_hit _ _ _ _ _ h3]
   have hd:l.drop (a.length+([39]:List UInt8).length)=r:=by
    rw[h1,List.length_singleton,←List.drop_drop,List.drop_left' rfl];rfl
   have ht:l.take a.length=a:=by rw[h1,List.take_left' rfl]
   have hc':Lib.count l [39]=1+Lib.count r [39]:=by rw[hc,hd]
   rw[hd,ht,rL k r (by omega),h1,ji a _ h2,dbl,if_pos rfl]
   simp
theorem xm (l:List UInt8):Lib.replaceAll l [39] [39,39]=dbl l:=by
 unfold Lib.replaceAll Lib.replace Lib.replaceNum
 rw[if_neg (by decide),if_pos (Or.inl (by decide))]
 exact rL _ _ (Nat.le_refl _)
end Go.Abs
set_option linter.unusedVariables false
set_option linter.unusedSimpArgs false
set_option maxRecDepth 100000
namespace Go.Abs
open Go Go.Proofs
def A3:LV:= .cv (.v (.slice none 0 0))
def aA (l:List Tok):List CV:=l.map Tok.cv
def bG (l:List Nat):List CV:=l.map fun(n:Nat)=>CV.int .i64 (n:Int)
def tL (l:List Tok):LV:=if l=[]then A3 else .osl (aA l)
def kL (l:List Nat):LV:=if l=[]then A3 else .osl (bG l)
def scO (s:List UInt8)(fx:Bool)(out:List Tok)(kept:List Nat):Ob:= .cells [LV.str s,LV.bool fx,tL out,kL kept]
def scM (b:Mu)(s:List UInt8)(fx:Bool)(out:List Tok)(kept:List Nat):Mu:=b++[[scO s fx out kept]]
theorem oO (b:Mu)(o:Ob):bb (b++[[o]]) b.length 0=o:=by simp[bb]
theorem oP (b:Mu)(o o':Ob):ci (b++[[o]]) b.length 0 o'=b++[[o']]:=by simp[ci]
section
variable {b:Mu}{s:List UInt8}{fx:Bool}{out:List Tok}{kept:List Nat}
theorem kM:Sc (scM b s fx out kept) b.length 0 s fx [tL out,kL kept]:=oO _ _
theorem Ki:fG (tL out)=some (aA out):=by unfold tL;split<;>rename_i h<;>(try subst h)<;>rfl
theorem Kh:fG (kL kept)=some (bG kept):=by unfold kL;split<;>rename_i h<;>(try subst h)<;>rfl
theorem Hy:cF (strip (tL out))=some (aA out):=by unfold tL;split<;>rename_i h<;>(try subst h)<;>rfl
theorem RX {a b c d:LV}:lp E.P 38 (.cells [a,b,c,d]) 3=some (d,.cells [a,b,c,strip d]):=by kernel_rfl
theorem QR {a b c d:LV}{l:List CV}:bP E.P 38 (.cells [a,b,c,d]) 3 (LV.osl l)=some (.cells [a,b,c,.osl l]):=by kernel_rfl
theorem RW {a b c d:LV}:lp E.P 32 (.cells [a,b,c,d]) 2=some (c,.cells [a,b,strip c,d]):=by kernel_rfl
theorem QQ {a b c d:LV}{l:List CV}:bP E.P 32 (.cells [a,b,c,d]) 2 (LV.osl l)=some (.cells [a,b,.osl l,d]):=by kernel_rfl
theorem NI {a b c d:LV}:bH E.P 32 (.cells [a,b,c,d]) 2=some (strip c):=by kernel_rfl
theorem pw: ∀(l:List Nat),gD 1 (bG l)=true
 |[]=>rfl
 |a::l=>by
  have e:bG (a::l)=CV.int .i64 (a:Int)::bG l:=rfl
  rw[e]
  simp only[gD]
  have:fg 1 (CV.int .i64 (a:Int))=true:=rfl
  rw[this]
  exact pw l
theorem px: ∀(l:List Tok),gD 3 (aA l)=true
 |[]=>rfl
 |a::l=>by
  have e:aA (a::l)=a.cv::aA l:=rfl
  rw[e]
  simp only[gD]
  have:fg 3 a.cv=true:=rfl
  rw[this]
  exact px l
theorem nJ {n:Nat}: ∀(l:List Nat),ck n (bG l)=true
 |[]=>rfl
 |a::l=>by
  have e:bG (a::l)=CV.int .i64 (a:Int)::bG l:=rfl
  rw[e]
  simp only[ck]
  have:below n (CV.int .i64 (a:Int))=true:=rfl
  rw[this]
  exact nJ l
theorem nK {n:Nat}: ∀(l:List Tok),ck n (aA l)=true
 |[]=>rfl
 |a::l=>by
  have e:aA (a::l)=a.cv::aA l:=rfl
  rw[e]
  simp only[ck]
  have:below n a.cv=true:=rfl
  rw[this]
  exact nK l
theorem Ft {a c:List Nat}(h:a.length+c.length≤1000000):gE 1 (bG a) (bG c)=true:=by
 unfold gE
 rw[pw,pw]
 simp[bn,bG]
 omega
theorem vd {a c:List Tok}(h:a.length+c.length≤1000000):gE 3 (aA a) (aA c)=true:=by
 unfold gE
 rw[px,px]
 simp[bn,aA]
 omega
theorem PD {n:Nat}:LV.osl (bG kept++[CV.int .i64 (n:Int)])=kL (kept++[n]):=by
 unfold kL
 rw[if_neg (by simp)]
 simp[bG]
theorem QJ {t:Tok}:LV.osl (aA out++[t.cv])=tL (out++[t]):=by
 unfold tL
 rw[if_neg (by simp)]
 simp[aA]
theorem Ow (hs:s.length≤200000): ∀(k a e:Nat) (kept:List Nat),a+k=e→e≤300000→kept.length+k≤600000→
  zt (ev E) b.length 0 (e:Int) (a:Int) (scM b s fx out kept)=some (qU (scM b s fx out (kept++List.range' a k))):=by
 intro k
 induction k with
 |zero=>
  intro a e kept hk he hq
  refine aW ?_
  rw[AO]
  have h1:decide ((a:Int)<(e:Int))=false:=by simp;omega
  rw[h1,cond_false]
  simp
 |succ k ih=>
  intro a e kept hk he hq
  refine aW ?_
  rw[AO]
  have h1:decide ((a:Int)<(e:Int))=true:=by simp;omega
  rw[h1,cond_true]
  unfold scM
  rw[oO]
  unfold scO
  rw[RX,aa,Kh,aa]
  have ha:[CV.int .i64 (a:Int)]=bG [a]:=rfl
  rw[ha,Ft (by simp;omega),az]
  have hb:ck (b.length+1) (bG kept++bG [a])=true:=by
   have:bG kept++bG [a]=bG (kept++[a]):=by simp[bG]
   rw[this];exact nJ _
  rw[hb,az,oP,oO,QR,aa,oP,cp (by omega) (by omega)]
  have:=ih (a+1) e (kept++[a]) (by omega) he (by simp;omega)
  unfold scM scO at this
  rw[←ha,PD]
  have e1:((a+1:Nat):Int)=(a:Int)+1:=by omega
  rw[←e1,this]
  simp[List.range'_succ]
theorem JG (hs:s.length≤200000){a e:Nat}(h:a≤e)(he:e≤300000)(hk:kept.length+(e-a)≤600000):
  (ev E).call 189 [LV.cv (CV.ref b.length 0 0),LV.int .i64 (a:Int),LV.int .i64 (e:Int)] (scM b s fx out kept)=some (.ret (.ltup []) (scM b s fx out (kept++List.range' a (e-a)))):=by
 refine aO ?_
 rw[RF,Ow hs (e-a) a e kept (by omega) he hk,aa,CR]
def aR (t:List UInt8):List UInt8:=[39]++dbl t++[39]
theorem NB {t:List UInt8}{μ:Mu}(h:t.length≤200000):(ev E).call 86 [LV.str t] μ=some (.ret (.cv (Tok.cv ⟨1,6,aR t⟩)) μ):=by
 refine aO ?_
 have hd:=mf t
 rw[SQ,Rg (by omega) (by simp) (by simp),ad,aj,aa,xm,bq (by simp;omega),az,bq (by simp;omega),az]
 rfl
theorem e7 {α:Type}{l:List α}{a e:Nat}(h1:a≤e)(h2:e≤l.length):di l (a:Int) (e:Int)=some ((l.drop a).take (e-a)):=by
 unfold di
 have:(decide ((0:Int)≤(a:Int))&&decide ((a:Int)≤(e:Int))&&decide ((e:Int)≤(l.length:Int)))=true:=by simp;omega
 rw[this]
 have e1:((a:Int)).toNat=a:=by omega
 have e2:((e:Int) -(a:Int)).toNat=e-a:=by omega
 simp only[e1,e2]
theorem pE {α:Type}{l:List α}{a:Nat}(h1:a≤l.length):di l (a:Int) (l.length:Int)=some (l.drop a):=by
 rw[e7 h1 (Nat.le_refl _)]
 congr 1
 apply List.take_of_length_le
 simp
noncomputable def Am (b:Mu)(q:Int)(from_ i:Nat)(t:List UInt8)(μ:Mu):Option (List UInt8×Nat)→St
 |none=>nj (gH 7) μ
 |some (x,k)=>qT b.length 0 ((i+k:Nat):Int) (from_:Int) (t++x) 0 0 [] μ
theorem yB {c:UInt8}(l:List UInt8):Lib.hasPrefix l [c]=(match l with|[]=>false|d::_=>decide (d=c)):=by
 cases l with
 |nil=>simp[Lib.hasPrefix]
 |cons d r=>
  by_cases h:d=c
  ·subst h;simp[Lib.hasPrefix,List.isPrefixOf]
  ·have:(c == d)=false:=by simpa using fun e:c=d=>h e.symm
   simp[Lib.hasPrefix,List.isPrefixOf,h,this]
noncomputable def uD (b:Mu)(i:Int)(q:UInt8)(from_:Int)(t:List UInt8)(μ:Mu):List UInt8→St
 |[]=>na b.length 0 i [q] from_ t 0 0 [] μ
 |d::_=>if d=q then qI b.length 0 i [q] from_ (t++[q]) 0 0 [] μ else na b.length 0 i [q] from_ t 0 0 [] μ
theorem Ov (hs:s.length≤200000){q:UInt8}{from_:Nat}: ∀(k i:Nat) (t:List UInt8),s.length-i≤k→i≤s.length→t.length≤i→
  zs (ev E) b.length 0 (i:Int) [q] (from_:Int) t 0 0 [] (scM b s fx out kept)=some (Am b 0 from_ i t (scM b s fx out kept) (bE q (s.drop i))):=by
 intro k
 induction k with
 |zero=>
  intro i t hk hi ht
  refine aW ?_
  have h:=kM (b:=b) (s:=s) (fx:=fx) (out:=out) (kept:=kept)
  have hd:s.drop i=[]:=List.drop_eq_nil_of_le (by omega)
  rw[AN,h,fm,dm,aa,aj,aa,pE hi,aa,hd,JC (by simp)]
  simp only[ad,aq,aa,am,ao,aj,ae,ak,az,cond_true,cond_false,Bool.not_true,Bool.not_false,av,au,ar]
  have hx:Lib.index [] [q]= -1:=rfl
  have hx2:decide ((-1:Int)<0)=true:=by decide
  rw[hx,hx2,cond_true,jM,d7]
  rfl
 |succ k ih=>
  intro i t hk hi ht
  refine aW ?_
  have h:=kM (b:=b) (s:=s) (fx:=fx) (out:=out) (kept:=kept)
  rw[AN,h,fm,dm,aa,aj,aa,pE hi,aa,JC (by simp;omega)]
  simp only[ad,aq,aa,am,ao,aj,ae,ak,az,cond_true,cond_false,Bool.not_true,Bool.not_false,av,au,ar]
  rcases kD (s.drop i) q with⟨h1,h2⟩|⟨a,r,h1,h2,h3⟩
  ·have hx2:decide ((-1:Int)<0)=true:=by decide
   rw[h1,hx2,cond_true,jM,d7,vZ _ h2]
   rfl
  ·have hx2:decide ((a.length:Int)<0)=false:=by simp
   have hlen:a.length+1+r.length=s.length-i:=by
    have:(s.drop i).length=(a++q::r).length:=by rw[h1]
    simp only[List.length_drop,List.length_append,List.length_cons]at this
    omega
   have hr:s.drop (i+(a.length+1))=r:=by
    rw[←List.drop_drop,h1]
    have:a++q::r=(a++[q])++r:=by simp
    rw[this,List.drop_left' (by simp)]
   have hta:(s.drop i).take a.length=a:=by rw[h1,List.take_left' rfl]
   rw[h3,hx2,cond_false]
   have hG:zi (ev E) b.length 0 (i:Int) [q] (from_:Int) t (a.length:Int) 0 0 [] (scM b s fx out kept)=
     some (uD b ((i+(a.length+1):Nat):Int) q (from_:Int) (t++a) (scM b s fx out kept) r):=by
    refine aZ ?_
    have w1:IntKind.wrap .i64 ((i:Int)+(a.length:Int))=((i+a.length:Nat):Int):=by rw[cp (by omega) (by omega)];omega
    have w2:IntKind.wrap .i64 ((a.length:Int)+1)=((a.length+1:Nat):Int):=by rw[cp (by omega) (by omega)];omega
    have w3:IntKind.wrap .i64 ((i:Int)+((a.length+1:Nat):Int))=((i+(a.length+1):Nat):Int):=by rw[cp (by omega) (by omega)];omega
    rw[L7,h,fm,dm,w1,w2,w3]
    simp only[aa,aj]
    rw[e7 (by omega) (by omega),aa]
    have e2:i+a.length-i=a.length:=by omega
    rw[e2,hta,bq (by omega),az,pE (by omega),aa,hr,PT,ad,ae,aa,yB]
    have hsm:bn ((t++a).length+[q].length)=true:=bq (by simp;omega)
    cases r with
    |nil=>simp only[Bool.not_false,cond_true,uD]
    |cons d r'=>
     by_cases hdq:d=q
     ·subst hdq
      simp only[decide_true,Bool.not_true,cond_false,uD,if_true]
      rw[hsm,az]
     ·simp only[hdq,decide_false,Bool.not_false,cond_true,uD,if_false]
   rw[hG,aa,h1,yh a _ h2]
   cases r with
   |nil=>
    rw[ei (by intro d t h;cases h)]
    simp only[uD]
    rw[tc]
    simp[Am]
   |cons d r'=>
    by_cases hdq:d=q
    ·subst hdq
     simp only[uD,if_true]
     simp only[List.length_cons]at hlen
     rw[eM,Cx,cp (by omega) (by omega)]
     have e1:((i+(a.length+1):Nat):Int)+1=((i+(a.length+2):Nat):Int):=by omega
     have hr2:s.drop (i+(a.length+2))=r':=by
      have:i+(a.length+2)=(i+(a.length+1))+1:=by omega
      rw[this,←List.drop_drop,hr];rfl
     rw[e1,ih (i+(a.length+2)) _ (by omega) (by omega) (by simp;omega),hr2]
     cases bE d r' with
     |none=>rfl
     |some x=>
      simp only[Am,Option.map_some]
      congr 2
      ·omega
      ·simp
    ·simp only[uD,hdq,if_false]
     rw[ei (by intro e t h;cases h;exact hdq),tc]
     simp[Am]
def cr (s:List UInt8)(n:Nat):Except Int (Tok×Nat):=
 match bE ((s[n]?).getD 0) (s.drop (n+1))with
 |none=> .error 7
 |some (t,k)=>if 60<t.length then .error 8 else .ok (⟨1,6,aR t⟩,n+1+k)
def xh (b:Mu)(s:List UInt8)(fx:Bool)(out:List Tok)(kept:List Nat):Except Int (Tok×Nat×List Nat)→Out
 | .ok q=> .ret (.ltup [.cv q.1.cv,LV.int .i64 (q.2.1:Int)]) (scM b s fx out (kept++q.2.2))
 | .error e=> .panic (gH e) (scM b s fx out kept)
def cS (s:List UInt8)(n:Nat):Except Int (Tok×Nat×List Nat):=
 match cr s n with
 | .ok q=> .ok (q.1,q.2,List.range' n (q.2-n))
 | .error e=> .error e
theorem PM (hs:s.length≤200000)(hk:kept.length≤200000){n:Nat}(hn:n<s.length):
  (ev E).call 173 [LV.cv (CV.ref b.length 0 0),LV.int .i64 (n:Int)] (scM b s fx out kept)=some (xh b s fx out kept (cS s n)):=by
 refine aO ?_
 have h:=kM (b:=b) (s:=s) (fx:=fx) (out:=out) (kept:=kept)
 rw[RD,h,fm,dm,aa,aj,aa,cp (by omega) (by omega)]
 have e1:(n:Int)+1=((n+1:Nat):Int):=by omega
 have e2:n+1-n=1:=by omega
 have hd:s.drop n=s[n]::s.drop (n+1):=List.drop_eq_getElem_cons hn
 rw[e1,e7 (by omega) (by omega),aa,e2,hd]
 have e3:List.take 1 (s[n]::s.drop (n+1))=[s[n]]:=rfl
 rw[e3,Ov hs s.length (n+1) [] (by omega) (by omega) (by simp),aa]
 unfold cS cr
 rw[List.getElem?_eq_getElem hn,Option.getD_some]
 cases hq:bE s[n] (s.drop (n+1))with
 |none=>exact CQ _ _ _
 |some x=>
  obtain⟨t,k⟩:=x
  have hl:=nA _ _ (Nat.le_refl _) t k hq
  rw[List.length_drop]at hl
  simp only[Am,List.nil_append]
  rw[CP]
  by_cases h60:60<t.length
  ·have:decide ((60:Int)<(t.length:Int))=true:=by simp;omega
   rw[this,cond_true,jM,d7,if_pos h60]
   rfl
  ·have:decide ((60:Int)<(t.length:Int))=false:=by simp;omega
   rw[this,cond_false,if_neg h60]
   have hG:wK (ev E) b.length 0 ((n+1+k:Nat):Int) (n:Int) t 0 0 [] (scM b s fx out kept)=some (o8 ((n+1+k:Nat):Int) 1 6 (aR t) (scM b s fx out (kept++List.range' n (n+1+k-n)))):=by
    refine aZ ?_
    rw[J2,JG hs (by omega) (by omega) (by omega)]
    simp only[ad,aq,aa,am,ao,aj,ae,ak,az,cond_true,cond_false,Bool.not_true,Bool.not_false,av,au,ar]
    rw[NB (by omega),ad,bB]
   rw[hG,aa,AZ]
   rfl
end
end Go.Abs
set_option linter.unusedVariables false
set_option linter.unusedSimpArgs false
namespace Go.Proofs.YtfcjjankfjaapaaGreatDoor.Glue
theorem Ok:laidOutB Tryz.prog=true:=by kernel_rfl
end Go.Proofs.YtfcjjankfjaapaaGreatDoor.Glue
namespace Go.Abs.Ga
open Go Go.Proofs
section
variable {P:Program}{t:TypeId}{c:CV}
theorem KT {ys:List CV}(h:IsL [.int .i64,.int .i64,.str] ys): ∃x:Tok,CV.agg ys=x.cv:=by
 simp only[IsL,Is]at h
 obtain⟨_,_,rfl,⟨a,rfl,_⟩,_,_,rfl,⟨b,rfl,_⟩,_,_,rfl,⟨s,rfl,_⟩,rfl⟩:=h
 exact⟨⟨a,b,s⟩,rfl⟩
theorem is_toks (ht:gQ P t=false)(h:if gQ P t=true then ∃ys,c= .agg ys∧IsL [.sl true [.int .i64,.int .i64,.str]] ys else IsL [.sl true [.int .i64,.int .i64,.str]] [c]): ∃l:List Tok,LV.cv c=LV.cv (CV.sl (aA l))∧l.length≤maxLen:=by
 simp only[ht,Bool.false_eq_true,if_false]at h
 unfold IsL Is at h
 obtain⟨y,r,e,⟨xs,rfl,hl,hx⟩,_⟩:=h
 injection e with e _
 subst e
 simp only[if_true]at hx
 have: ∀(xs:List CV),(∀x∈xs,∃ys,x=CV.agg ys∧IsL [.int .i64,.int .i64,.str] ys)→ ∃l:List Tok,xs=aA l:=by
  intro xs
  induction xs with
  |nil=>intro _;exact⟨[],rfl⟩
  |cons a b ih=>
   intro h
   obtain⟨l,rfl⟩:=ih fun x hx=>h x (List.mem_cons_of_mem _ hx)
   obtain⟨ys,rfl,h1⟩:=h a (by simp)
   obtain⟨x,h2⟩:=KT h1
   exact⟨x::l,by rw[h2];rfl⟩
 obtain⟨l,rfl⟩:=this xs hx
 exact⟨l,rfl,by simpa[aA]using hl⟩
theorem is_ints (ht:gQ P t=false)(h:if gQ P t=true then ∃ys,c= .agg ys∧IsL [.sl false [.int .i64]] ys else IsL [.sl false [.int .i64]] [c]): ∃l:List Int,LV.cv c=LV.cv (CV.sl (l.map (CV.int .i64)))∧l.length≤maxLen:=by
 simp only[ht,Bool.false_eq_true,if_false]at h
 unfold IsL Is at h
 obtain⟨y,r,e,⟨xs,rfl,hl,hx⟩,_⟩:=h
 injection e with e _
 subst e
 simp only[Bool.false_eq_true,if_false]at hx
 have: ∀(xs:List CV),(∀x∈xs,IsL [.int .i64] [x])→ ∃l:List Int,xs=l.map (CV.int .i64):=by
  intro xs
  induction xs with
  |nil=>intro _;exact⟨[],rfl⟩
  |cons a b ih=>
   intro h
   obtain⟨l,rfl⟩:=ih fun x hx=>h x (List.mem_cons_of_mem _ hx)
   have h1:=h a (by simp)
   simp only[IsL,Is]at h1
   obtain⟨y,r,e,⟨n,rfl,_⟩,_⟩:=h1
   injection e with e _
   subst e
   exact⟨n::l,rfl⟩
 obtain⟨l,rfl⟩:=this xs hx
 exact⟨l,rfl,by simpa using hl⟩
end
end Go.Abs.Ga
set_option linter.unusedVariables false
set_option linter.unusedSimpArgs false
set_option maxRecDepth 100000
namespace Go.Abs
open Go Go.Proofs
section
variable {b:Mu}{s:List UInt8}{fx:Bool}{out:List Tok}{kept:List Nat}
theorem RM (ρ:Rho)(a:List CV)(b:List UInt8)(μ:Mu):aH E ρ 50 [LV.osl a,LV.str b] μ=
  callK (ρ.call 94 [LV.osl a,LV.str b] μ) (fun v1 μ2=>opt (aI .i64 v1) fun n5=>some (.ret (LV.bool (decide ((0:Int)≤n5))) μ2)) (fun v4 μ3=>ay (below (List.length μ3) v4) (some (.panic v4 μ3))):=by kernel_rfl
theorem RN (ρ:Rho)(a:List CV)(b:List UInt8)(μ:Mu):aH E ρ 94 [LV.osl a,LV.str b] μ=aH E ρ 94 [LV.cv (CV.sl a),LV.str b] μ:=by kernel_rfl
theorem PY {l:List (List UInt8)}{x:List UInt8}{μ:Mu}(hl:l.length≤1000000):(ev E).call 94 [LV.osl (bw l),LV.str x] μ=some (.ret (LV.int .i64 (pL x l 0)) μ):=by
 refine aO ?_
 rw[RN]
 exact KO hl
theorem PU {l:List (List UInt8)}{x:List UInt8}{μ:Mu}(hl:l.length≤1000000):(ev E).call 50 [LV.osl (bw l),LV.str x] μ=some (.ret (LV.bool (l.contains x)) μ):=by
 refine aO ?_
 rw[RM,PY hl]
 simp only[ad,aq,aa,am,ao,aj,ae,ak,az,cond_true,cond_false,Bool.not_true,Bool.not_false,av,au,ar]
 rw[uE]
def eC (fx:Bool)(s:List UInt8)(n:Nat):Int:=cg (cj fx ah s n)
def lE (fx:Bool)(s:List UInt8)(n:Nat):UInt8:=atC fx s (runE fx ah s n)
def holE (fx:Bool)(s:List UInt8)(n:Nat):Nat:=atE fx s (runE fx ah s n)
def im (fx:Bool)(s:List UInt8)(n:Nat):Prop:=(cj fx ah s n).length≤2∧1≤eC fx s n∧eC fx s n≤60∧(lE fx s n=72∨lE fx s n=104)
instance (fx:Bool)(s:List UInt8)(n:Nat):Decidable (im fx s n):=by unfold im;infer_instance
def nQ (fx:Bool)(s:List UInt8)(n:Nat):Except Int (Tok×Nat×List Nat):=
 if s.length<holE fx s n+(eC fx s n).toNat then .error 7
 else .ok (⟨1,6,aR ((s.drop (holE fx s n)).take (eC fx s n).toNat)⟩,holE fx s n+(eC fx s n).toNat,List.range' (holE fx s n) (eC fx s n).toNat)
def Mt (b:Mu)(s:List UInt8)(fx:Bool)(out:List Tok)(kept:List Nat):Except Int (Tok×Nat×List Nat)→Out
 | .ok q=> .ret (.ltup [.cv q.1.cv,LV.int .i64 (q.2.1:Int),LV.bool true]) (scM b s fx out (kept++q.2.2))
 | .error e=> .panic (gH e) (scM b s fx out kept)
def RO:Tok:=⟨0,0,[]⟩
theorem PL (hs:s.length≤200000)(hk:kept.length≤200000){n:Nat}(hn:n≤s.length):
  (ev E).call 167 [LV.cv (CV.ref b.length 0 0),LV.int .i64 (n:Int)] (scM b s fx out kept)=some (if im fx s n then Mt b s fx out kept (nQ fx s n)else .ret (.ltup [.cv RO.cv,LV.int .i64 (n:Int),LV.bool false]) (scM b s fx out kept)):=by
 have h:=kM (b:=b) (s:=s) (fx:=fx) (out:=out) (kept:=kept)
 have hr:=i8 (fx:=fx) (s:=s) (p:=ah) (n:=n)
 have hle:=iy (fx:=fx) (p:=ah) hn
 have hE:holE fx s n≤s.length:=gh hle
 have e72: ∀c:UInt8,decide ((c.toNat:Int)=72)=decide (c=72):=fun c=>co (k:=72) (by omega)
 have e104: ∀c:UInt8,decide ((c.toNat:Int)=104)=decide (c=104):=fun c=>co (k:=104) (by omega)
 refine aO ?_
 rw[Rx,oA h (by omega) (fun c=>lk) hn]
 simp only[ad,aq,aa,am,ao,aj,ae,ak,az,cond_true,cond_false,Bool.not_true,Bool.not_false,av,au,ar]
 rw[gU h (by omega) hle]
 simp only[ad,aq,aa,am,ao,aj,ae,ak,az,cond_true,cond_false,Bool.not_true,Bool.not_false,av,au,ar]
 rw[FX (by omega),uB]
 simp only[ad,aq,aa,am,ao,aj,ae,ak,az,cond_true,cond_false,Bool.not_true,Bool.not_false,av,au,ar,mh,e72,e104]
 have hNd:cg (cj fx ah s n)=eC fx s n:=rfl
 have hCd:atC fx s (runE fx ah s n)=lE fx s n:=rfl
 have hEd:atE fx s (runE fx ah s n)=holE fx s n:=rfl
 rw[hNd,hCd,hEd]
 by_cases h1:2<(cj fx ah s n).length
 ·have:decide ((2:Int)<((cj fx ah s n).length:Int))=true:=by simp;omega
  rw[this,cond_true,if_neg (by unfold im;omega)]
  rfl
 ·have e1:decide ((2:Int)<((cj fx ah s n).length:Int))=false:=by simp;omega
  rw[e1,cond_false]
  by_cases h2:eC fx s n<1
  ·have:decide (eC fx s n<1)=true:=by simp[h2]
   rw[this,cond_true,if_neg (by unfold im;omega)]
   rfl
  ·have e2:decide (eC fx s n<1)=false:=by simp[h2]
   rw[e2,cond_false]
   by_cases h3:60<eC fx s n
   ·have:decide (60<eC fx s n)=true:=by simp[h3]
    rw[this,cond_true,if_neg (by unfold im;omega)]
    rfl
   ·have e3:decide (60<eC fx s n)=false:=by simp[h3]
    rw[e3,cond_false]
    obtain⟨m,hm⟩: ∃m:Nat,eC fx s n=(m:Int):=⟨(eC fx s n).toNat,by omega⟩
    have hG:u0 (ev E) b.length 0 (holE fx s n:Nat) (eC fx s n) 0 0 [] (scM b s fx out kept)=some (match nQ fx s n with| .ok q=>qD (q.2.1:Int) true q.1.kind q.1.type q.1.text (scM b s fx out (kept++q.2.2))| .error e=>qE (gH e) (scM b s fx out kept)):=by
     refine aZ ?_
     have w1:IntKind.wrap .i64 ((holE fx s n:Int)+(m:Int))=((holE fx s n+m:Nat):Int):=by rw[cp (by omega) (by omega)];omega
     have e0:((m:Int)).toNat=m:=by omega
     unfold nQ
     rw[L0,h,fm,dm,hm,w1,e0]
     simp only[ad,aq,aa,am,ao,aj,ae,ak,az,cond_true,cond_false,Bool.not_true,Bool.not_false,av,au,ar]
     by_cases h4:s.length<holE fx s n+m
     ·have:decide ((s.length:Int)<((holE fx s n+m:Nat):Int))=true:=by simp;omega
      rw[this,cond_true,jM,d7,if_pos h4]
     ·have:decide ((s.length:Int)<((holE fx s n+m:Nat):Int))=false:=by simp;omega
      rw[this,cond_false,if_neg h4]
      have hG8:zh (ev E) b.length 0 (holE fx s n:Nat) (m:Int) 0 0 [] (scM b s fx out kept)=some (qF ((holE fx s n+m:Nat):Int) true 1 6 (aR ((s.drop (holE fx s n)).take m)) (scM b s fx out (kept++List.range' (holE fx s n) m))):=by
       refine aZ ?_
       have h':=kM (b:=b) (s:=s) (fx:=fx) (out:=out) (kept:=kept++List.range' (holE fx s n) m)
       have e5:holE fx s n+m-holE fx s n=m:=by omega
       rw[L1,w1,JG hs (by omega) (by omega) (by omega),e5]
       simp only[ad,aq,aa,am,ao,aj,ae,ak,az,cond_true,cond_false,Bool.not_true,Bool.not_false,av,au,ar]
       rw[h',fm,dm]
       simp only[ad,aq,aa,am,ao,aj,ae,ak,az,cond_true,cond_false,Bool.not_true,Bool.not_false,av,au,ar]
       rw[e7 (by omega) (by omega),aa,e5,NB (by simp;omega),ad,bB]
      rw[hG8,aa,Cr]
    have hfin:(opt (u0 (ev E) b.length 0 (holE fx s n:Nat) (eC fx s n) 0 0 [] (scM b s fx out kept)) (kB (ev E) 167 mm []))=some (Mt b s fx out kept (nQ fx s n)):=by
     rw[hG,aa]
     cases nQ fx s n with
     |ok q=>exact Cp _ _ _ _ _ _ _
     |error e=>exact Cq _ _ _
    by_cases h5:lE fx s n=72
    ·have:decide (lE fx s n=72)=true:=by simp[h5]
     rw[this,if_pos ⟨by omega,by omega,by omega,Or.inl h5⟩]
     exact hfin
    ·have e5:decide (lE fx s n=72)=false:=by simp[h5]
     rw[e5]
     by_cases h6:lE fx s n=104
     ·have:decide (lE fx s n=104)=true:=by simp[h6]
      rw[this,if_pos ⟨by omega,by omega,by omega,Or.inr h6⟩]
      exact hfin
     ·have e6:decide (lE fx s n=104)=false:=by simp[h6]
      rw[e6,if_neg (by unfold im;intro hh;exact hh.2.2.2.elim h5 h6)]
      rfl
def uJ (fx:Bool)(out:List Tok):Bool:=fx&&(match out.getLast? with|none=>true|some t=>decide (t.kind=2)&&[[40],[44],[47],[61]].contains t.text)
theorem PK (ho:out.length≤200000):(ev E).call 166 [LV.cv (CV.ref b.length 0 0)] (scM b s fx out kept)=some (.ret (LV.bool (uJ fx out)) (scM b s fx out kept)):=by
 refine aO ?_
 have h:=kM (b:=b) (s:=s) (fx:=fx) (out:=out) (kept:=kept)
 rw[Rw,h,uS,qa]
 simp only[ad,aq,aa,am,ao,aj,ae,ak,az,cond_true,cond_false,Bool.not_true,Bool.not_false,av,au,ar]
 cases fx with
 |false=>rfl
 |true=>
  simp only[ad,aq,aa,am,ao,aj,ae,ak,az,cond_true,cond_false,Bool.not_true,Bool.not_false,av,au,ar]
  have hlen:(aA out).length=out.length:=by simp[aA]
  have hG:HJ (ev E) b.length 0 (scM b s true out kept)=some (m8 (uJ true out) (scM b s true out kept)):=by
   refine aZ ?_
   rw[LW,h,NI,aa,Hy,aa,hlen]
   by_cases h0:out=[]
   ·subst h0;rfl
   ·have hpos:0<out.length:=by
     cases out with
     |nil=>exact absurd rfl h0
     |cons a r=>simp
    have e0:decide ((out.length:Int)=0)=false:=by simp[h0]
    rw[e0,cond_false]
    have hg:out.getLast?=some (out.getLast h0):=List.getLast?_eq_some_getLast h0
    have hG5:HK (ev E) b.length 0 (scM b s true out kept)=some (m9 (uJ true out) (scM b s true out kept)):=by
     refine aZ ?_
     rw[LZ,h,NI,aa,Hy,aa,aa,Hy,aa,hlen,cp (by omega) (by omega)]
     have e1:(out.length:Int) -1=((out.length-1:Nat):Int):=by omega
     have e2:(aA out)[out.length-1]? =some (out.getLast h0).cv:=by
      unfold aA
      rw[List.getElem?_map,List.getElem?_eq_getElem (by omega),List.getLast_eq_getElem]
      rfl
     rw[e1,ey,e2,aa,bB]
     unfold uJ
     rw[hg]
     simp only[Bool.true_and]
     by_cases hk:(out.getLast h0).kind=2
     ·have:decide ((out.getLast h0).kind=2)=true:=by simp[hk]
      rw[this,cond_true]
      have e3:LV.osl [CV.str ([40]:List UInt8),CV.str ([44]:List UInt8),CV.str ([47]:List UInt8),CV.str ([61]:List UInt8)]=LV.osl (bw [[40],[44],[47],[61]]):=rfl
      rw[e3,PU (by simp)]
      simp only[ad,aq,aa,am,ao,aj,ae,ak,az,cond_true,cond_false,Bool.not_true,Bool.not_false,av,au,ar,Bool.true_and]
     ·have:decide ((out.getLast h0).kind=2)=false:=by simp[hk]
      rw[this,cond_false,Bool.false_and]
    rw[hG5,aa,Co]
  rw[hG,aa,Cn]
def ec (t:List UInt8):Option (List UInt8):=
 if t=[60,61]then some [46,76,69,46]else if t=[62,61]then some [46,71,69,46]else if t=[61,61]then some [46,69,81,46]else if t=[47,61]then some [46,78,69,46]
 else if t=[60]then some [46,76,84,46]else if t=[62]then some [46,71,84,46]else none
def dl (fx:Bool)(s:List UInt8)(n:Nat):Except Int (Tok×Nat):=
 let a:=atC fx s n
 let m:=atE fx s n
 let c:=atC fx s m
 match ec [a,c]with
 |some w=> .ok (⟨2,0,w⟩,atE fx s m)
 |none=>if c≠0∧bm.contains [a,c]then .ok (⟨2,0,[a,c]⟩,atE fx s m)
  else match ec [a]with
   |some w=> .ok (⟨2,0,w⟩,m)
   |none=>if bm.contains [a]then .ok (⟨2,0,[a]⟩,m)else .error 7
end
end Go.Abs
set_option linter.unusedVariables false
set_option linter.unusedSimpArgs false
set_option maxRecDepth 100000
namespace Go.Abs
open Go Go.Proofs
def ksV:List Value:=[Value.string ⟨⟨([60,61]:List UInt8)⟩⟩,Value.string ⟨⟨([62,61]:List UInt8)⟩⟩,Value.string ⟨⟨([61,61]:List UInt8)⟩⟩,Value.string ⟨⟨([47,61]:List UInt8)⟩⟩,Value.string ⟨⟨([60]:List UInt8)⟩⟩,Value.string ⟨⟨([62]:List UInt8)⟩⟩]
def vsV:List CV:=[CV.str ([46,76,69,46]:List UInt8),CV.str ([46,71,69,46]:List UInt8),CV.str ([46,69,81,46]:List UInt8),CV.str ([46,78,69,46]:List UInt8),CV.str ([46,76,84,46]:List UInt8),CV.str ([46,71,84,46]:List UInt8)]
section
variable {b:Mu}{s:List UInt8}{fx:Bool}{out:List Tok}{kept:List Nat}{μ:Mu}
theorem JH:(ev E).call 196 [] μ=some (.ret (LV.cv (CV.mview ksV vsV)) μ):=aO (by rw[RL];rfl)
theorem AG {s:S}:sC (LV.cv (CV.mview ksV vsV)) s μ=some (ksV,vsV):=rfl
theorem Eg:jK .string ksV=true:=by decide
theorem vx (t:List UInt8):fI ksV vsV (Value.string ⟨⟨t⟩⟩)=(ec t).map CV.str:=by
 have h: ∀u:List UInt8,pM (Value.string ⟨⟨t⟩⟩) (Value.string ⟨⟨u⟩⟩)=decide (t=u):=fun u=>rfl
 simp only[ksV,vsV,fI,h]
 unfold ec
 by_cases h1:t=[60,61]
 ·simp[h1]
 ·by_cases h2:t=[62,61]
  ·simp[h2]
  ·by_cases h3:t=[61,61]
   ·simp[h3]
   ·by_cases h4:t=[47,61]
    ·simp[h4]
    ·by_cases h5:t=[60]
     ·simp[h5]
     ·by_cases h6:t=[62]
      ·simp[h6]
      ·simp[h1,h2,h3,h4,h5,h6]
theorem Ps {a:UInt8}:bi [CV.int .u8 (a.toNat:Int)]=some [a]:=dh [a]
theorem Pt {a c:UInt8}:bi [CV.int .u8 (a.toNat:Int),CV.int .u8 (c.toNat:Int)]=some [a,c]:=dh [a,c]
theorem KE {a:UInt8}{m:Nat}{x y:Int}{z:List UInt8}:Do (ev E) (m:Int) [a] x y z μ=some (stT μ lP jz (if bm.contains [a]then .ok (⟨2,0,[a]⟩,m)else .error 7)):=by
 refine aZ ?_
 rw[J3,Nt]
 simp only[ad,aq,aa,am,ao,aj,ae,ak,az,cond_true,cond_false,Bool.not_true,Bool.not_false,av,au,ar]
 rw[FY (l:=bm) (by decide)]
 simp only[ad,aq,aa,am,ao,aj,ae,ak,az,cond_true,cond_false,Bool.not_true,Bool.not_false,av,au,ar]
 cases bm.contains [a]with
 |true=>rfl
 |false=>rw[Bool.not_false,cond_true,jM,d7];rfl
def one (a:UInt8)(m:Nat):Except Int (Tok×Nat):=match ec [a]with
   |some w=> .ok (⟨2,0,w⟩,m)
   |none=>if bm.contains [a]then .ok (⟨2,0,[a]⟩,m)else .error 7
theorem Bn {a:UInt8}{m:Nat}{x y:Int}{z:List UInt8}:zj (ev E) (a.toNat:Int) (m:Int) x y z μ=some (stT μ kV kW (one a m)):=by
 refine aZ ?_
 rw[L9,Ps,aa,JH,ad]
 simp only[ad,aq,aa,am,ao,aj,ae,ak,az,cond_true,cond_false,Bool.not_true,Bool.not_false,av,au,ar,mh,AG,Eg,vx]
 unfold one
 cases ec [a]with
 |some w=>rfl
 |none=>
  simp only[Option.map_none,optE]
  rw[KE,aa]
  cases bm.contains [a]with
  |true=>exact A0 _ _ _ _ _ _
  |false=>exact A1 _ _ _
theorem ML {a c:UInt8}{m e:Nat}{x y:Int}{z:List UInt8}:HO (ev E) (a.toNat:Int) (m:Int) (c.toNat:Int) (e:Int) [a,c] x y z μ=some (stT μ jd gK (if c≠0∧bm.contains [a,c]then .ok (⟨2,0,[a,c]⟩,e)else one a m)):=by
 refine aZ ?_
 have hone:kS (ev E) iH [] [(4,0),(5,0)] (stT μ kV kW (one a m))=some (stT μ jd gK (one a m)):=by
  cases one a m with
  |ok q=>exact CA _ _ _ _ _ _
  |error e=>exact CB _ _ _
 rw[L8,nR,Bn,aa,hone,Nt]
 simp only[ad,aq,aa,am,ao,aj,ae,ak,az,cond_true,cond_false,Bool.not_true,Bool.not_false,av,au,ar]
 rw[FY (l:=bm) (by decide)]
 simp only[ad,aq,aa,am,ao,aj,ae,ak,az,cond_true,cond_false,Bool.not_true,Bool.not_false,av,au,ar]
 by_cases hc:c=0
 ·subst hc;rfl
 ·have h1:(c != 0)=true:=by simp[hc]
  rw[h1]
  simp only[ad,aq,aa,am,ao,aj,ae,ak,az,cond_true,cond_false,Bool.not_true,Bool.not_false,av,au,ar,hc,ne_eq,not_false_eq_true,true_and]
  cases bm.contains [a,c]with
  |true=>rfl
  |false=>
   rw[cond_false,Bn,aa,hone]
   rfl
theorem PN {l i:Nat}{r:List LV}(h:Sc μ l i s fx r)(hs:s.length≤200000){n:Nat}(hn:n≤s.length):
  (ev E).call 174 [LV.cv (CV.ref l i 0),LV.int .i64 (n:Int)] μ=some (rH μ (dl fx s n)):=by
 have hle:=gh (fx:=fx) hn
 refine aO ?_
 rw[RE,gU h (by omega) hn]
 simp only[ad,aq,aa,am,ao,aj,ae,ak,az,cond_true,cond_false,Bool.not_true,Bool.not_false,av,au,ar]
 rw[gU h (by omega) hle]
 simp only[ad,aq,aa,am,ao,aj,ae,ak,az,cond_true,cond_false,Bool.not_true,Bool.not_false,av,au,ar]
 rw[Pt,aa,JH,ad]
 simp only[ad,aq,aa,am,ao,aj,ae,ak,az,cond_true,cond_false,Bool.not_true,Bool.not_false,av,au,ar,mh,AG,Eg,vx]
 unfold dl
 simp only
 rw[ML,aa]
 cases ec [atC fx s n,atC fx s (atE fx s n)]with
 |some w=>rfl
 |none=>
  simp only[Option.map_none,optE]
  have: ∀q:Except Int (Tok×Nat),kB (ev E) 174 iH [] (stT μ jd gK q)=some (rH μ q):=by
   intro q
   cases q with
   |ok q=>exact Cy _ _ _ _ _ _
   |error e=>exact Cz _ _ _
  rw[this]
  rfl
def noK:Except Int (Tok×Nat)→Except Int (Tok×Nat×List Nat)
 | .ok q=> .ok (q.1,q.2,[])
 | .error e=> .error e
def cz (w:List UInt8):Tok:=if w=eW∨w=ee then⟨1,5,w⟩else⟨2,0,w⟩
def bI (fx:Bool)(s:List UInt8)(n:Nat)(c:UInt8):Except Int (Tok×Nat×List Nat):=
 if aU c then(if 31<(cj fx aY s n).length then .error 4 else .ok (⟨0,0,up (cj fx aY s n)⟩,runE fx aY s n,[]))
 else if ah c||(decide (c=46)&&ah (atC fx s (n+1)))then noK (bO fx s n)
 else if c=46 then(if(bg fx s n).2.2 then .ok (cz (bg fx s n).1,(bg fx s n).2.1,[])else .error 7)
 else if c=39∨c=34 then cS s n
 else noK (dl fx s n)
def de (fx:Bool)(s:List UInt8)(out:List Tok)(n:Nat):Except Int (Tok×Nat×List Nat):=
 if uJ fx out&&ah ((s[n]?).getD 0)&&decide (im fx s n)then nQ fx s n else bI fx s n ((s[n]?).getD 0)
def stK (b:Mu)(s:List UInt8)(fx:Bool)(out:List Tok)(kept:List Nat):Except Int (Tok×Nat×List Nat)→St
 | .ok q=>cM (q.2.1:Int) q.1.kind q.1.type q.1.text (scM b s fx out (kept++q.2.2))
 | .error e=>bD (gH e) (scM b s fx out kept)
theorem ET {q:Except Int (Tok×Nat)}:stT (scM b s fx out kept) cM bD q=stK b s fx out kept (noK q):=by
 cases q with
 |ok q=>simp only[stT,noK,stK,List.append_nil]
 |error e=>rfl
theorem KC {w:List UInt8}{e:Nat}{x y:Int}{z:List UInt8}:(opt (ja (ev E) w (e:Int) x y z μ) (kS (ev E) ez [.block 0,.seq (cA 148 [1,1,1,1,1])] [(4,0),(5,0)]))=some (cM (e:Int) (cz w).kind (cz w).type (cz w).text μ):=by
 have:ja (ev E) w (e:Int) x y z μ=some (jy (e:Int) (cz w).kind (cz w).type (cz w).text μ):=by
  refine aZ ?_
  rw[JV]
  have h3:([46,84,82,85,69,46]:List UInt8)=eW:=rfl
  have h4:([46,70,65,76,83,69,46]:List UInt8)=ee:=rfl
  rw[h3,h4]
  unfold cz
  by_cases h1:w=eW
  ·simp[h1]
  ·by_cases h2:w=ee
   ·simp[h2]
   ·simp[h1,h2]
 rw[this,aa,AS]
theorem KD (hs:s.length≤200000){n:Nat}(hn:n≤s.length){x y:Int}{z:List UInt8}:(opt (nX (ev E) b.length 0 (n:Int) x y z (scM b s fx out kept)) (kS (ev E) ez [] [(4,0),(5,0)]))=some (stK b s fx out kept (noK (dl fx s n))):=by
 have:nX (ev E) b.length 0 (n:Int) x y z (scM b s fx out kept)=some (stT (scM b s fx out kept) o4 o5 (dl fx s n)):=by
  refine aZ ?_
  rw[JW,PN kM hs hn]
  cases dl fx s n with
  |ok q=>simp only[rH,ad,aq,aa,am,ao,aj,ae,ak,az,cond_true,cond_false,Bool.not_true,Bool.not_false,av,au,ar,bB];rfl
  |error e=>rfl
 rw[this,aa,←ET]
 cases dl fx s n with
 |ok q=>exact AT _ _ _ _ _ _
 |error e=>exact AU _ _ _
theorem MK (hs:s.length≤200000)(hk:kept.length≤200000){n:Nat}(hn:n<s.length){x y:Int}{z:List UInt8}:qv (ev E) b.length 0 (n:Int) (((s[n]?).getD 0).toNat:Int) x y z (scM b s fx out kept)=some (stK b s fx out kept (bI fx s n ((s[n]?).getD 0))):=by
 have h:=kM (b:=b) (s:=s) (fx:=fx) (out:=out) (kept:=kept)
 have e46: ∀c:UInt8,decide ((c.toNat:Int)=46)=decide (c=46):=fun c=>co (k:=46) (by omega)
 have e39: ∀c:UInt8,decide ((c.toNat:Int)=39)=decide (c=39):=fun c=>co (k:=39) (by omega)
 have e34: ∀c:UInt8,decide ((c.toNat:Int)=34)=decide (c=34):=fun c=>co (k:=34) (by omega)
 have w1:IntKind.wrap .i64 ((n:Int)+1)=((n+1:Nat):Int):=by rw[cp (by omega) (by omega)];omega
 have hr:=i8 (fx:=fx) (s:=s) (p:=aY) (n:=n)
 obtain⟨c,hc⟩: ∃c,c=(s[n]?).getD 0:=⟨_,rfl⟩
 rw[←hc]
 have hnum: ∀{k1 k2:CV→Mu→Option St},callK (some (rH (scM b s fx out kept) (bO fx s n))) (fun v μ=>opt (aX v) fun xs=>opt (aB xs) fun q=>cO q.1 fun n1 n2 s3=>opt (aB q.2) fun q2=>opt (aI .i64 q2.1) fun n4=>opt (aS q2.2) fun u=>some (cM n4 n1 n2 s3 μ)) (fun v μ=>some (bD v μ))=some (stK b s fx out kept (noK (bO fx s n))):=by
  intro k1 k2
  rw[←ET]
  cases bO fx s n with
  |ok q=>simp only[rH,ad,aq,aa,am,ao,aj,ae,ak,az,cond_true,cond_false,Bool.not_true,Bool.not_false,av,au,ar,bB];rfl
  |error e=>rfl
 have hquo:callK (some (xh b s fx out kept (cS s n))) (fun v μ=>opt (aX v) fun xs=>opt (aB xs) fun q=>cO q.1 fun n1 n2 s3=>opt (aB q.2) fun q2=>opt (aI .i64 q2.1) fun n4=>opt (aS q2.2) fun u=>some (cM n4 n1 n2 s3 μ)) (fun v μ=>some (bD v μ))=some (stK b s fx out kept (cS s n)):=by
  cases cS s n with
  |ok q=>simp only[xh,ad,aq,aa,am,ao,aj,ae,ak,az,cond_true,cond_false,Bool.not_true,Bool.not_false,av,au,ar,bB];rfl
  |error e=>rfl
 refine aZ ?_
 rw[LU,w1,gU h (by omega) (by omega)]
 simp only[ad,aq,aa,am,ao,aj,ae,ak,az,cond_true,cond_false,Bool.not_true,Bool.not_false,av,au,ar]
 rw[F1]
 simp only[ad,aq,aa,am,ao,aj,ae,ak,az,cond_true,cond_false,Bool.not_true,Bool.not_false,av,au,ar]
 unfold bI
 cases hlet:aU c with
 |true=>
  rw[cond_true,oA h (by omega) (fun c=>Ri) (by omega)]
  simp only[ad,aq,aa,am,ao,aj,ae,ak,az,cond_true,cond_false,Bool.not_true,Bool.not_false,av,au,ar,if_true]
  by_cases h31:31<(cj fx aY s n).length
  ·have:decide ((31:Int)<((cj fx aY s n).length:Int))=true:=by simp;omega
   rw[this,cond_true,jM,d7,if_pos h31]
   rfl
  ·have:decide ((31:Int)<((cj fx aY s n).length:Int))=false:=by simp;omega
   rw[this,cond_false,NC (by omega),ad,aj,aa,if_neg h31]
   simp only[stK,List.append_nil]
 |false=>
  rw[cond_false,lk]
  simp only[ad,aq,aa,am,ao,aj,ae,ak,az,cond_true,cond_false,Bool.not_true,Bool.not_false,av,au,ar,Bool.false_eq_true,if_false,e46,e39,e34]
  have hdot: ∀(o:Option St),(decide (c=46)&&ah (atC fx s (n+1)))=false→ah c=false→
    cond (decide (c = 46)) (callK ((ev E).call 172 [LV.cv (CV.ref b.length 0 0), LV.int .i64 (n : Int)] (scM b s fx out kept)) (fun v103 μ104 =>
     opt (aX v103) fun xs107=>
     opt (aB xs107) fun q108=>
     opt (aN q108.1) fun s109=>
     opt (aB q108.2) fun q110=>
     opt (aI .i64 q110.1) fun n111=>
     opt (aB q110.2) fun q112=>
     opt (aQ q112.1) fun b113=>
     opt (aS q112.2) fun u114=>
     cond (!b113) (
     callK ((ev E).call 170 [LV.int .i64 (7 : Int)] μ104) (fun v115 μ116 =>
     opt (aX v115) fun xs119=>
     opt (aS xs119) fun u120=>
     opt (ja (ev E) s109 n111 x y z μ116) (kS (ev E) ez [.block 0,.seq (cA 148 [1,1,1,1,1])] [(4,0),(5,0)])) (fun v118 μ117=>
     some (bD v118 μ117))) (
     opt (ja (ev E) s109 n111 x y z μ104) (kS (ev E) ez [.block 0,.seq (cA 148 [1,1,1,1,1])] [(4,0),(5,0)]))) (fun v106 μ105=>
     some (bD v106 μ105))) o=if c=46 then some (stK b s fx out kept (if(bg fx s n).2.2 then .ok (cz (bg fx s n).1,(bg fx s n).2.1,[])else .error 7))else o:=by
   intro o h1 h2
   by_cases h46:c=46
   ·have:decide (c=46)=true:=by simp[h46]
    rw[this,cond_true,JF h hs (by omega),if_pos h46]
    simp only[ad,aq,aa,am,ao,aj,ae,ak,az,cond_true,cond_false,Bool.not_true,Bool.not_false,av,au,ar]
    cases hd:(bg fx s n).2.2 with
    |true=>
     rw[Bool.not_true,cond_false,KC]
     simp only[if_true,stK,List.append_nil]
    |false=>
     rw[Bool.not_false,cond_true,jM,d7]
     rfl
   ·have:decide (c=46)=false:=by simp[h46]
    rw[this,cond_false,if_neg h46]
  have htail: ∀(o1:Option St),o1=some (stK b s fx out kept (cS s n))→
    cond (decide (c=39)) o1 (cond (decide (c=34)) o1 (opt (nX (ev E) b.length 0 (n:Int) x y z (scM b s fx out kept)) (kS (ev E) ez [] [(4,0),(5,0)])))=
     some (stK b s fx out kept (if c=39∨c=34 then cS s n else noK (dl fx s n))):=by
   intro o1 ho
   rw[KD hs (by omega),ho]
   by_cases h1:c=39
   ·simp[h1]
   ·by_cases h2:c=34
    ·simp[h2]
    ·simp[h1,h2]
  cases hdig:ah c with
  |true=>
   rw[cond_true,JE h hs (by omega)]
   simp only[Bool.true_or,if_true]
   exact hnum (k1:=fun _ _=>none) (k2:=fun _ _=>none)
  |false=>
   rw[cond_false]
   by_cases h46:c=46
   ·have h1:decide (c=46)=true:=by simp[h46]
    rw[h1,cond_true,lk]
    simp only[ad,aq,aa,am,ao,aj,ae,ak,az,cond_true,cond_false,Bool.not_true,Bool.not_false,av,au,ar,Bool.false_or,Bool.true_and]
    cases hd2:ah (atC fx s (n+1))with
    |true=>
     rw[cond_true,JE h hs (by omega)]
     simp only[if_true]
     exact hnum (k1:=fun _ _=>none) (k2:=fun _ _=>none)
    |false=>
     have:=hdot none (by rw[hd2];simp) hdig
     rw[h1,cond_true]at this
     simp only[ad,aq,aa,am,ao,aj,ae,ak,az,cond_true,cond_false,Bool.not_true,Bool.not_false,av,au,ar,Bool.false_eq_true,if_false]
     rw[this,if_pos h46,if_pos h46]
   ·have h1:decide (c=46)=false:=by simp[h46]
    rw[h1,cond_false,cond_false,PM hs hk hn]
    simp only[Bool.false_or,Bool.false_and,Bool.false_eq_true,if_false]
    rw[if_neg h46]
    exact htail _ hquo
theorem JD (hs:s.length≤200000)(hk:kept.length≤200000)(ho:out.length≤200000){n:Nat}(hn:n<s.length):
  (ev E).call 148 [LV.cv (CV.ref b.length 0 0),LV.int .i64 (n:Int)] (scM b s fx out kept)=some (xh b s fx out kept (de fx s out n)):=by
 have h:=kM (b:=b) (s:=s) (fx:=fx) (out:=out) (kept:=kept)
 have hfin: ∀{x y:Int} {z:List UInt8},(opt (qv (ev E) b.length 0 (n:Int) (((s[n]?).getD 0).toNat:Int) x y z (scM b s fx out kept)) (kB (ev E) 148 ez []))=some (xh b s fx out kept (bI fx s n ((s[n]?).getD 0))):=by
  intro x y z
  rw[MK hs hk hn,aa]
  cases bI fx s n ((s[n]?).getD 0)with
  |ok q=>exact Cl _ _ _ _ _ _
  |error e=>exact Cm _ _ _
 refine aO ?_
 have hg:s[n]? =some ((s[n]?).getD 0):=by rw[List.getElem?_eq_getElem hn,Option.getD_some]
 rw[Rv,h,fm,dm,aa,aj,aa,lw,hg,aa,PK ho]
 simp only[ad,aq,aa,am,ao,aj,ae,ak,az,cond_true,cond_false,Bool.not_true,Bool.not_false,av,au,ar]
 unfold de
 cases hm:uJ fx out with
 |false=>
  rw[cond_false,hfin]
  rfl
 |true=>
  rw[cond_true,lk]
  simp only[ad,aq,aa,am,ao,aj,ae,ak,az,cond_true,cond_false,Bool.not_true,Bool.not_false,av,au,ar]
  cases hd:ah ((s[n]?).getD 0)with
  |false=>
   rw[cond_false,hfin]
   rfl
  |true=>
   rw[cond_true,PL hs hk (by omega)]
   by_cases hh:im fx s n
   ·simp only[hh,if_true,Bool.true_and,decide_true]
    cases nQ fx s n with
    |ok q=>simp only[Mt,ad,aq,aa,am,ao,aj,ae,ak,az,cond_true,cond_false,Bool.not_true,Bool.not_false,av,au,ar,bB];rfl
    |error e=>rfl
   ·simp only[hh,if_false,Bool.true_and,decide_false,Bool.false_eq_true]
    simp only[ad,aq,aa,am,ao,aj,ae,ak,az,cond_true,cond_false,Bool.not_true,Bool.not_false,av,au,ar,bB]
    exact hfin
end
end Go.Abs
set_option linter.unusedVariables false
set_option linter.unusedSimpArgs false
set_option maxRecDepth 100000
namespace Go.Abs
open Go Go.Proofs
section
variable {b:Mu}{s:List UInt8}{fx:Bool}{out:List Tok}{kept:List Nat}{μ:Mu}
theorem O9 {n:Nat}{c:UInt8}(h:s[n]? =some c)(hc:c≠32):skipN fx s n=n:=by
 unfold skipN
 split
 ·have hn:n<s.length:=by
   rcases Nat.lt_or_ge n s.length with h1|h1
   ·exact h1
   ·rw[List.getElem?_eq_none h1]at h;cases h
  have hd:s.drop n=s[n]::s.drop (n+1):=List.drop_eq_getElem_cons hn
  rw[List.getElem?_eq_getElem hn]at h
  injection h with h
  rw[hd,aF,h,if_neg hc]
  rfl
 ·rfl
theorem eI {n:Nat}{c:UInt8}(h:s[n]? =some c):n<s.length:=by
 rcases Nat.lt_or_ge n s.length with h1|h1
 ·exact h1
 ·rw[List.getElem?_eq_none h1]at h;cases h
theorem ld {n:Nat}{c:UInt8}(h:s[n]? =some c)(hc:c≠32):atC fx s n=c∧atE fx s n=n+1:=by
 have hn:=eI h
 unfold atC atE
 rw[O9 h hc,h]
 exact⟨rfl,by rw[if_pos hn]⟩
theorem og {n:Nat}:n≤atE fx s n:=by
 have:=Br (fx:=fx) (s:=s) (n:=n)
 unfold atE
 split<;>omega
theorem ml {p:UInt8→Bool}{n:Nat}:n≤runE fx p s n:=by unfold runE;omega
theorem EQ {p:UInt8→Bool}{n:Nat}{c:UInt8}(h:s[n]? =some c)(hc:c≠32)(h0:c≠0)(hp:p c=true):n+1≤runE fx p s n:=by
 obtain⟨h1,h2⟩:=ld (fx:=fx) h hc
 have:=(nD (fx:=fx) (s:=s) (p:=p) (n:=n) (by rw[h1,hp];simp[h0])).2
 rw[this,h2]
 exact ml
def EZ (s:List UInt8)(n:Nat):Except Int (Tok×Nat×List Nat)→Prop
 | .ok q=>n<q.2.1∧q.2.1≤s.length∧q.2.2.length+n≤q.2.1
 | .error _=>True
theorem LC {n:Nat}(hn:n≤s.length):n≤(aL fx s n).2.2.1∧(aL fx s n).2.2.1≤s.length:=by
 unfold aL
 have hle:=gh (fx:=fx) hn
 have hle2:=gh (fx:=fx) hle
 have hst:expStart fx s n≤s.length:=by unfold expStart;split<;>assumption
 have hst2:n≤expStart fx s n:=by
  have h1:=og (fx:=fx) (s:=s) (n:=n)
  have h2:=og (fx:=fx) (s:=s) (n:=atE fx s n)
  unfold expStart;split<;>omega
 split
 ·have h1:=ml (fx:=fx) (s:=s) (p:=ah) (n:=expStart fx s n)
  have h2:=iy (fx:=fx) (p:=ah) hst
  simp only
  omega
 ·simp only;omega
theorem ME {whole part digits:List UInt8}{letter:UInt8}{ok:Bool}{e:Nat}{q:Tok×Nat}(h:real whole part digits letter ok e= .ok q):q.2=e:=by
 unfold real at h
 split at h
 ·cases h
 ·injection h with h
  rw[←h]
theorem CZ {n:Nat}{c:UInt8}(h:s[n]? =some c)(hc:ah c=true∨c=46):EZ s n (noK (bO fx s n)):=by
 have hn:=eI h
 have h32:c≠32:=by
  rintro rfl
  rcases hc with h1|h1
  ·exact absurd h1 (by decide)
  ·exact absurd h1 (by decide)
 have h0:c≠0:=by
  rintro rfl
  rcases hc with h1|h1
  ·exact absurd h1 (by decide)
  ·exact absurd h1 (by decide)
 obtain⟨ha,hb⟩:=ld (fx:=fx) h h32
 have hle:=iy (fx:=fx) (p:=ah) (Nat.le_of_lt hn)
 have hle2:=gh (fx:=fx) hle
 have hle3:=iy (fx:=fx) (p:=ah) hle2
 have hend:numEnd fx s n≤s.length:=by unfold numEnd;split<;>assumption
 have hgt:n<numEnd fx s n:=by
  have g1:=ml (fx:=fx) (p:=ah) (s:=s) (n:=n)
  have g2:=og (fx:=fx) (s:=s) (n:=runE fx ah s n)
  have g3:=ml (fx:=fx) (p:=ah) (s:=s) (n:=atE fx s (runE fx ah s n))
  rcases hc with hd|hd
  ·have:=EQ (fx:=fx) h h32 h0 hd
   unfold numEnd;split<;>omega
  ·obtain⟨e1,e2⟩:=g8 (fx:=fx) (s:=s) (p:=ah) (n:=n) (by rw[ha,hd];decide)
   have hdot:bS fx s n=true:=by
    unfold bS bx
    rw[e2,ha,e1,hd]
    simp
   unfold numEnd
   rw[if_pos hdot,e2,hb]
   rw[e2,hb]at g3
   omega
 have hx:=LC (fx:=fx) (s:=s) hend
 unfold bO
 simp only
 split
 ·cases bU (bx fx s n)with
  |ok t=>exact⟨hgt,hend,by simp;omega⟩
  |error e=>trivial
 ·cases hr:real (bx fx s n) (cB fx s n) (aL fx s (numEnd fx s n)).2.1 (aL fx s (numEnd fx s n)).1 (aL fx s (numEnd fx s n)).2.2.2 (if(aL fx s (numEnd fx s n)).2.2.2 then(aL fx s (numEnd fx s n)).2.2.1 else numEnd fx s n)with
  |error e=>trivial
  |ok q=>
   have:=ME hr
   refine⟨?_,?_,?_⟩
   ·show n<q.2
    rw[this];split<;>omega
   ·show q.2≤s.length
    rw[this];split<;>omega
   ·show 0+n≤q.2
    rw[this];split<;>omega
theorem Da {n:Nat}(hn:n<s.length):EZ s n (cS s n):=by
 unfold cS cr
 cases hq:bE ((s[n]?).getD 0) (s.drop (n+1))with
 |none=>trivial
 |some x=>
  obtain⟨t,k⟩:=x
  have:=nA _ _ (Nat.le_refl _) t k hq
  rw[List.length_drop]at this
  simp only
  split
  ·rename_i q heq
   split at heq
   ·cases heq
   ·injection heq with heq
    subst heq
    refine⟨?_,?_,?_⟩
    ·show n<n+1+k
     omega
    ·show n+1+k≤s.length
     omega
    ·show (List.range' n (n+1+k-n)).length+n≤n+1+k
     simp;omega
  ·trivial
theorem O0 {n:Nat}{c:UInt8}(h:s[n]? =some c)(hc:c≠32):EZ s n (noK (dl fx s n)):=by
 have hn:=eI h
 obtain⟨ha,hb⟩:=ld (fx:=fx) h hc
 have g1:=og (fx:=fx) (s:=s) (n:=n+1)
 have g2:=gh (fx:=fx) (s:=s) (n:=n+1) hn
 unfold dl
 simp only[hb]
 split
 ·exact⟨by show n<atE fx s (n+1);omega,g2,by show 0+n≤atE fx s (n+1);omega⟩
 ·split
  ·exact⟨by show n<atE fx s (n+1);omega,g2,by show 0+n≤atE fx s (n+1);omega⟩
  ·split
   ·exact⟨by show n<n+1;omega,hn,by show 0+n≤n+1;omega⟩
   ·split
    ·exact⟨by show n<n+1;omega,hn,by show 0+n≤n+1;omega⟩
    ·trivial
theorem iD {n:Nat}{c:UInt8}(h:s[n]? =some c)(hc:c≠32):EZ s n (de fx s out n):=by
 have hn:=eI h
 obtain⟨ha,hb⟩:=ld (fx:=fx) h hc
 unfold de
 rw[h,Option.getD_some]
 split
 ·rename_i hh
  simp only[Bool.and_eq_true,decide_eq_true_eq]at hh
  obtain⟨_,hN⟩:=hh
  unfold nQ
  split
  ·trivial
  ·rename_i hlen
   have g1:=ml (fx:=fx) (p:=ah) (s:=s) (n:=n)
   have g2:=og (fx:=fx) (s:=s) (n:=runE fx ah s n)
   have g3:runE fx ah s n≤holE fx s n:=g2
   have g4:=hN.2.1
   refine⟨?_,?_,?_⟩
   ·show n<holE fx s n+(eC fx s n).toNat
    omega
   ·show holE fx s n+(eC fx s n).toNat≤s.length
    omega
   ·show (List.range' (holE fx s n) (eC fx s n).toNat).length+n≤holE fx s n+(eC fx s n).toNat
    simp;omega
 ·unfold bI
  split
  ·rename_i hl
   have h0:c≠0:=by rintro rfl;exact absurd hl (by decide)
   have hp:aY c=true:=by unfold aY;rw[hl];rfl
   have g1:=EQ (fx:=fx) h hc h0 hp
   have g2:=iy (fx:=fx) (p:=aY) (Nat.le_of_lt hn)
   split
   ·trivial
   ·exact⟨by show n<runE fx aY s n;omega,g2,by show 0+n≤runE fx aY s n;omega⟩
  ·split
   ·rename_i hd
    refine CZ h ?_
    rw[Bool.or_eq_true,Bool.and_eq_true,decide_eq_true_eq]at hd
    rcases hd with hd|hd
    ·exact Or.inl hd
    ·exact Or.inr hd.1
   ·split
    ·rename_i h46
     subst h46
     split
     ·have e:bg fx s n=(cq fx s n,dotEnd fx s n,dk fx s n):=by unfold bg;rw[if_pos ha]
      rw[e]
      have g1:=ml (fx:=fx) (p:=aU) (s:=s) (n:=atE fx s n)
      have g2:=og (fx:=fx) (s:=s) (n:=runE fx aU s (atE fx s n))
      have g3:=gh (fx:=fx) (Nat.le_of_lt hn)
      have g4:=iy (fx:=fx) (p:=aU) g3
      have g5:=gh (fx:=fx) g4
      have g6:runE fx aU s (atE fx s n)≤dotEnd fx s n:=g2
      rw[hb]at g1 g6
      exact⟨by show n<dotEnd fx s n;omega,g5,by show 0+n≤dotEnd fx s n;omega⟩
     ·trivial
    ·split
     ·exact Da hn
     ·exact O0 h hc
def bA (fx:Bool)(s:List UInt8):Nat→Nat→List Tok→List Nat→Option (Nat×Int)×List Tok×List Nat
 |0,_,out,kept=>(none,out,kept)
 |k+1,n,out,kept=>
  if s.length≤n+aF (s.drop n)then(none,out,kept)
  else match de fx s out (n+aF (s.drop n))with
   | .error e=>(some (n+aF (s.drop n),e),out,kept)
   | .ok q=>bA fx s k q.2.1 (out++[q.1]) (kept++q.2.2)
def Lz (b:Mu)(s:List UInt8)(fx:Bool):Option (Nat×Int)×List Tok×List Nat→St
 |(none,out,kept)=>qQ 0 0 (scM b s fx out kept)
 |(some (n,e),out,kept)=>qR (gH e) (n:Int) 0 (scM b s fx out kept)
theorem LQ {l i:Nat}{r:List LV}(h:Sc μ l i s fx r)(hs:s.length≤1000000): ∀(k n:Nat),n+k=s.length→wM (ev E) l i (n:Int) 0 μ=some (lQ l i ((n+aF (s.drop n):Nat):Int) 0 μ):=by
 intro k
 induction k with
 |zero=>
  intro n hk
  refine aW ?_
  rw[ya,h]
  simp only[aa,fm,dm,aj]
  have:List.drop n s=[]:=List.drop_eq_nil_of_le (by omega)
  have h1:decide ((n:Int)<(s.length:Int))=false:=by simp;omega
  rw[h1,this]
  simp[aF]
 |succ k ih=>
  intro n hk
  refine aW ?_
  rw[ya,h]
  simp only[aa,fm,dm,aj]
  have h1:decide ((n:Int)<(s.length:Int))=true:=by simp;omega
  have hn:n<s.length:=by omega
  rw[h1,lw,List.getElem?_eq_getElem hn,aa]
  have hd:List.drop n s=s[n]::List.drop (n+1) s:=List.drop_eq_getElem_cons hn
  have e:IntKind.wrap .i64 ((n:Int)+1)=((n+1:Nat):Int):=by rw[cp (by omega) (by omega)];omega
  have e32: ∀c:UInt8,decide ((c.toNat:Int)=32)=decide (c=32):=fun c=>co (k:=32) (by omega)
  rw[e,ih (n+1) (by omega),e32,hd,aF]
  by_cases hc:s[n]=32
  ·simp only[hc,decide_true,cond_true,if_true]
   congr 2
   omega
  ·simp only[hc,decide_false,cond_false,cond_true,if_false]
   rfl
theorem lR {n:Nat}(h:n+aF (s.drop n)<s.length): ∃c,s[n+aF (s.drop n)]? =some c∧c≠32:=by
 refine⟨s[n+aF (s.drop n)],List.getElem?_eq_getElem h,?_⟩
 have hd:=List.drop_eq_getElem_cons h
 refine iL (s.drop n) _ (s.drop (n+aF (s.drop n)+1)) ?_
 rw[List.drop_drop]
 exact hd
theorem Oo (hs:s.length≤200000): ∀(k n:Nat) (out:List Tok) (kept:List Nat),s.length<n+k→n≤s.length→out.length≤n→kept.length≤n→
  zo (ev E) b.length 0 (n:Int) 0 (scM b s fx out kept)=some (Lz b s fx (bA fx s k n out kept)):=by
 intro k
 induction k with
 |zero=>intro n out kept hk hn ho hq;omega
 |succ k ih=>
  intro n out kept hk hn ho hq
  have h:=kM (b:=b) (s:=s) (fx:=fx) (out:=out) (kept:=kept)
  have hb:=gL (s.drop n)
  rw[List.length_drop]at hb
  refine aW ?_
  rw[Mp,LQ h (by omega) (s.length-n) n (by omega),aa,A2,h,fm,dm,aa,aj,aa]
  unfold bA
  by_cases hm:s.length≤n+aF (s.drop n)
  ·have:decide ((s.length:Int)≤((n+aF (s.drop n):Nat):Int))=true:=by simp;omega
   rw[this,cond_true,if_pos hm]
   rfl
  ·have:decide ((s.length:Int)≤((n+aF (s.drop n):Nat):Int))=false:=by simp;omega
   rw[this,cond_false,if_neg hm]
   obtain⟨c,hc1,hc2⟩:=lR (s:=s) (n:=n) (by omega)
   have hf:=iD (fx:=fx) (out:=out) hc1 hc2
   obtain⟨m,hmd⟩: ∃m,m=n+aF (s.drop n):=⟨_,rfl⟩
   rw[←hmd]at hm hf ⊢
   cases ht:de fx s out m with
   |error e=>
    have hG:zg (ev E) b.length 0 (m:Int) 0 (scM b s fx out kept)=some (qC (gH e) (m:Int) 0 (scM b s fx out kept)):=by
     refine aZ ?_
     rw[AJ,JD hs (by omega) (by omega) (by omega),ht]
     rfl
    rw[hG,aa,Ck]
    rfl
   |ok q=>
    rw[ht]at hf
    obtain⟨f1,f2,f3⟩:=hf
    have hG:zg (ev E) b.length 0 (m:Int) 0 (scM b s fx out kept)=some (qB b.length 0 (q.2.1:Int) 0 (scM b s fx (out++[q.1]) (kept++q.2.2))):=by
     refine aZ ?_
     rw[AJ,JD hs (by omega) (by omega) (by omega),ht]
     simp only[xh,ad,aq,aa,am,ao,aj,ae,ak,az,cond_true,cond_false,Bool.not_true,Bool.not_false,av,au,ar,bB]
     unfold scM
     rw[oO]
     unfold scO
     rw[RW,aa,Ki,aa]
     have ha:[CV.agg [CV.int .i64 q.1.kind,CV.int .i64 q.1.type,CV.str q.1.text]]=aA [q.1]:=rfl
     have hc:CV.agg [CV.int .i64 q.1.kind,CV.int .i64 q.1.type,CV.str q.1.text]=q.1.cv:=rfl
     rw[ha,vd (by simp;omega),az]
     have hbl:ck (b.length+1) (aA out++aA [q.1])=true:=by
      have:aA out++aA [q.1]=aA (out++[q.1]):=by simp[aA]
      rw[this];exact nK _
     rw[hbl,az,oP,oO,QQ,aa,oP]
     have e2:aA [q.1]=[q.1.cv]:=rfl
     rw[e2,QJ]
    rw[hG,aa,Cj,ih q.2.1 _ _ (by omega) f2 (by simp;omega) (by simp;omega)]
theorem xl (b:Mu)(x:Lam):iu (b++[x])=some (b,x):=by simp[iu]
theorem K2 {e:Int}:bP E.P 25 (.cells [LV.int .i64 (0:Int)]) 0 (LV.int .i64 e)=some (.cells [LV.int .i64 e]):=by kernel_rfl
theorem Bg {e:Int}:bH E.P 25 (aG [Ob.cells [LV.int .i64 e]] 0) 0=some (LV.int .i64 e):=by kernel_rfl
def bF:Option (Nat×Int)→Nat×Int
 |none=>(0,0)
 |some q=>q
theorem PH (hs:s.length≤200000){r:Option (Nat×Int)×List Tok×List Nat}(hr:bA fx s (s.length+1) 0 [] []=r):
  (ev E).call 118 [LV.cv (CV.ref b.length 0 0)] (scM b s fx [] [])=some (.ret (.ltup [LV.int .i64 ((bF r.1).1:Int),LV.int .i64 (bF r.1).2]) (scM b s fx r.2.1 r.2.2)):=by
 refine aO ?_
 have hl:=Oo (b:=b) (fx:=fx) hs (s.length+1) 0 [] [] (by omega) (by omega) (by simp) (by simp)
 have e0:((0:Nat):Int)=0:=rfl
 rw[hr,e0]at hl
 rw[Rp,hl,aa]
 obtain⟨x,o,q⟩:=r
 cases x with
 |none=>
  simp only[Lz]
  have hd:(ev E).dcall 147 none [LV.cv (CV.ref (scM b s fx o q).length 0 0)] (scM b s fx o q++[[Ob.cells [LV.int .i64 0]]])=some (scM b s fx o q++[[Ob.cells [LV.int .i64 0]]]):=Ar (by rw[Oz])
  rw[CJ,hd,aa,xl,aa]
  simp only[Bg,aa,bF]
  rfl
 |some w=>
  obtain⟨n,e⟩:=w
  simp only[Lz]
  have hd:(ev E).dcall 147 (some (gH e)) [LV.cv (CV.ref (scM b s fx o q).length 0 0)] (scM b s fx o q++[[Ob.cells [LV.int .i64 0]]])=some (scM b s fx o q++[[Ob.cells [LV.int .i64 e]]]):=by
   refine Ar ?_
   unfold gH
   rw[OA,oO,K2,aa,oP]
  rw[CK,hd,aa,xl,aa]
  simp only[Bg,aa,bF]
  rfl
def cZ (s:List UInt8):Bool:= !(s.any fun b=>decide (b.toNat<32)||decide (126<b.toNat))
def bp (s:List UInt8):Int:=if 1320<s.length then 8 else if cZ s then 0 else 3
theorem Q7 {g:FuncId}{p:UInt8→Bool}(hg:lu g=some p):(ev E).call 43 [LV.str s,LV.cv (CV.clo g [])] μ=some (.ret (LV.bool (s.any p)) μ):=by
 refine eK (g:=gj lu) (by kernel_rfl) ?_
 simp only[gj,am,aa,ak,aj,hg]
theorem Rh:(ev E).call 85 [LV.str s] μ=some (.ret (LV.bool (cZ s)) μ):=by
 refine aO ?_
 rw[SP,Q7 (g:=122) rfl]
 simp only[ad,aq,aa,am,ao,aj,ae,ak,az,cond_true,cond_false,Bool.not_true,Bool.not_false,av,au,ar]
 rfl
theorem PG:(ev E).call 117 [LV.str s] μ=some (.ret (LV.int .i64 (bp s)) μ):=by
 refine aO ?_
 rw[Ro,Rh]
 simp only[ad,aq,aa,am,ao,aj,ae,ak,az,cond_true,cond_false,Bool.not_true,Bool.not_false,av,au,ar]
 unfold bp
 by_cases h:1320<s.length
 ·have:decide ((1320:Int)<(s.length:Int))=true:=by simp;omega
  rw[this,if_pos h]
  rfl
 ·have:decide ((1320:Int)<(s.length:Int))=false:=by simp;omega
  rw[this,if_neg h]
  cases cZ s<;>rfl
structure Scan where
 toks:List Tok
 kept:List Nat
 n:Nat
 e:Int
def bc (fx:Bool)(s:List UInt8):Scan:=
 if bp s=0 then
  let r:=bA fx s (s.length+1) 0 [] []
  if(bF r.1).2=0 then(if 300<r.2.1.length then⟨r.2.1,r.2.2,0,8⟩else⟨r.2.1,r.2.2,r.2.1.length,0⟩)else⟨r.2.1,r.2.2,(bF r.1).1,(bF r.1).2⟩
 else⟨[],[],0,bp s⟩
def nE (fx:Bool)(s:List UInt8):List CV:=if bp s=0 then [CV.str s,CV.bool fx,CV.sl (aA (bc fx s).toks),CV.sl (bG (bc fx s).kept)]else [CV.str s,CV.bool fx,CV.v (.slice none 0 0),CV.v (.slice none 0 0)]
theorem Qv {α:Type}{k:Lam→Option α}:Hh [(0,[0,0,1,1])] [scO s fx out kept] k=k [.cells [LV.str s,LV.bool fx,.osl (aA out),.osl (bG kept)]]:=by
 have h1:=Ki (out:=out)
 have h2:=Kh (kept:=kept)
 unfold scO
 simp only[Hh,aG,List.getElem?_cons_zero,fC,yQ,h1,h2,aa,List.set_cons_zero]
theorem Pq {n:Nat}:below n (CV.view [CV.str s,CV.bool fx,CV.sl (aA out),CV.sl (bG kept)])=true:=by
 simp only[below,ck]
 rw[nK,nJ]
theorem Rd (hs:s.length≤200000):(ev E).call 78 [LV.str s,LV.bool fx] μ=some (.ret (.ltup [LV.cv (CV.view (nE fx s)),LV.int .i64 ((bc fx s).n:Int),LV.int .i64 (bc fx s).e]) μ):=by
 refine aO ?_
 rw[SN,PG]
 simp only[ad,aq,aa,am,ao,aj,ae,ak,az,cond_true,cond_false,Bool.not_true,Bool.not_false,av,au,ar]
 by_cases ht:bp s=0
 ·have:decide (bp s=0)=true:=by simp[ht]
  rw[this,Bool.not_true,cond_false]
  obtain⟨r,hr⟩: ∃r,bA fx s (s.length+1) 0 [] []=r:=⟨_,rfl⟩
  have hsc:bc fx s=if(bF r.1).2=0 then(if 300<r.2.1.length then⟨r.2.1,r.2.2,0,8⟩else⟨r.2.1,r.2.2,r.2.1.length,0⟩)else⟨r.2.1,r.2.2,(bF r.1).1,(bF r.1).2⟩:=by
   unfold bc;rw[if_pos ht,hr]
  have htk:(bc fx s).toks=r.2.1∧(bc fx s).kept=r.2.2:=by
   rw[hsc];split
   ·split<;>exact⟨rfl,rfl⟩
   ·exact⟨rfl,rfl⟩
  have hC:nE fx s=[CV.str s,CV.bool fx,CV.sl (aA r.2.1),CV.sl (bG r.2.2)]:=by unfold nE;rw[if_pos ht,htk.1,htk.2]
  have hl:=PH (b:=μ) (fx:=fx) hs hr
  have hlen:(aA r.2.1).length=r.2.1.length:=by simp[aA]
  have h5:Nh (ev E) s fx μ=some (if(bF r.1).2=0∧ ¬300<r.2.1.length then tY s fx (aA r.2.1) (bG r.2.2) ((bc fx s).n:Int) (bc fx s).e .dead μ else pj s fx (aA r.2.1) (bG r.2.2) ((bc fx s).n:Int) (bc fx s).e μ):=by
   refine aZ ?_
   have e0:μ++[[Ob.cells [LV.str s,LV.bool fx,LV.cv (CV.v (.slice none 0 0)),LV.cv (CV.v (.slice none 0 0))]]]=scM μ s fx [] []:=rfl
   rw[OT,e0,hl]
   simp only[ad,aq,aa,am,ao,aj,ae,ak,az,cond_true,cond_false,Bool.not_true,Bool.not_false,av,au,ar]
   unfold scM
   rw[xl,aa,Qv]
   by_cases he:(bF r.1).2=0
   ·have h6:E7 (ev E) ((bF r.1).1:Int) (bF r.1).2 [.cells [LV.str s,LV.bool fx,.osl (aA r.2.1),.osl (bG r.2.2)]] μ=some (t6 s fx (aA r.2.1) (bG r.2.2) μ):=by
     refine aZ ?_
     have:decide ((bF r.1).2=0)=true:=by simp[he]
     rw[Eo,this]
     rfl
    rw[h6,aa,GB]
    rw[hsc,if_pos he]
    by_cases h3:300<r.2.1.length
    ·have h8:E8 (ev E) [.cells [LV.str s,LV.bool fx,.osl (aA r.2.1),.osl (bG r.2.2)]] μ=some (t7 s fx (aA r.2.1) (bG r.2.2) 0 8 μ):=by
      refine aZ ?_
      have:decide ((300:Int)<((aA r.2.1).length:Int))=true:=by rw[hlen];simp;omega
      rw[Ep,this]
      rfl
     rw[h8,aa,GC,if_pos h3,if_neg (by simp[h3])]
     rfl
    ·have h8:E8 (ev E) [.cells [LV.str s,LV.bool fx,.osl (aA r.2.1),.osl (bG r.2.2)]] μ=some (t8 s fx (aA r.2.1) (bG r.2.2) (r.2.1.length:Int) 0 .dead μ):=by
      refine aZ ?_
      have:decide ((300:Int)<((aA r.2.1).length:Int))=false:=by rw[hlen];simp;omega
      have h10:HR (ev E) s fx (aA r.2.1) (bG r.2.2) [Ob.dead] μ=some (qM s fx (aA r.2.1) (bG r.2.2) (r.2.1.length:Int) 0 .dead μ):=by
       refine aZ ?_
       rw[Me,hlen]
      rw[Ep,this,cond_false,h10,aa,CE]
     rw[h8,aa,GD,if_neg h3,if_pos ⟨he,h3⟩]
   ·have h6:E7 (ev E) ((bF r.1).1:Int) (bF r.1).2 [.cells [LV.str s,LV.bool fx,.osl (aA r.2.1),.osl (bG r.2.2)]] μ=some (tZ s fx (aA r.2.1) (bG r.2.2) ((bF r.1).1:Int) (bF r.1).2 μ):=by
     refine aZ ?_
     have:decide ((bF r.1).2=0)=false:=by simp[he]
     rw[Eo,this]
     rfl
    rw[h6,aa,GA,hsc,if_neg he,if_neg (by simp[he])]
  rw[h5,aa]
  have:fq μ.length (LV.ltup [LV.cv (CV.view [CV.str s,CV.bool fx,CV.sl (aA r.2.1),CV.sl (bG r.2.2)]),LV.int .i64 ((bc fx s).n:Int),LV.int .i64 (bc fx s).e])=true:=by
   simp only[fq,List.all_cons,lf,Pq]
   rfl
  split
  ·rw[Gz,this,az,hC]
  ·rw[Gy,this,az,hC]
 ·have:decide (bp s=0)=false:=by simp[ht]
  have hC:nE fx s=[CV.str s,CV.bool fx,CV.v (.slice none 0 0),CV.v (.slice none 0 0)]:=by unfold nE;rw[if_neg ht]
  have hsc:bc fx s=⟨[],[],0,bp s⟩:=by unfold bc;rw[if_neg ht]
  rw[this,Bool.not_false,cond_true,hC,hsc]
  rfl
def ct (fx:Bool)(s:List UInt8):List Tok:=if(bc fx s).e=0 then(bc fx s).toks else []
theorem oI (h:(bc fx s).e=0):bp s=0∧(bc fx s).n=(bc fx s).toks.length∧nE fx s=[CV.str s,CV.bool fx,CV.sl (aA (bc fx s).toks),CV.sl (bG (bc fx s).kept)]:=by
 by_cases ht:bp s=0
 ·refine⟨ht,?_,by unfold nE;rw[if_pos ht]⟩
  unfold bc at h ⊢
  rw[if_pos ht]at h ⊢
  simp only at h ⊢
  by_cases he:(bF (bA fx s (s.length+1) 0 [] []).1).2=0
  ·rw[if_pos he]at h ⊢
   by_cases h3:300<(bA fx s (s.length+1) 0 [] []).2.1.length
   ·rw[if_pos h3]at h;exact absurd h (by simp)
   ·rw[if_neg h3]
  ·rw[if_neg he]at h
   exact absurd h he
 ·unfold bc at h
  rw[if_neg ht]at h
  exact absurd h ht
theorem FU {l:List CV}:oz (LV.cv (CV.view l))=some false:=rfl
theorem Jt {l:List CV}:kf (LV.cv (sQ (CV.view l)))=some l:=rfl
theorem LG {t:List UInt8}:aN (LV.cv (CV.str t))=some t:=rfl
theorem Jr {t:Bool}:aQ (LV.cv (CV.bool t))=some t:=rfl
theorem Ra (hs:s.length≤200000):(ev E).call 57 [LV.str s,LV.bool fx] μ=some (.ret (.ltup [if(bc fx s).e=0 then LV.cv (CV.sl (aA (bc fx s).toks))else A3,LV.int .i64 ((bc fx s).n:Int),LV.int .i64 (bc fx s).e]) μ):=by
 refine aO ?_
 rw[SI,Rd hs]
 simp only[ad,aq,aa,am,ao,aj,ae,ak,az,cond_true,cond_false,Bool.not_true,Bool.not_false,av,au,ar,mh]
 by_cases he:(bc fx s).e=0
 ·have h1:decide ((bc fx s).e=0)=true:=by simp[he]
  obtain⟨_,_,hC⟩:=oI he
  have hG:Na (ev E) (CV.view (nE fx s)) ((bc fx s).n:Int) μ=some (tR (aA (bc fx s).toks) ((bc fx s).n:Int) 0 μ):=by
   refine aZ ?_
   rw[OK,FU,aa,Bool.not_false,az,Jt,aa,hC]
   simp only[ad,aq,aa,am,ao,aj,ae,ak,az,cond_true,cond_false,Bool.not_true,Bool.not_false,av,au,ar,LG,Jr]
  rw[h1,Bool.not_true,cond_false,hG,aa,Gq,he]
  simp
 ·have h1:decide ((bc fx s).e=0)=false:=by simp[he]
  rw[h1,Bool.not_false,cond_true,if_neg he]
  rfl
theorem Nr (hs:s.length≤200000):(ev E).call 24 [LV.str s] μ=some (.ret (.ltup [LV.cv (CV.sl (aA (ct true s))),LV.int .i64 ((bc true s).n:Int),LV.int .i64 (bc true s).e]) μ):=by
 refine aO ?_
 rw[Sw,Ra hs]
 unfold ct
 by_cases he:(bc true s).e=0
 ·rw[if_pos he,if_pos he];rfl
 ·rw[if_neg he,if_neg he];rfl
def gl (s:List UInt8):Option Tok:=if(bc false s).e=0∧(bc false s).n=1 then(bc false s).toks[0]? else none
end
end Go.Abs
set_option linter.unusedVariables false
set_option linter.unusedSimpArgs false
namespace Go.Abs
open Go
def HA (a:Nat)(c:UInt8):Nat:=a*10+(c.toNat-48)
def valD (acc:Nat)(l:List UInt8):Nat:=l.foldl HA acc
theorem ib (acc:Nat):valD acc []=acc:=rfl
theorem KY (c:UInt8)(r:List UInt8)(acc:Nat):valD acc (c::r)=valD (HA acc c) r:=by unfold valD;rw[List.foldl_cons]
theorem dp (c:UInt8)(r:List UInt8)(acc:Nat):valD acc (c::r)=valD (acc*10+(c.toNat-48)) r:=by rw[KY];unfold HA;exact Eq.refl _
theorem cm {c:UInt8}:ah c=true↔48≤c.toNat∧c.toNat≤57:=by
 unfold ah
 rw[Bool.and_eq_true,decide_eq_true_eq,decide_eq_true_eq]
theorem BF (c:UInt8)(l:List UInt8): ∀(acc:Nat),valD acc (l++[c])=valD acc l*10+(c.toNat-48):=by
 induction l with
 |nil=>intro acc;rw[List.nil_append,dp,ib,ib]
 |cons d r ih=>intro acc;rw[List.cons_append,dp,dp,ih]
theorem dH: ∀(l:List UInt8) (acc:Nat),(∀b∈l,ah b=true)→acc*10^l.length≤valD acc l∧valD acc l<(acc+1)*10^l.length
 |[],acc,_=>by rw[ib,List.length_nil,Nat.pow_zero];omega
 |c::r,acc,h=>by
  have hc:=cm.1 (h c List.mem_cons_self)
  obtain⟨h1,h2⟩:=dH r (acc*10+(c.toNat-48)) (fun b hb=>h b (List.mem_cons_of_mem _ hb))
  rw[dp];simp only[List.length_cons,Nat.pow_succ]
  have e1:acc*(10^r.length*10)=(acc*10)*10^r.length:=by rw[Nat.mul_comm (10^r.length) 10,Nat.mul_assoc]
  have e2:(acc+1)*(10^r.length*10)=((acc+1)*10)*10^r.length:=by rw[Nat.mul_comm (10^r.length) 10,Nat.mul_assoc]
  rw[e1,e2]
  refine⟨Nat.le_trans (Nat.mul_le_mul_right _ (by omega)) h1,Nat.lt_of_lt_of_le h2 (Nat.mul_le_mul_right _ (by omega))⟩
theorem oU: ∀(l:List UInt8) (acc:Nat),valD acc l=acc*10^l.length+valD 0 l
 |[],acc=>by simp[ib]
 |c::r,acc=>by
  rw[dp];simp only[List.length_cons,Nat.pow_succ]
  rw[dp c r 0,oU r (acc*10+(c.toNat-48)),oU r (0*10+(c.toNat-48)),Nat.add_mul,Nat.zero_mul,Nat.zero_add,Nat.add_assoc]
  congr 1
  rw[Nat.mul_comm (10^r.length) 10,Nat.mul_assoc]
theorem rI: ∀(l:List UInt8) (acc:Nat),(∀b∈l,ah b=true)→(acc+1)*10^l.length≤10000000000→Lib.parseUint10 acc l= .ok (valD acc l)
 |[],acc,_,_=>rfl
 |c::r,acc,h,hb=>by
  have hc:=cm.1 (h c List.mem_cons_self)
  have hp:1≤10^r.length:=Nat.pow_pos (by omega)
  have e2:(acc+1)*10^(c::r).length=((acc+1)*10)*10^r.length:=by simp only[List.length_cons,Nat.pow_succ];rw[Nat.mul_comm (10^r.length) 10,Nat.mul_assoc]
  rw[e2]at hb
  have h3:(acc+1)*10≤10000000000:=Nat.le_trans (Nat.le_mul_of_pos_right _ hp) hb
  simp only[Lib.parseUint10,dp]
  rw[if_pos hc,if_neg (by omega),if_neg (by omega)]
  exact rI r _ (fun b hb=>h b (List.mem_cons_of_mem _ hb)) (Nat.le_trans (Nat.mul_le_mul_right _ (by omega)) hb)
theorem d6 {l:List UInt8}(h: ∀b∈l,ah b=true)(h1:l≠[])(h2:l.length≤10):Lib.atoiAll l= .ok (valD 0 l:Nat):=by
 cases l with
 |nil=>exact absurd rfl h1
 |cons c r=>
  have hc:=cm.1 (h c List.mem_cons_self)
  have hb:(0+1)*10^(c::r).length≤10000000000:=by
   have:10^(c::r).length≤10^10:=Nat.pow_le_pow_right (by omega) h2
   omega
  have hp:=rI (c::r) 0 h hb
  have hlt:=(dH (c::r) 0 h).2
  rw[Lib.atoiAll_plain c r (by omega) (by omega)]
  unfold Lib.parseMag
  rw[if_neg (by simp),hp]
  simp only[Lib.signless]
  rw[if_neg (by omega)]
theorem pz {l:List UInt8}(h: ∀b∈l,ah b=true)(h1:l≠[])(h2:l.length≤10):Lib.atoiAll (45::l)= .ok (-(valD 0 l:Nat):Int):=by
 have hb:(0+1)*10^l.length≤10000000000:=by
  have:10^l.length≤10^10:=Nat.pow_le_pow_right (by omega) h2
  omega
 have hp:=rI l 0 h hb
 have hlt:=(dH l 0 h).2
 rw[Lib.atoiAll_minus]
 unfold Lib.parseMag
 rw[if_neg h1,hp]
 simp only[Lib.signed]
 rw[if_neg (by omega)]
def bL:List UInt8→List UInt8
 |[]=>[]
 |[c]=>[c]
 |c::d::r=>if c=48 then bL (d::r)else c::d::r
theorem rY: ∀(l:List UInt8),valD 0 (bL l)=valD 0 l
 |[]=>rfl
 |[c]=>rfl
 |c::d::r=>by
  unfold bL
  split
  ·rename_i hc
   rw[rY (d::r)]
   subst hc
   rfl
  ·rfl
theorem lx: ∀(l:List UInt8),∀b∈bL l,b∈l
 |[],b,hb=>hb
 |[c],b,hb=>hb
 |c::d::r,b,hb=>by
  unfold bL at hb
  split at hb
  ·exact List.mem_cons_of_mem _ (lx (d::r) b hb)
  ·exact hb
theorem nH: ∀(l:List UInt8),(bL l).length≤l.length
 |[]=>Nat.le_refl _
 |[c]=>Nat.le_refl _
 |c::d::r=>by
  unfold bL
  split
  ·have:=nH (d::r)
   simp only[List.length_cons]at this ⊢
   omega
  ·exact Nat.le_refl _
def gF (l:List UInt8):Prop:=l.length=1∨ ∃c r,l=c::r∧c≠48
theorem l5: ∀(l:List UInt8),l≠[]→gF (bL l)
 |[],h=>absurd rfl h
 |[c],_=>Or.inl rfl
 |c::d::r,_=>by
  unfold bL
  split
  ·exact l5 (d::r) (by simp)
  ·rename_i hc
   exact Or.inr ⟨c,_,rfl,hc⟩
theorem BG {c:UInt8}{r:List UInt8}(h: ∀b∈c::r,ah b=true)(hc:c≠48):1≤valD 0 (c::r):=by
 have h1:=cm.1 (h c List.mem_cons_self)
 have h2:=(dH r (0*10+(c.toNat-48)) (fun b hb=>h b (List.mem_cons_of_mem _ hb))).1
 have hp:1≤10^r.length:=Nat.pow_pos (by omega)
 have h3:c.toNat≠48:=fun e=>hc (UInt8.toNat.inj (by rw[e];rfl))
 have h4:1≤(0*10+(c.toNat-48))*10^r.length:=Nat.one_le_iff_ne_zero.2 (Nat.mul_ne_zero (by omega) (by omega))
 simp only[dp,ib]
 omega
theorem wR {u d:Nat}(hu:1≤u)(hd:d≤9):Lib.decDigits (u*10+d)=Lib.decDigits u++[UInt8.ofNat (48+d)]:=by
 rw[Lib.decDigits,dif_neg (by omega)]
 have e1:(u*10+d) / 10=u:=by omega
 have e2:(u*10+d) % 10=d:=by omega
 rw[e1,e2]
theorem yb {c:UInt8}(h:ah c=true):UInt8.ofNat (48+(c.toNat-48))=c:=by
 have h1:=cm.1 h
 have:48+(c.toNat-48)=c.toNat:=by omega
 rw[this];simp
theorem wS: ∀(n:Nat) (l:List UInt8),l.length=n→(∀b∈l,ah b=true)→gF l→Lib.decDigits (valD 0 l)=l:=by
 intro n
 induction n with
 |zero=>
  intro l hn _ hl
  rcases hl with h|⟨c,r,rfl,_⟩
  ·omega
  ·simp at hn
 |succ n ih=>
  intro l hn hd hl
  have hne:l≠[]:=by intro h;subst h;simp at hn
  have hsp:=List.dropLast_concat_getLast hne
  have hc:ah (l.getLast hne)=true:=hd _ (List.getLast_mem hne)
  have hc':=cm.1 hc
  by_cases h0:l.dropLast=[]
  ·rw[h0,List.nil_append]at hsp
   rw[←hsp]
   simp only[dp,ib]
   rw[Lib.decDigits_one (by omega),Nat.zero_mul,Nat.zero_add,yb hc]
  ·rcases hl with h|⟨c,r,e,hne2⟩
   ·exfalso
    apply h0
    apply List.eq_nil_of_length_eq_zero
    rw[List.length_dropLast]
    omega
   ·have hdl: ∀b∈l.dropLast,ah b=true:=fun b hb=>hd b (List.dropLast_subset _ hb)
    have hll: ∃r',l.dropLast=c::r':=by
     rw[e]at h0 ⊢
     cases r with
     |nil=>simp at h0
     |cons d r=>exact⟨_,rfl⟩
    obtain⟨r',hr'⟩:=hll
    have hp:1≤valD 0 l.dropLast:=by rw[hr']at hdl ⊢; exact BG hdl hne2
    have:=ih l.dropLast (by rw[List.length_dropLast];omega) hdl (Or.inr ⟨c,r',hr',hne2⟩)
    rw[←hsp,BF,wR hp (by omega),this,yb hc]
theorem LI {l:List UInt8}(h: ∀b∈l,ah b=true)(h1:l≠[]):Lib.itoa (valD 0 l:Nat)=bL l:=by
 unfold Lib.itoa
 rw[if_neg (by omega)]
 have e:((valD 0 l:Nat):Int).toNat=valD 0 (bL l):=by rw[rY];omega
 rw[e]
 exact wS _ _ rfl (fun b hb=>h b (lx l b hb)) (l5 l h1)
end Go.Abs
set_option linter.unusedVariables false
set_option linter.unusedSimpArgs false
set_option maxRecDepth 100000
namespace Go.Abs
open Go Go.Proofs
section
variable {s:List UInt8}{n:Nat}
theorem b7:atC false s n=(s[n]?).getD 0:=rfl
theorem cE:atE false s n=if n<s.length then n+1 else n:=rfl
theorem rO {p:UInt8→Bool}(hp:p 0=false): ∀(l:List UInt8),ex false p l 0=(l.takeWhile p,(l.takeWhile p).length)
 |[]=>rfl
 |c::r=>by
  have ih:=rO hp r
  unfold ex
  rw[ih]
  by_cases h0:c=0
  ·subst h0
   simp[hp]
  ·have h1:(c != 0)=true:=by simp[h0]
   cases hc:p c
   ·simp[hc]
   ·simp[hc,h1];omega
theorem cX {p:UInt8→Bool}(hp:p 0=false):cj false p s n=(s.drop n).takeWhile p:=by unfold cj;rw[rO hp]
theorem cY {p:UInt8→Bool}(hp:p 0=false):runE false p s n=n+((s.drop n).takeWhile p).length:=by unfold runE;rw[rO hp]
theorem jH:aU 0=false:=by decide
theorem cQ:ah 0=false:=by decide
theorem mM:aY 0=false:=by decide
def bv (s:List UInt8)(n:Nat)(w:List UInt8):Bool:=decide (n+w.length≤s.length)&&decide (((s.drop n).take w.length).map upB=w)
def digR (s:List UInt8)(n:Nat):Nat:=((s.drop n).takeWhile ah).length
theorem j9:cj false ah s n=(s.drop n).take (digR s n)∧runE false ah s n=n+digR s n:=by
 rw[cX cQ,cY cQ]
 refine⟨?_,rfl⟩
 unfold digR
 exact(List.prefix_iff_eq_take.1 (List.takeWhile_prefix _))
def Jw (w:List UInt8):Prop:= ∃v,w=46::v++[46]∧ ∀b∈v,65≤b.toNat∧b.toNat≤90
theorem EW: ∀i:Fin 256,(upB (UInt8.ofNat i.val)=46→i.val=46)∧(65≤(upB (UInt8.ofNat i.val)).toNat∧(upB (UInt8.ofNat i.val)).toNat≤90→aU (UInt8.ofNat i.val)=true):=by decide
theorem EV {c:UInt8}(h:upB c=46):c=46:=by
 have:=(EW ⟨c.toNat,c.toNat_lt⟩).1 (by simpa using h)
 exact UInt8.toNat.inj this
theorem Pd {c:UInt8}(h:65≤(upB c).toNat∧(upB c).toNat≤90):aU c=true:=by
 have:=(EW ⟨c.toNat,c.toNat_lt⟩).2 (by simpa using h)
 simpa using this
theorem dy {p:UInt8→Bool}: ∀(l:List UInt8),∀c∈l.takeWhile p,p c=true
 |[],c,h=>by simp at h
 |d::r,c,h=>by
  rw[List.takeWhile_cons]at h
  split at h
  ·rename_i hd
   rcases List.mem_cons.1 h with rfl|h
   ·exact hd
   ·exact dy r c h
  ·simp at h
theorem iC {p:UInt8→Bool}{d:UInt8}(hd:p d=false): ∀(v r:List UInt8),(∀b∈v,p b=true)→(v++d::r).takeWhile p=v
 |[],r,_=>by simp[hd]
 |c::v,r,h=>by
  have hc:=h c List.mem_cons_self
  rw[List.cons_append,List.takeWhile_cons,hc]
  simp only[if_true]
  rw[iC hd v r (fun b hb=>h b (List.mem_cons_of_mem _ hb))]
theorem xV {v w:List UInt8}: ∀{l:List UInt8},l.map upB=v++w→ ∃a b,l=a++b∧a.map upB=v∧b.map upB=w:=by
 intro l h
 obtain⟨a,b,e,h1,h2⟩:=List.map_eq_append_iff.1 h
 exact⟨a,b,e,h1,h2⟩
theorem eZ {w:List UInt8}(hw:Jw w)(h:bv s n w=true):atC false s n=46∧cq false s n=w∧atC false s (runE false aU s (atE false s n))=46∧dotEnd false s n=n+w.length:=by
 obtain⟨v,rfl,hv⟩:=hw
 simp only[bv,Bool.and_eq_true,decide_eq_true_eq]at h
 obtain⟨hlen,hm⟩:=h
 rw[List.cons_append]at hm hlen
 simp only[List.length_cons,List.length_append,List.length_nil]at hlen hm
 obtain⟨a,b,he,ha,hb⟩:=xV (v:=[46]) (w:=v++[46]) hm
 obtain⟨b1,b2,he2,hb1,hb2⟩:=xV hb
 obtain⟨x,rfl⟩: ∃x,a=[x]:=by
  cases a with
  |nil=>simp at ha
  |cons x t=>cases t with
   |nil=>exact⟨x,rfl⟩
   |cons y t=>simp at ha
 obtain⟨y,rfl⟩: ∃y,b2=[y]:=by
  cases b2 with
  |nil=>simp at hb2
  |cons x t=>cases t with
   |nil=>exact⟨x,rfl⟩
   |cons y t=>simp at hb2
 have hx:x=46:=EV (by simpa using ha)
 have hy:y=46:=EV (by simpa using hb2)
 subst hx hy
 have hb1l:b1.length=v.length:=by rw[←hb1,List.length_map]
 have hlet: ∀c∈b1,aU c=true:=by
  intro c hc
  exact Pd (hv _ (by rw[←hb1];exact List.mem_map_of_mem hc))
 have hd:s.drop n=46::(b1++46::(s.drop (n+v.length+2))):=by
  have h1:=List.take_append_drop (v.length+(0+1)+1) (s.drop n)
  rw[he,he2,List.drop_drop]at h1
  rw[←h1]
  simp only[List.cons_append,List.nil_append,List.append_assoc]
  congr 4
 have hn:n<s.length:=by omega
 have h0:s[n]? =some 46:=by
  have:(s.drop n)[0]? =some 46:=by rw[hd];rfl
  rw[List.getElem?_drop]at this
  simpa using this
 have hd1:s.drop (n+1)=b1++46::(s.drop (n+v.length+2)):=by
  have:(s.drop n).drop 1=b1++46::(s.drop (n+v.length+2)):=by rw[hd];rfl
  rw[List.drop_drop]at this
  exact this
 have hr:(s.drop (n+1)).takeWhile aU=b1:=by rw[hd1];exact iC (by decide) _ _ hlet
 have hE:atE false s n=n+1:=by rw[cE,if_pos hn]
 have hR:runE false aU s (n+1)=n+1+v.length:=by rw[cY jH,hr,hb1l]
 have h46:s[n+1+v.length]? =some 46:=by
  have:(s.drop (n+1))[b1.length]? =some 46:=by rw[hd1,List.getElem?_append_right (Nat.le_refl _),Nat.sub_self];rfl
  rw[List.getElem?_drop,hb1l]at this
  exact this
 refine⟨by rw[b7,h0];rfl,?_,?_,?_⟩
 ·unfold cq
  rw[hE,cX jH,hr]
  have:up b1=v:=by
   unfold up
   rw[m4 b1 (fun b hb=>kE (hlet b hb)),hb1]
  rw[this];rfl
 ·rw[hE,hR,b7,h46];rfl
 ·unfold dotEnd
  rw[hE,hR,cE,if_pos (by omega)]
  simp only[List.length_append,List.length_cons,List.length_nil]
  omega
theorem yy {w:List UInt8}(h0:atC false s n=46)(h1:cq false s n=w)(h2:atC false s (runE false aU s (atE false s n))=46):bv s n w=true:=by
 have hn:n<s.length:=by
  rcases Nat.lt_or_ge n s.length with h|h
  ·exact h
  ·rw[b7,List.getElem?_eq_none h]at h0;simp at h0
 have hE:atE false s n=n+1:=by rw[cE,if_pos hn]
 rw[hE,cY jH,b7]at h2
 have hg:s[n]? =some 46:=by
  rw[b7,List.getElem?_eq_getElem hn]at h0
  rw[List.getElem?_eq_getElem hn]
  simpa using h0
 have hd:s.drop n=46::s.drop (n+1):=by
  rw[List.drop_eq_getElem_cons hn]
  rw[List.getElem?_eq_getElem hn]at hg
  injection hg with hg
  rw[hg]
 obtain⟨v,hv⟩: ∃v,v=(s.drop (n+1)).takeWhile aU:=⟨_,rfl⟩
 rw[←hv]at h2
 have hm:n+1+v.length<s.length:=by
  rcases Nat.lt_or_ge (n+1+v.length) s.length with h|h
  ·exact h
  ·rw[List.getElem?_eq_none h]at h2;simp at h2
 have hg2:s[n+1+v.length]=46:=by
  rw[List.getElem?_eq_getElem hm]at h2
  simpa using h2
 have hp:s.drop (n+1)=v++s.drop (n+1+v.length):=by
  have h3:v <+: s.drop (n+1):=by rw[hv];exact List.takeWhile_prefix _
  have h4:=List.prefix_iff_eq_append.1 h3
  rw[List.drop_drop]at h4
  exact h4.symm
 have hd2:s.drop (n+1+v.length)=46::s.drop (n+1+v.length+1):=by rw[List.drop_eq_getElem_cons hm,hg2]
 have hlet: ∀c∈v,aU c=true:=by
  intro c hc
  rw[hv]at hc
  exact dy _ c hc
 have hT:cq false s n=[46]++v.map upB++[46]:=by
  unfold cq
  rw[hE,cX jH,←hv]
  unfold up
  rw[m4 v (fun b hb=>kE (hlet b hb))]
 have hwl:w.length=v.length+2:=by rw[←h1,hT];simp
 simp only[bv,Bool.and_eq_true,decide_eq_true_eq]
 refine⟨by omega,?_⟩
 rw[hwl,hd,hp,hd2]
 have e:(46::(v++46::s.drop (n+1+v.length+1)))=(46::v++[46])++s.drop (n+1+v.length+1):=by simp
 rw[e,List.take_left' (by simp),←h1,hT]
 simp[upB]
end
end Go.Abs
set_option linter.unusedVariables false
set_option linter.unusedSimpArgs false
set_option maxRecDepth 100000
namespace Go.Abs
open Go Go.Proofs
section
variable {μ:Mu}
theorem cI {n m:Nat}(h:n<m):decide ((n:Int)<(m:Int))=true:=by simp;omega
theorem c6 {n m:Nat}(h:m≤n):decide ((n:Int)<(m:Int))=false:=by simp;omega
theorem Sm {n m:Nat}(h:n≤m):decide ((n:Int)≤(m:Int))=true:=by simp;omega
theorem Sl {n m:Nat}(h:m<n):decide ((n:Int)≤(m:Int))=false:=by simp;omega
theorem b9 {s:List UInt8}{n:Nat}(h:n<s.length):bo s (n:Int)=some s[n]:=by rw[lw,List.getElem?_eq_getElem h]
theorem bV {n:Nat}(h:n≤1000000000):IntKind.wrap .i64 ((n:Int)+1)=((n+1:Nat):Int):=by rw[cp (by omega) (by omega)];omega
theorem gB {n m:Nat}(h:n+m≤1000000000):IntKind.wrap .i64 ((n:Int)+(m:Int))=((n+m:Nat):Int):=by rw[cp (by omega) (by omega)];omega
theorem S5 {n m:Nat}(h:n≤1000000000)(h2:m≤n):IntKind.wrap .i64 ((n:Int) -(m:Int))=((n-m:Nat):Int):=by rw[cp (by omega) (by omega)];omega
theorem zb {n:Nat}(h:n≤1000000000)(h2:1≤n):IntKind.wrap .i64 ((n:Int) -1)=((n-1:Nat):Int):=by rw[cp (by omega) (by omega)];omega
theorem zW {s:List UInt8}{n:Nat}(h:n<s.length):di s (n:Int) ((n+1:Nat):Int)=some [s[n]]:=by
 rw[e7 (by omega) (by omega),List.drop_eq_getElem_cons h]
 have:n+1-n=1:=by omega
 rw[this]
 rfl
theorem yV {c:UInt8}:(ev E).call 67 [LV.int .u8 (c.toNat:Int)] μ=some (.ret (LV.bool (ah c)) μ):=by
 refine aO ?_
 rw[SK]
 have e1:decide ((48:Int)≤(c.toNat:Int))=decide (48≤c.toNat):=dI 48 _
 have e2:decide ((c.toNat:Int)≤57)=decide (c.toNat≤57):=dI _ 57
 rw[e1,e2]
 unfold ah
 cases decide (48≤c.toNat)<;>rfl
theorem ND {c:UInt8}:(ev E).call 96 [LV.int .u8 (c.toNat:Int)] μ=some (.ret (LV.bool (aU c)) μ):=by
 refine aO ?_
 rw[SV]
 have e1:decide ((97:Int)≤(c.toNat:Int))=decide (97≤c.toNat):=dI 97 _
 have e2:decide ((c.toNat:Int)≤122)=decide (c.toNat≤122):=dI _ 122
 have e3:decide ((65:Int)≤(c.toNat:Int))=decide (65≤c.toNat):=dI 65 _
 have e4:decide ((c.toNat:Int)≤90)=decide (c.toNat≤90):=dI _ 90
 rw[e1,e2,e3,e4]
 unfold aU
 cases decide (97≤c.toNat)<;>cases decide (c.toNat≤122)<;>cases decide (65≤c.toNat)<;>cases decide (c.toNat≤90)<;>rfl
theorem sA {a b c:Int}:(ev E).call 23 [LV.int .i64 a,LV.int .i64 b,LV.int .i64 c] μ=some (.ret (LV.bool (decide (b≤a)&&decide (a≤c))) μ):=by
 refine aO ?_
 rw[Sv]
 by_cases h:a<b
 ·have h1:decide (a<b)=true:=by simp[h]
  have h2:decide (b≤a)=false:=by simp;omega
  rw[h1,h2];rfl
 ·have h1:decide (a<b)=false:=by simp;omega
  have h2:decide (b≤a)=true:=by simp;omega
  have h3:(!decide (c<a))=decide (a≤c):=by
   by_cases h4:c<a
   ·have: ¬a≤c:=by omega
    simp[h4,this]
   ·have:a≤c:=by omega
    simp[h4,this]
  rw[h1,h2,h3];rfl
theorem Qj: ∀(k:Nat) (p l:List UInt8),l.length=k→p.length+k≤1000000→
  se (ev E) (p.length+k) (p.length:Int) (br (p++l)) μ=some (pr (p.length+k) (br (p++l.map upB)) μ):=by
 intro k
 induction k with
 |zero=>
  intro p l hl hp
  have:l=[]:=List.eq_nil_of_length_eq_zero hl
  subst this
  refine aW ?_
  rw[EF,c6 (by omega),cond_false]
  rfl
 |succ k ih=>
  intro p l hl hp
  cases l with
  |nil=>simp at hl
  |cons c r=>
   simp only[List.length_cons]at hl
   refine aW ?_
   have hr:en (p.length:Int) (p.length+(k+1))=true:=by simp[en];omega
   have ho:bH E.P 5 (Ob.arr 1 (br (p++c::r))) (0+((p.length:Int)).toNat*1)=some (LV.int .u8 (c.toNat:Int)):=by
    have e1:0+((p.length:Int)).toNat*1=p.length:=by omega
    rw[e1]
    have e2:bH E.P 5 (Ob.arr 1 (br (p++c::r))) p.length=opt ((br (p++c::r))[p.length]?) fun c=>some (.cv c):=by kernel_rfl
    have e3:(br (p++c::r))[p.length]? =some (CV.int .u8 (c.toNat:Int)):=by
     unfold br
     rw[List.getElem?_map,List.getElem?_append_right (Nat.le_refl _),Nat.sub_self]
     rfl
    rw[e2,e3]
    rfl
   have hn:se (ev E) (p.length+(k+1)) (IntKind.wrap .i64 ((p.length:Int)+1)) (br (p++upB c::r)) μ=some (pr (p.length+(k+1)) (br (p++(c::r).map upB)) μ):=by
    have:=ih (p++[upB c]) r (by omega) (by simp;omega)
    have e1:(p++[upB c]).length+k=p.length+(k+1):=by simp;omega
    have e2:(((p++[upB c]).length:Nat):Int)=((p.length+1:Nat):Int):=by simp
    rw[e1,e2]at this
    rw[bV (by omega)]
    have e3:p++[upB c]++r=p++upB c::r:=by simp
    have e4:p++[upB c]++r.map upB=p++(c::r).map upB:=by simp
    rw[e3,e4]at this
    exact this
   rw[EF,cI (by omega),cond_true,hr,az,ho]
   simp only[ad,aq,aa,am,ao,aj,ae,ak,az,cond_true,cond_false,Bool.not_true,Bool.not_false,av,au,ar]
   have e1:decide ((97:Int)≤(c.toNat:Int))=decide (97≤c.toNat):=dI 97 _
   have e2:decide ((c.toNat:Int)≤122)=decide (c.toNat≤122):=dI _ 122
   rw[e1,e2]
   by_cases h1:97≤c.toNat
   ·by_cases h2:c.toNat≤122
    ·have hu:upB c=c-32:=by unfold upB;rw[if_pos ⟨h1,h2⟩]
     have hc:(c-32).toNat=c.toNat-32:=by
      rw[UInt8.toNat_sub_of_le]
      ·rfl
      ·rw[UInt8.le_iff_toNat_le];show 32≤c.toNat;omega
     have w1:IntKind.wrap .u8 ((c.toNat:Int) -97)=(c.toNat:Int) -97:=HG (by omega) (by omega)
     have w2:IntKind.wrap .u8 ((c.toNat:Int) -97+65)=((upB c).toNat:Int):=by rw[HG (by omega) (by omega),hu,hc];omega
     have hs:cP (br (p++c::r)) (0+((p.length:Int)).toNat*1) (CV.cells (CV.int .u8 ((upB c).toNat:Int)))=br (p++upB c::r):=by
      have e1:0+((p.length:Int)).toNat*1=p.length:=by omega
      rw[e1]
      show ((br (p++c::r)).set p.length (CV.int .u8 ((upB c).toNat:Int)))=_
      unfold br
      rw[List.map_append,List.map_append,List.set_append,if_neg (by simp)]
      simp
     have hg:(fg 1 (CV.int .u8 ((upB c).toNat:Int))&&Nat.ble (0+((p.length:Int)).toNat*1+1) (br (p++c::r)).length)=true:=by
      have e1:0+((p.length:Int)).toNat*1+1=p.length+1:=by omega
      rw[e1,iM]
      have:fg 1 (CV.int .u8 ((upB c).toNat:Int))=true:=rfl
      rw[this,Bool.true_and]
      simp
     simp only[h1,h2,decide_true,ad,aq,aa,am,ao,aj,ae,ak,az,cond_true,cond_false,Bool.not_true,Bool.not_false,av,au,ar,hr]
     rw[w1,w2,hg,az,hs,hn]
    ·have hu:upB c=c:=by unfold upB;rw[if_neg (by omega)]
     rw[hu]at hn
     simp only[h1,h2,decide_true,decide_false,ad,aq,aa,am,ao,aj,ae,ak,az,cond_true,cond_false,Bool.not_true,Bool.not_false,av,au,ar,hr]
     rw[hn]
   ·have hu:upB c=c:=by unfold upB;rw[if_neg (by omega)]
    rw[hu]at hn
    simp only[h1,decide_false,ad,aq,aa,am,ao,aj,ae,ak,az,cond_true,cond_false,Bool.not_true,Bool.not_false,av,au,ar]
    rw[hn]
theorem NE {s:List UInt8}(hs:s.length≤1000000):(ev E).call 97 [LV.str s] μ=some (.ret (LV.str (s.map upB)) μ):=by
 refine aO ?_
 have:=Qj (μ:=μ) s.length [] s rfl (by simpa using hs)
 simp only[List.length_nil,Nat.zero_add,List.nil_append]at this
 have e0:((0:Nat):Int)=0:=rfl
 rw[e0]at this
 rw[SW,bq (by omega),az,this,aa,Hd]
 have h1:(List.take s.length (List.drop 0 (br (s.map upB))))=br (s.map upB):=by
  rw[List.drop_zero,List.take_of_length_le]
  rw[iM,List.length_map];exact Nat.le_refl _
 have h2:Nat.ble (0+s.length) (br (s.map upB)).length=true:=by rw[iM,List.length_map];simp
 rw[h1,h2,az,dh,aa]
theorem pO {s w:List UInt8}{n:Nat}(hs:s.length≤200000)(hn:n≤s.length)(hw:w.length≤200000):(ev E).call 99 [LV.str s,LV.int .i64 (n:Int),LV.str w] μ=some (.ret (LV.bool (bv s n w)) μ):=by
 refine aO ?_
 rw[SY,gB (by omega)]
 unfold bv
 by_cases h:n+w.length≤s.length
 ·rw[Sm h,cond_true,e7 (by omega) h,aa]
  have e:n+w.length-n=w.length:=by omega
  rw[e,NE (by simp;omega)]
  simp only[ad,aq,aa,am,ao,aj,ae,ak,az,cond_true,cond_false,Bool.not_true,Bool.not_false,av,au,ar]
  simp[h]
 ·rw[Sl (by omega),cond_false]
  simp[h]
theorem Qc {s:List UInt8}(hs:s.length≤200000){n:Nat}(hn:n≤s.length): ∀(k m:Nat),n+m+k=s.length→Fk (ev E) s (n:Int) (m:Int) μ=some (pn ((m+digR s (n+m):Nat):Int) μ):=by
 intro k
 induction k with
 |zero=>
  intro m hm
  refine aW ?_
  rw[Ey,gB (by omega),c6 (by omega),cond_false]
  have:s.drop (n+m)=[]:=List.drop_eq_nil_of_le (by omega)
  simp[digR,this]
 |succ k ih=>
  intro m hm
  refine aW ?_
  have hlt:n+m<s.length:=by omega
  rw[Ey,gB (by omega),cI (by omega),cond_true,b9 hlt,aa,yV]
  simp only[ad,aq,aa,am,ao,aj,ae,ak,az,cond_true,cond_false,Bool.not_true,Bool.not_false,av,au,ar]
  have hd:s.drop (n+m)=s[n+m]::s.drop (n+m+1):=List.drop_eq_getElem_cons hlt
  cases hc:ah s[n+m]with
  |true=>
   rw[cond_true,bV (by omega),ih (m+1) (by omega)]
   unfold digR
   rw[hd,List.takeWhile_cons,hc]
   simp only[if_true,List.length_cons]
   have:n+(m+1)=n+m+1:=by omega
   rw[this]
   congr 3
   omega
  |false=>
   rw[cond_false]
   unfold digR
   rw[hd,List.takeWhile_cons,hc]
   simp
theorem yU {s:List UInt8}(hs:s.length≤200000){n:Nat}(hn:n≤s.length):(ev E).call 47 [LV.str s,LV.int .i64 (n:Int)] μ=some (.ret (LV.int .i64 (digR s n:Nat)) μ):=by
 refine aO ?_
 have:=Qc (μ:=μ) hs hn (s.length-n) 0 (by omega)
 have e0:((0:Nat):Int)=0:=rfl
 rw[e0,Nat.zero_add,Nat.add_zero]at this
 rw[Sz,this,aa,GS]
theorem oq {s:List UInt8}{n:Nat}(hn:n≤s.length):n+digR s n≤s.length:=by
 unfold digR
 have:=(List.takeWhile_sublist ah (l:=s.drop n)).length_le
 rw[List.length_drop]at this
 omega
theorem NA {t:List UInt8}:(ev E).call 70 [LV.str t] μ=some (.ret (LV.str (bh t)) μ):=by
 refine aO ?_
 rw[SM]
 unfold bh
 by_cases h:t=[]<;>simp[h]
theorem JS: ∀(s:List UInt8),s.length≤1000000→Fm (ev E) s μ=some (pp (bL s) μ)
 |[],_=>aW (by rw[xe];rfl)
 |[c],_=>aW (by rw[xe];rfl)
 |c::d::r,h=>by
  have e48: ∀c:UInt8,decide ((c.toNat:Int)=48)=decide (c=48):=fun c=>co (k:=48) (by omega)
  simp only[List.length_cons]at h
  refine aW ?_
  have h1:decide ((1:Int)<((c::d::r).length:Int))=true:=by simp;omega
  have h2:bo (c::d::r) (0:Int)=some c:=rfl
  have h3:=pE (l:=c::d::r) (a:=1) (by simp)
  have e1:((1:Nat):Int)=1:=rfl
  rw[e1]at h3
  rw[xe,h1,cond_true,h2,aa,e48,h3,aa]
  unfold bL
  by_cases hc:c=48
  ·have:decide (c=48)=true:=by simp[hc]
   rw[this,cond_true,if_pos hc]
   exact JS (d::r) (by simp;omega)
  ·have:decide (c=48)=false:=by simp[hc]
   rw[this,cond_false,if_neg hc]
theorem Nz {s:List UInt8}(hs:s.length≤1000000):(ev E).call 69 [LV.str s] μ=some (.ret (LV.str (bL s)) μ):=by
 refine aO ?_
 rw[SL,JS s hs,aa,G7]
def fM (s:List UInt8):List UInt8:=(bL s.reverse).reverse
theorem Ot: ∀(k:Nat) (s:List UInt8),s.length=k→s.length≤1000000→zq (ev E) s μ=some (nh (fM s) μ):=by
 have e48: ∀c:UInt8,decide ((c.toNat:Int)=48)=decide (c=48):=fun c=>co (k:=48) (by omega)
 intro k
 induction k with
 |zero=>
  intro s hk h
  have:s=[]:=List.eq_nil_of_length_eq_zero hk
  subst this
  exact aW (by rw[uM];rfl)
 |succ k ih=>
  intro s hk h
  refine aW ?_
  have hne:s≠[]:=by intro e;subst e;simp at hk
  have hsp:=List.dropLast_concat_getLast hne
  have hrev:s.reverse=s.getLast hne::s.dropLast.reverse:=by
   conv=>lhs;rw[←hsp]
   simp
  by_cases h1:1<s.length
  ·have e1:decide ((1:Int)<(s.length:Int))=true:=by simp;omega
   have hdl:s.dropLast.length=s.length-1:=List.length_dropLast
   obtain⟨d,r,hr⟩: ∃d r,s.dropLast.reverse=d::r:=by
    cases hx:s.dropLast.reverse with
    |nil=>
     have:s.dropLast.length=0:=by rw[←List.length_reverse,hx];rfl
     omega
    |cons d r=>exact⟨d,r,rfl⟩
   have hl:bo s ((s.length-1:Nat):Int)=some (s.getLast hne):=by rw[b9 (by omega),List.getLast_eq_getElem]
   have hcut:di s (0:Int) ((s.length-1:Nat):Int)=some s.dropLast:=by
    have:=e7 (l:=s) (a:=0) (e:=s.length-1) (by omega) (by omega)
    have e0:((0:Nat):Int)=0:=rfl
    rw[e0]at this
    rw[this,List.drop_zero,Nat.sub_zero,List.dropLast_eq_take]
   rw[uM,e1,cond_true,zb (by omega) (by omega),hl,aa,e48,hcut,aa]
   by_cases hc:s.getLast hne=48
   ·have:decide (s.getLast hne=48)=true:=by simp[hc]
    rw[this,cond_true,ih s.dropLast (by omega) (by omega)]
    unfold fM
    rw[hrev,hr,bL,if_pos hc]
   ·have:decide (s.getLast hne=48)=false:=by simp[hc]
    rw[this,cond_false]
    unfold fM
    rw[hrev,hr,bL,if_neg hc,←hr,←hrev,List.reverse_reverse]
  ·have e1:decide ((1:Int)<(s.length:Int))=false:=by simp;omega
   rw[uM,e1,cond_false]
   have hd:s.dropLast=[]:=List.eq_nil_of_length_eq_zero (by rw[List.length_dropLast];omega)
   unfold fM
   rw[hrev,hd]
   rw[hd,List.nil_append]at hsp
   rw[List.reverse_nil,bL,List.reverse_singleton,hsp]
theorem PJ {s:List UInt8}(hs:s.length≤1000000):(ev E).call 134 [LV.str s] μ=some (.ret (LV.str (fM s)) μ):=by
 refine aO ?_
 rw[Rt,Ot _ s rfl hs,aa,CN]
def countR (s:List UInt8):Nat:=if s=[48]then 0 else s.length
theorem JB {s:List UInt8}:(ev E).call 135 [LV.str s] μ=some (.ret (LV.int .i64 (countR s:Nat)) μ):=by
 refine aO ?_
 rw[Ru]
 unfold countR
 by_cases h:s=[48]
 ·simp[h]
 ·simp[h]
theorem Oq {s:List UInt8}(hs:s.length≤9)(hd: ∀b∈s,ah b=true): ∀(k m acc:Nat),m+k=s.length→(acc+1)*10^k≤1000000000→zp (ev E) s (acc:Int) (m:Int) μ=some (qS (valD acc (s.drop m):Nat) μ):=by
 intro k
 induction k with
 |zero=>
  intro m acc hm ha
  refine aW ?_
  rw[AL,c6 (by omega),cond_false,List.drop_eq_nil_of_le (by omega)]
  rfl
 |succ k ih=>
  intro m acc hm ha
  have hp:1≤10^k:=Nat.pow_pos (by omega)
  have e2:(acc+1)*10^(k+1)=((acc+1)*10)*10^k:=by rw[Nat.pow_succ,Nat.mul_comm (10^k) 10,Nat.mul_assoc]
  rw[e2]at ha
  have h3:(acc+1)*10≤1000000000:=Nat.le_trans (Nat.le_mul_of_pos_right _ hp) ha
  have hlt:m<s.length:=by omega
  have hc:=cm.1 (hd s[m] (List.getElem_mem hlt))
  refine aW ?_
  have w1:IntKind.wrap .u8 ((s[m].toNat:Int) -48)=((s[m].toNat-48:Nat):Int):=by rw[HG (by omega) (by omega)];omega
  have w2:IntKind.wrap .i64 ((s[m].toNat-48:Nat):Int)=((s[m].toNat-48:Nat):Int):=cp (by omega) (by omega)
  have w3:IntKind.wrap .i64 (10*(acc:Int))=((10*acc:Nat):Int):=by rw[cp (by omega) (by omega)];omega
  have w4:IntKind.wrap .i64 (((10*acc:Nat):Int)+((s[m].toNat-48:Nat):Int))=((acc*10+(s[m].toNat-48):Nat):Int):=by rw[cp (by omega) (by omega)];omega
  rw[AL,cI hlt,cond_true,b9 hlt,aa,w1,w2,w3,w4,bV (by omega),ih (m+1) _ (by omega) (Nat.le_trans (Nat.mul_le_mul_right _ (by omega)) ha),List.drop_eq_getElem_cons hlt,dp]
theorem PI {s:List UInt8}(hs:s.length≤9)(hd: ∀b∈s,ah b=true):(ev E).call 120 [LV.str s] μ=some (.ret (LV.int .i64 (valD 0 s:Nat)) μ):=by
 refine aO ?_
 have hp:(0+1)*10^s.length≤1000000000:=by
  have:10^s.length≤10^9:=Nat.pow_le_pow_right (by omega) hs
  omega
 have:=Oq (μ:=μ) hs hd s.length 0 0 (by omega) hp
 have e0:((0:Nat):Int)=0:=rfl
 rw[e0,List.drop_zero]at this
 rw[Rq,this,aa,CM]
theorem NL (n:Nat):Int.tdiv (n:Int) 10=((n / 10:Nat):Int):=by exact rfl
theorem NM (n:Nat):Int.tmod (n:Int) 10=((n % 10:Nat):Int):=by exact rfl
theorem gR {n:Nat}:Lib.itoa (n:Int)=Lib.decDigits n:=by
 unfold Lib.itoa
 rw[if_neg (by omega)]
 rfl
theorem uG {n:Nat}(h:1≤n):Lib.itoa (-(n:Int))=45::Lib.decDigits n:=by
 unfold Lib.itoa
 rw[if_pos (by omega)]
 congr 2
 omega
theorem N9: ∀d:Fin 10,di ([48,49,50,51,52,53,54,55,56,57]:List UInt8) (d.val:Int) ((d.val+1:Nat):Int)=some [UInt8.ofNat (48+d.val)]:=by decide
theorem oo {n:Nat}(h:n<18446744073709551616):(Lib.decDigits n).length≤20:=by rw[Lib.decDigits_length];exact Lib.nDigits_le20 n h
theorem AB: ∀(n:Nat),n≤1000000000→(ev E).call 71 [LV.int .i64 (n:Int)] μ=some (.ret (LV.str (Lib.decDigits n)) μ):=by
 intro n
 induction n using Nat.strongRecOn with
 |_ n ih=>
  intro hn
  refine aO ?_
  have h0:decide ((n:Int)<0)=false:=by simp
  rw[Qq,h0,cond_false]
  have hG:Ng (ev E) (n:Int) μ=some (pi (Lib.decDigits n) μ):=by
   refine aZ ?_
   rw[OS]
   by_cases h9:9<n
   ·have e9:decide ((9:Int)<(n:Int))=true:=by simp;omega
    have w1:IntKind.wrap .i64 (Int.tdiv (n:Int) 10)=((n / 10:Nat):Int):=by
     have:Int.tdiv (n:Int) 10=((n / 10:Nat):Int):=NL n
     rw[this,cp (by omega) (by omega)]
    have w2:Int.tmod (n:Int) 10=((n % 10:Nat):Int):=NM n
    have hd1:(Lib.decDigits (n / 10)).length≤20:=oo (by omega)
    have hd2:(Lib.decDigits (n % 10)).length≤20:=oo (by omega)
    rw[e9,cond_true,w1,ih (n / 10) (by omega) (by omega)]
    simp only[ad,aq,aa,am,ao,aj,ae,ak,az,cond_true,cond_false,Bool.not_true,Bool.not_false,av,au,ar]
    rw[w2,ih (n % 10) (by omega) (by omega)]
    simp only[ad,aq,aa,am,ao,aj,ae,ak,az,cond_true,cond_false,Bool.not_true,Bool.not_false,av,au,ar]
    rw[bq (by omega),az]
    have:Lib.decDigits (n % 10)=[UInt8.ofNat (48+n % 10)]:=Lib.decDigits_one (by omega)
    rw[this]
    have e:=wR (u:=n / 10) (d:=n % 10) (by omega) (by omega)
    have e2:n / 10*10+n % 10=n:=by omega
    rw[e2]at e
    rw[e]
   ·have e9:decide ((9:Int)<(n:Int))=false:=by simp;omega
    rw[e9,cond_false,bV (by omega)]
    have:=N9 ⟨n,by omega⟩
    simp only at this
    rw[this,aa,Lib.decDigits_one (by omega)]
  rw[hG,aa,Gx]
theorem PX: ∀(n:Nat),1≤n→n≤1000000000→(ev E).call 71 [LV.int .i64 (-(n:Int))] μ=some (.ret (LV.str (45::Lib.decDigits n)) μ):=by
 intro n
 induction n using Nat.strongRecOn with
 |_ n ih=>
  intro h1 hn
  refine aO ?_
  have h0:decide (-(n:Int)<0)=true:=by simp;omega
  rw[Qq,h0,cond_true]
  by_cases h9:9<n
  ·have e9:decide ((-10:Int)< -(n:Int))=false:=by simp;omega
   rw[e9,cond_false]
   have hG:Nf (ev E) (-(n:Int)) μ=some (tX (45::Lib.decDigits n) μ):=by
    refine aZ ?_
    have w1:IntKind.wrap .i64 (Int.tdiv (-(n:Int)) 10)= -((n / 10:Nat):Int):=by
     have:Int.tdiv (-(n:Int)) 10= -((n / 10:Nat):Int):=by rw[Int.neg_tdiv,NL]
     rw[this,cp (by omega) (by omega)]
    have w2:IntKind.wrap .i64 (0-Int.tmod (-(n:Int)) 10)=((n % 10:Nat):Int):=by
     have:Int.tmod (-(n:Int)) 10= -((n % 10:Nat):Int):=by rw[Int.neg_tmod,NM]
     rw[this,cp (by omega) (by omega)]
     omega
    have hd1:(Lib.decDigits (n / 10)).length≤20:=oo (by omega)
    have hd2:(Lib.decDigits (n % 10)).length≤20:=oo (by omega)
    rw[OR,w1,ih (n / 10) (by omega) (by omega) (by omega)]
    simp only[ad,aq,aa,am,ao,aj,ae,ak,az,cond_true,cond_false,Bool.not_true,Bool.not_false,av,au,ar]
    rw[w2,AB (n % 10) (by omega)]
    simp only[ad,aq,aa,am,ao,aj,ae,ak,az,cond_true,cond_false,Bool.not_true,Bool.not_false,av,au,ar]
    rw[bq (by simp;omega),az]
    have:Lib.decDigits (n % 10)=[UInt8.ofNat (48+n % 10)]:=Lib.decDigits_one (by omega)
    rw[this]
    have e:=wR (u:=n / 10) (d:=n % 10) (by omega) (by omega)
    have e2:n / 10*10+n % 10=n:=by omega
    rw[e2]at e
    rw[e]
    rfl
   rw[hG,aa,Gw]
  ·have e9:decide ((-10:Int)< -(n:Int))=true:=by simp;omega
   have w1:IntKind.wrap .i64 (0- -(n:Int))=(n:Int):=by rw[cp (by omega) (by omega)];omega
   have hd2:(Lib.decDigits n).length≤20:=oo (by omega)
   rw[e9,cond_true,w1,AB n (by omega)]
   simp only[ad,aq,aa,am,ao,aj,ae,ak,az,cond_true,cond_false,Bool.not_true,Bool.not_false,av,au,ar]
   rw[bq (by simp;omega),az]
   rfl
theorem Rb {n:Int}(h0: -1000000000≤n)(h1:n≤1000000000):(ev E).call 71 [LV.int .i64 n] μ=some (.ret (LV.str (Lib.itoa n)) μ):=by
 by_cases h:0≤n
 ·obtain⟨m,rfl⟩: ∃m:Nat,n=(m:Int):=⟨n.toNat,by omega⟩
  rw[gR]
  exact AB m (by omega)
 ·obtain⟨m,rfl⟩: ∃m:Nat,n= -(m:Int):=⟨(-n).toNat,by omega⟩
  rw[uG (by omega)]
  exact PX m (by omega) (by omega)
theorem Qb {s:List UInt8}(hs:s.length≤200000): ∀(k m:Nat) (acc:List UInt8),m+k=s.length→acc.length≤1+2*m→yK (ev E) s acc (m:Int) μ=some (ul (acc++dbl (s.drop m)) μ):=by
 have e39: ∀c:UInt8,decide ((c.toNat:Int)=39)=decide (c=39):=fun c=>co (k:=39) (by omega)
 intro k
 induction k with
 |zero=>
  intro m acc hm ha
  refine aW ?_
  rw[Ex,c6 (by omega),cond_false,List.drop_eq_nil_of_le (by omega)]
  simp[dbl]
 |succ k ih=>
  intro m acc hm ha
  have hlt:m<s.length:=by omega
  refine aW ?_
  rw[Ex,cI hlt,cond_true,bV (by omega),zW hlt,aa,bq (by simp;omega),az,b9 hlt,aa,e39,List.drop_eq_getElem_cons hlt,dbl]
  by_cases hc:s[m]=39
  ·have:decide (s[m]=39)=true:=by simp[hc]
   rw[this,cond_true,bq (by simp;omega),az,ih (m+1) _ (by omega) (by simp;omega),if_pos hc,hc]
   simp
  ·have:decide (s[m]=39)=false:=by simp[hc]
   rw[this,cond_false,ih (m+1) _ (by omega) (by simp;omega),if_neg hc]
   simp
theorem Q6 {s:List UInt8}(hs:s.length≤200000):(ev E).call 42 [LV.str s] μ=some (.ret (LV.str (aR s)) μ):=by
 refine aO ?_
 have:=Qb (μ:=μ) hs s.length 0 [39] (by omega) (by simp)
 have e0:((0:Nat):Int)=0:=rfl
 have hd:=mf s
 rw[e0,List.drop_zero]at this
 rw[Sy,this,aa,GR,bq (by simp;omega),az]
 rfl
theorem Q5 {s:List UInt8}{m:Int}(hs:s.length≤200000):(ev E).call 41 [LV.str s,LV.int .i64 m] μ=some (.ret (LV.bool (!decide (m<(s.length:Int))&&cZ s)) μ):=by
 have hl: ∀(k n:Nat),n+k=s.length→Fj (ev E) s (n:Int) μ=some (if cZ (s.drop n)then uk μ else uj false μ):=by
  intro k
  induction k with
  |zero=>
   intro n hn
   refine aW ?_
   rw[Ew,c6 (by omega),cond_false,List.drop_eq_nil_of_le (by omega)]
   rfl
  |succ k ih=>
   intro n hn
   have hlt:n<s.length:=by omega
   refine aW ?_
   have w:IntKind.wrap .i64 (s[n].toNat:Int)=(s[n].toNat:Int):=by have:=s[n].toNat_lt;rw[cp (by omega) (by omega)]
   rw[Ew,cI hlt,cond_true,b9 hlt,aa,w,sA]
   simp only[ad,aq,aa,am,ao,aj,ae,ak,az,cond_true,cond_false,Bool.not_true,Bool.not_false,av,au,ar]
   rw[bV (by omega),ih (n+1) (by omega),List.drop_eq_getElem_cons hlt]
   have e1:decide ((32:Int)≤(s[n].toNat:Int))=decide (32≤s[n].toNat):=dI 32 _
   have e2:decide ((s[n].toNat:Int)≤126)=decide (s[n].toNat≤126):=dI _ 126
   rw[e1,e2]
   have hT:cZ (s[n]::s.drop (n+1))=((decide (32≤s[n].toNat)&&decide (s[n].toNat≤126))&&cZ (s.drop (n+1))):=by
    unfold cZ
    rw[List.any_cons]
    by_cases h1:32≤s[n].toNat
    ·by_cases h2:s[n].toNat≤126
     ·have h3: ¬s[n].toNat<32:=by omega
      have h4: ¬126<s[n].toNat:=by omega
      simp[h1,h2,h3,h4]
     ·have h4:126<s[n].toNat:=by omega
      simp[h2,h4]
    ·have h3:s[n].toNat<32:=by omega
     simp[h1,h3]
   rw[hT]
   cases decide (32≤s[n].toNat)&&decide (s[n].toNat≤126)<;>rfl
 refine aO ?_
 rw[Sx]
 by_cases hm:m<(s.length:Int)
 ·have:decide (m<(s.length:Int))=true:=by simp[hm]
  rw[this];rfl
 ·have:decide (m<(s.length:Int))=false:=by simp[hm]
  have h0:=hl s.length 0 (by omega)
  have e0:((0:Nat):Int)=0:=rfl
  rw[e0,List.drop_zero]at h0
  have hG:M8 (ev E) s μ=some (pf (cZ s) μ):=by
   refine aZ ?_
   rw[OI,h0,aa]
   cases cZ s with
   |true=>exact GQ _ _
   |false=>exact GP _ _ _
  rw[this,cond_false,hG,aa,Gn]
  rfl
theorem Ns {s:List UInt8}(hs:s.length≤200000):(ev E).call 48 [LV.str s] μ=some (.ret (LV.int .i64 (bp s)) μ):=by
 refine aO ?_
 rw[SA,Q5 hs]
 simp only[ad,aq,aa,am,ao,aj,ae,ak,az,cond_true,cond_false,Bool.not_true,Bool.not_false,av,au,ar]
 unfold bp
 by_cases h:1320<s.length
 ·have:decide ((1320:Int)<(s.length:Int))=true:=by simp;omega
  rw[this,if_pos h]
  rfl
 ·have:decide ((1320:Int)<(s.length:Int))=false:=by simp;omega
  rw[this,if_neg h]
  cases cZ s<;>rfl
theorem KU (x y:Tok):(decide (x.kind=y.kind)&&(decide (x.type=y.type)&&(decide (x.text=y.text)&&true)))=decide (x=y):=by
 cases x;cases y
 simp[Bool.decide_and]
theorem P6 {a b:List Tok}(hl:a.length=b.length)(h:a.length≤1000000): ∀(k n:Nat),n+k=a.length→Fg (ev E) (aA a) (aA b) (n:Int) μ=some (if a.drop n=b.drop n then ue μ else ud false μ):=by
 intro k
 induction k with
 |zero=>
  intro n hn
  refine aW ?_
  have e:(aA a).length=a.length:=by simp[aA]
  rw[Es,e,c6 (by omega),cond_false,List.drop_eq_nil_of_le (by omega),List.drop_eq_nil_of_le (by omega),if_pos rfl]
 |succ k ih=>
  intro n hn
  have h1:n<a.length:=by omega
  have h2:n<b.length:=by omega
  refine aW ?_
  have e:(aA a).length=a.length:=by simp[aA]
  have ga:bZ (aA a) (n:Int)=some a[n].cv:=by rw[ey];simp[aA,h1]
  have gb:bZ (aA b) (n:Int)=some b[n].cv:=by rw[ey];simp[aA,h2]
  rw[Es,e,cI h1,cond_true,ga,aa,bB,gb,aa,bB,bV (by omega),ih (n+1) (by omega),List.drop_eq_getElem_cons h1,List.drop_eq_getElem_cons h2]
  rw[KU]
  generalize a[n]=x,b[n]=y
  by_cases hab:x=y
  ·subst hab
   simp
  ·have:decide (x=y)=false:=by simp[hab]
   rw[this,Bool.not_false,cond_true,if_neg]
   intro h
   injection h with h
   exact hab h
theorem Q1 {a b:List Tok}(h:a.length≤1000000):(ev E).call 19 [LV.cv (CV.sl (aA a)),LV.cv (CV.sl (aA b))] μ=some (.ret (LV.bool (decide (a=b))) μ):=by
 refine aO ?_
 have ea:(aA a).length=a.length:=by simp[aA]
 have eb:(aA b).length=b.length:=by simp[aA]
 rw[Sq,ea,eb]
 by_cases hl:a.length=b.length
 ·have e1:decide ((a.length:Int)=(b.length:Int))=true:=by simp[hl]
  have:=P6 (μ:=μ) hl h a.length 0 (by omega)
  have e0:((0:Nat):Int)=0:=rfl
  rw[e0,List.drop_zero,List.drop_zero]at this
  have hG:M6 (ev E) (aA a) (aA b) μ=some (pb (decide (a=b)) μ):=by
   refine aZ ?_
   rw[OF,this,aa]
   by_cases hab:a=b
   ·rw[if_pos hab,GJ];simp[hab]
   ·rw[if_neg hab,GI];simp[hab]
  rw[e1,Bool.not_true,cond_false,hG,aa,Gk]
 ·have e1:decide ((a.length:Int)=(b.length:Int))=false:=by simp;omega
  have e2:decide (a=b)=false:=by simp;intro e;subst e;exact hl rfl
  rw[e1,e2];rfl
end
end Go.Abs
set_option linter.unusedVariables false
set_option linter.unusedSimpArgs false
set_option maxRecDepth 100000
namespace Go.Abs
open Go Go.Proofs
def stN (μ:Mu)(X:Int→Int→List UInt8→Int→Int→Mu→St):Except Int (Tok×Nat)→St
 | .ok q=>X q.1.kind q.1.type q.1.text (q.2:Int) 0 μ
 | .error e=>X 0 0 [] 0 e μ
def lr:Except Int (Tok×Nat)→CV
 | .ok q=> .agg [CV.int .i64 q.1.kind,CV.int .i64 q.1.type,CV.str q.1.text,CV.int .i64 (q.2:Int),CV.int .i64 0]
 | .error e=> .agg [CV.int .i64 0,CV.int .i64 0,CV.str [],CV.int .i64 0,CV.int .i64 e]
def before (whole:List UInt8):List UInt8:=bL (bh whole)
def after (part:List UInt8):List UInt8:=fM (bh part)
def dN (whole part:List UInt8)(kind exp:Int)(e:Nat):Except Int (Tok×Nat):=
 if 30<countR (before whole)+countR (after part)then .error 7
 else if kind=2 then .ok (⟨1,kind,before whole++[46]++after part++[68]++Lib.itoa exp⟩,e)
 else if exp≠0 then .ok (⟨1,kind,before whole++[46]++after part++[69]++Lib.itoa exp⟩,e)
 else .ok (⟨1,kind,before whole++[46]++after part⟩,e)
def cJ:List UInt8:=[50,49,52,55,52,56,51,54,52,55]
def lF (whole:List UInt8)(e:Nat):Except Int (Tok×Nat):=
 if 10<whole.length then .error 28
 else if(bL whole).length=10∧(Op.bytesLess (bL whole) cJ||decide (bL whole=cJ))=false then .error 28
 else .ok (⟨1,0,bL whole⟩,e)
def dK (s:List UInt8)(e:Nat):Int:=if atC false s (e+1)=45 then -((valD 0 (aP false s e):Nat):Int)else((valD 0 (aP false s e):Nat):Int)
def gu (s whole part:List UInt8)(point:Bool)(e:Nat):Except Int (Tok×Nat):=
 if(aL false s e).2.2.2 then(if 3<(aP false s e).length then .error 7 else dN whole part (if(aL false s e).1=68 then 2 else 1) (dK s e) (aL false s e).2.2.1)
 else if point then dN whole part 1 0 e else lF whole e
def ce:List (List UInt8):=bT++[eW,ee]
def kP (s:List UInt8)(n:Nat):Bool:=decide (0<digR s n)&&ce.any (bv s (n+digR s n))
def gv (s:List UInt8)(n:Nat):Except Int (Tok×Nat):=
 if !kP s n&&decide (s[n+digR s n]? =some 46)then
  gu s ((s.drop n).take (digR s n)) ((s.drop (n+digR s n+1)).take (digR s (n+digR s n+1))) true (n+digR s n+1+digR s (n+digR s n+1))
 else gu s ((s.drop n).take (digR s n)) [] false (n+digR s n)
section
variable {μ:Mu}{s:List UInt8}
theorem HD (l:List UInt8):(fM l).length≤l.length:=by
 unfold fM
 have:=nH l.reverse
 simpa using this
theorem FV {x:Int}(h0: -1000000000≤x)(h1:x≤1000000000):(Lib.itoa x).length≤21:=Lib.itoa_length_le x (by omega) (by omega)
theorem MR {e:Nat}{kind exp a b c d:Int}{t be af:List UInt8}(hb:be.length≤300000)(ha:af.length≤300000)(h0: -1000000000≤exp)(h1:exp≤1000000000):
  HV (ev E) (e:Int) kind exp be af a b t c d μ=some (k8 1 kind (if kind=2 then be++[46]++af++[68]++Lib.itoa exp else if exp≠0 then be++[46]++af++[69]++Lib.itoa exp else be++[46]++af) (e:Int) 0 μ):=by
 refine aZ ?_
 have hi:=FV h0 h1
 rw[Mo,bq (by simp;omega),az,bq (by simp;omega),az,Rb h0 h1]
 simp only[ad,aq,aa,am,ao,aj,ae,ak,az,cond_true,cond_false,Bool.not_true,Bool.not_false,av,au,ar]
 by_cases hk:kind=2
 ·have:decide (kind=2)=true:=by simp[hk]
  rw[this,cond_true,bq (by simp;omega),az,bq (by simp;omega),az,if_pos hk]
 ·have:decide (kind=2)=false:=by simp[hk]
  rw[this,cond_false,if_neg hk]
  by_cases he:exp=0
  ·have:decide (exp=0)=true:=by simp[he]
   rw[this,Bool.not_true,cond_false,if_neg (by simp[he])]
  ·have:decide (exp=0)=false:=by simp[he]
   rw[this,Bool.not_false,cond_true,if_pos he,bq (by simp;omega),az,bq (by simp;omega),az]
theorem Bp {n w e:Nat}{kind exp a b c d:Int}{t part:List UInt8}(hs:s.length≤200000)(hw:n+w≤s.length)(hp:part.length≤200000)(h0: -1000000000≤exp)(h1:exp≤1000000000):
  zm (ev E) s (n:Int) (w:Int) (e:Int) kind exp part a b t c d μ=some (stN μ k7 (dN ((s.drop n).take w) part kind exp e)):=by
 refine aZ ?_
 have e1:n+w-n=w:=by omega
 have hl:((s.drop n).take w).length≤200000:=by simp;omega
 have k1:=ir ((s.drop n).take w)
 have k2:=ir part
 have k3:(before ((s.drop n).take w)).length≤200001:=by have:=nH (bh ((s.drop n).take w));unfold before;omega
 have k4:(after part).length≤200001:=by have:=HD (bh part);unfold after;omega
 rw[Mn,gB (by omega),e7 (by omega) hw,aa,e1,NA]
 simp only[ad,aq,aa,am,ao,aj,ae,ak,az,cond_true,cond_false,Bool.not_true,Bool.not_false,av,au,ar]
 rw[Nz (by omega)]
 simp only[ad,aq,aa,am,ao,aj,ae,ak,az,cond_true,cond_false,Bool.not_true,Bool.not_false,av,au,ar]
 rw[NA]
 simp only[ad,aq,aa,am,ao,aj,ae,ak,az,cond_true,cond_false,Bool.not_true,Bool.not_false,av,au,ar]
 rw[PJ (by omega)]
 simp only[ad,aq,aa,am,ao,aj,ae,ak,az,cond_true,cond_false,Bool.not_true,Bool.not_false,av,au,ar]
 rw[JB]
 simp only[ad,aq,aa,am,ao,aj,ae,ak,az,cond_true,cond_false,Bool.not_true,Bool.not_false,av,au,ar]
 rw[JB]
 simp only[ad,aq,aa,am,ao,aj,ae,ak,az,cond_true,cond_false,Bool.not_true,Bool.not_false,av,au,ar]
 have hB:bL (bh ((s.drop n).take w))=before ((s.drop n).take w):=rfl
 have hA:fM (bh part)=after part:=rfl
 have c1:countR (before ((s.drop n).take w))≤200001:=by unfold countR;split<;>omega
 have c2:countR (after part)≤200001:=by unfold countR;split<;>omega
 rw[hB,hA,gB (by omega),MR (by omega) (by omega) h0 h1,aa,CI]
 unfold dN
 by_cases h30:30<countR (before ((s.drop n).take w))+countR (after part)
 ·have:decide ((30:Int)<((countR (before ((s.drop n).take w))+countR (after part):Nat):Int))=true:=by simp;omega
  rw[this,cond_true,if_pos h30]
  rfl
 ·have:decide ((30:Int)<((countR (before ((s.drop n).take w))+countR (after part):Nat):Int))=false:=by simp;omega
  rw[this,cond_false,if_neg h30]
  by_cases hk:kind=2
  ·rw[if_pos hk,if_pos hk];rfl
  ·rw[if_neg hk,if_neg hk]
   by_cases he:exp≠0
   ·rw[if_pos he,if_pos he];rfl
   ·rw[if_neg he,if_neg he];rfl
theorem MQ {n w e:Nat}{a b c d:Int}{t:List UInt8}(hs:s.length≤200000)(hw:n+w≤s.length)(h10:w≤10):
  HU (ev E) s (n:Int) (w:Int) (e:Int) a b t c d μ=some (stN μ kZ (lF ((s.drop n).take w) e)):=by
 refine aZ ?_
 have e1:n+w-n=w:=by omega
 have hl:((s.drop n).take w).length=w:=by simp;omega
 rw[Mm,gB (by omega),e7 (by omega) hw,aa,e1,Nz (by omega)]
 simp only[ad,aq,aa,am,ao,aj,ae,ak,az,cond_true,cond_false,Bool.not_true,Bool.not_false,av,au,ar]
 unfold lF
 rw[if_neg (by omega)]
 have hm:([50,49,52,55,52,56,51,54,52,55]:List UInt8)=cJ:=rfl
 rw[hm]
 by_cases hT:(bL ((s.drop n).take w)).length=10
 ·have:decide (((bL ((s.drop n).take w)).length:Int)=10)=true:=by simp;omega
  rw[this,cond_true]
  cases hB:(Op.bytesLess (bL ((s.drop n).take w)) cJ||decide (bL ((s.drop n).take w)=cJ))with
  |true=>rw[if_neg (by simp)];rfl
  |false=>rw[if_pos ⟨hT,rfl⟩];rfl
 ·have:decide (((bL ((s.drop n).take w)).length:Int)=10)=false:=by simp;omega
  rw[this,cond_false,if_neg (by simp[hT])]
  rfl
def mY (whole part:List UInt8)(point has:Bool)(kind exp:Int)(e:Nat):Except Int (Tok×Nat):=if point||has then dN whole part kind exp e else lF whole e
theorem MP {n w e p:Nat}{kind exp a b c d:Int}{t:List UInt8}{point has:Bool}(hs:s.length≤200000)(hw:n+w≤s.length)(hp:point=true→n+w+1+p≤s.length)(h0: -1000000000≤exp)(h1:exp≤1000000000):
  oc (ev E) s (n:Int) (w:Int) (e:Int) point (p:Int) kind exp has a b t c d μ=some (stN μ jf (mY ((s.drop n).take w) (if point then(s.drop (n+w+1)).take p else []) point has kind exp e)):=by
 refine aZ ?_
 have h38:(opt (u3 (ev E) s (n:Int) (w:Int) (e:Int) point (p:Int) kind exp a b t c d μ) (kS (ev E) H98 [] [(4,0)]))=some (stN μ jf (dN ((s.drop n).take w) (if point then(s.drop (n+w+1)).take p else []) kind exp e)):=by
  have:u3 (ev E) s (n:Int) (w:Int) (e:Int) point (p:Int) kind exp a b t c d μ=some (stN μ ng (dN ((s.drop n).take w) (if point then(s.drop (n+w+1)).take p else []) kind exp e)):=by
   refine aZ ?_
   have hfin: ∀q,kS (ev E) H98 [] [(4,0)] (stN μ k7 q)=some (stN μ ng q):=by
    intro q
    cases q with
    |ok q=>exact tr _ _ _ _ _ _ _
    |error e=>exact tr _ _ _ _ _ _ _
   cases point with
   |true=>
    have hp':=hp rfl
    have e1:n+w+1+p-(n+w+1)=p:=by omega
    rw[AK,cond_true,gB (by omega),bV (by omega),gB (by omega),e7 (by omega) hp',aa,e1,Bp hs hw (by simp;omega) h0 h1,aa,hfin]
    rfl
   |false=>
    rw[AK,cond_false,Bp hs hw (by simp) h0 h1,aa,hfin]
    rfl
  rw[this,aa]
  cases dN ((s.drop n).take w) (if point then(s.drop (n+w+1)).take p else []) kind exp e with
  |ok q=>exact tq _ _ _ _ _ _ _
  |error e=>exact tq _ _ _ _ _ _ _
 rw[Ml]
 unfold mY
 cases point with
 |true=>rw[Bool.not_true,cond_false,h38];rfl
 |false=>
  rw[Bool.not_false,cond_true]
  cases has with
  |true=>rw[Bool.not_true,cond_false,h38];rfl
  |false=>
   rw[Bool.not_false,cond_true]
   have hl:((s.drop n).take w).length=w:=by simp;omega
   by_cases h10:10<w
   ·have:decide ((10:Int)<(w:Int))=true:=by simp;omega
    rw[this,cond_true]
    simp only[Bool.or_self,Bool.false_eq_true,if_false,lF,hl,if_pos h10]
    rfl
   ·have:decide ((10:Int)<(w:Int))=false:=by simp;omega
    rw[this,cond_false,MQ hs hw (by omega),aa]
    simp only[Bool.or_self,Bool.false_eq_true,if_false]
    cases lF ((s.drop n).take w) e with
    |ok q=>exact tn _ _ _ _ _ _ _
    |error e=>exact tn _ _ _ _ _ _ _
theorem wX: ∀i:Fin 256,((UInt8.ofNat i.val &&& 223=69)↔(UInt8.ofNat i.val=69∨UInt8.ofNat i.val=101))∧((UInt8.ofNat i.val &&& 223=68)↔(UInt8.ofNat i.val=68∨UInt8.ofNat i.val=100)):=by decide
theorem lT (c:UInt8):((c &&& 223=69)↔(c=69∨c=101))∧((c &&& 223=68)↔(c=68∨c=100)):=by
 have:=wX ⟨c.toNat,c.toNat_lt⟩
 simpa using this
theorem EX {l:List UInt8}(h: ∀b∈l,ah b=true)(hl:l.length≤9):valD 0 l<1000000000:=by
 have:=(dH l 0 h).2
 have h2:10^l.length≤10^9:=Nat.pow_le_pow_right (by omega) hl
 omega
theorem MO {n w e p k:Nat}{a b c d:Int}{t:List UInt8}{point:Bool}(hs:s.length≤200000)(hw:n+w≤s.length)(he:e<s.length)(hk:k≤s.length)(hk1:e+1≤k):
  da (ev E) s (n : Int) (w : Int) (e : Int) point (p : Int) 1 0 false (k : Int) a b t c d μ = some (
   if digR s k=0 then kX s (n:Int) (w:Int) (e:Int) point (p:Int) 1 0 false a b t c d μ
   else if 3<digR s k then qO 0 0 [] 0 7 μ
   else kX s (n:Int) (w:Int) ((k+digR s k:Nat):Int) point (p:Int) (if s[e]=68∨s[e]=100 then 2 else 1) (if s[k-1]? =some 45 then -((valD 0 ((s.drop k).take (digR s k)):Nat):Int)else((valD 0 ((s.drop k).take (digR s k)):Nat):Int)) true a b t c d μ):=by
 have e68: ∀c:UInt8,decide ((c.toNat:Int)=68)=decide (c=68):=fun c=>co (k:=68) (by omega)
 have e100: ∀c:UInt8,decide ((c.toNat:Int)=100)=decide (c=100):=fun c=>co (k:=100) (by omega)
 have e45: ∀c:UInt8,decide ((c.toNat:Int)=45)=decide (c=45):=fun c=>co (k:=45) (by omega)
 have hm:=oq hk
 refine aZ ?_
 rw[Mi,yU hs hk]
 simp only[ad,aq,aa,am,ao,aj,ae,ak,az,cond_true,cond_false,Bool.not_true,Bool.not_false,av,au,ar]
 by_cases h0:digR s k=0
 ·have:decide ((0:Int)<((digR s k:Nat):Int))=false:=by simp;omega
  rw[this,cond_false,if_pos h0]
 ·have:decide ((0:Int)<((digR s k:Nat):Int))=true:=by simp;omega
  rw[this,cond_true,if_neg h0]
  by_cases h3:3<digR s k
  ·have:decide ((3:Int)<((digR s k:Nat):Int))=true:=by simp;omega
   rw[this,cond_true,if_pos h3]
  ·have:decide ((3:Int)<((digR s k:Nat):Int))=false:=by simp;omega
   rw[this,cond_false,if_neg h3]
   have hk2:k-1<s.length:=by omega
   have hdig: ∀b∈(s.drop k).take (digR s k),ah b=true:=by
    intro b hb
    have:(s.drop k).take (digR s k)=(s.drop k).takeWhile ah:=by
     unfold digR
     exact(List.prefix_iff_eq_take.1 (List.takeWhile_prefix _)).symm
    rw[this]at hb
    exact dy _ b hb
   have hlen:((s.drop k).take (digR s k)).length≤9:=by simp;omega
   have hv:=EX hdig hlen
   have h28: ∀(x:Int),zl (ev E) s (n:Int) (w:Int) (e:Int) point (p:Int) 1 x true (k:Int) (digR s k:Nat) a b t c d μ=some (kY s (n:Int) (w:Int) ((k+digR s k:Nat):Int) point (p:Int) (if s[e]=68∨s[e]=100 then 2 else 1) x true a b t c d μ):=by
    intro x
    refine aZ ?_
    rw[Mk,b9 he,aa,aa,e68,e100,gB (by omega)]
    by_cases h1:s[e]=68
    ·have:decide (s[e]=68)=true:=by simp[h1]
     rw[this,cond_true,if_pos (Or.inl h1)]
    ·have:decide (s[e]=68)=false:=by simp[h1]
     rw[this,cond_false]
     by_cases h2:s[e]=100
     ·have:decide (s[e]=100)=true:=by simp[h2]
      rw[this,cond_true,if_pos (Or.inr h2)]
     ·have:decide (s[e]=100)=false:=by simp[h2]
      rw[this,cond_false,if_neg (by simp[h1,h2])]
   have h24:HT (ev E) s (n:Int) (w:Int) (e:Int) point (p:Int) 1 (k:Int) (digR s k:Nat) a b t c d μ=some (qP s (n:Int) (w:Int) ((k+digR s k:Nat):Int) point (p:Int) (if s[e]=68∨s[e]=100 then 2 else 1) (if s[k-1]? =some 45 then -((valD 0 ((s.drop k).take (digR s k)):Nat):Int)else((valD 0 ((s.drop k).take (digR s k)):Nat):Int)) true a b t c d μ):=by
    refine aZ ?_
    have e1:k+digR s k-k=digR s k:=by omega
    rw[Mj,gB (by omega),e7 (by omega) hm,aa,e1,PI hlen hdig]
    simp only[ad,aq,aa,am,ao,aj,ae,ak,az,cond_true,cond_false,Bool.not_true,Bool.not_false,av,au,ar]
    rw[zb (by omega) (by omega),b9 hk2,aa,e45,List.getElem?_eq_getElem hk2]
    by_cases h45:s[k-1]=45
    ·have:decide (s[k-1]=45)=true:=by simp[h45]
     have w1:IntKind.wrap .i64 (0-((valD 0 ((s.drop k).take (digR s k)):Nat):Int))= -((valD 0 ((s.drop k).take (digR s k)):Nat):Int):=by rw[cp (by omega) (by omega)];omega
     rw[this,cond_true,w1,h28,aa,tk,if_pos (show (some s[k-1]:Option UInt8)=some 45 by rw[h45])]
    ·have:decide (s[k-1]=45)=false:=by simp[h45]
     rw[this,cond_false,h28,aa,tk,if_neg (show ¬(some s[k-1]:Option UInt8)=some 45 by simp[h45])]
   rw[h24,aa,CH]
theorem Bo {n w e p:Nat}{a b c d:Int}{t:List UInt8}{word point:Bool}(hs:s.length≤200000)(hw:n+w≤s.length)(he:e≤s.length)(hp:point=true→n+w+1+p≤s.length)(hword:word=true→s[e]? =some 46):
  oa (ev E) s (n:Int) (w:Int) (e:Int) word point (p:Int) a b t c d μ=some (stN μ fQ (gu s ((s.drop n).take w) (if point then(s.drop (n+w+1)).take p else []) point e)):=by
 have e69: ∀c:UInt8,decide ((c.toNat:Int)=69)=decide (c=69):=fun c=>co (k:=69) (by omega)
 have e101: ∀c:UInt8,decide ((c.toNat:Int)=101)=decide (c=101):=fun c=>co (k:=101) (by omega)
 have e68: ∀c:UInt8,decide ((c.toNat:Int)=68)=decide (c=68):=fun c=>co (k:=68) (by omega)
 have e100: ∀c:UInt8,decide ((c.toNat:Int)=100)=decide (c=100):=fun c=>co (k:=100) (by omega)
 have e43: ∀c:UInt8,decide ((c.toNat:Int)=43)=decide (c=43):=fun c=>co (k:=43) (by omega)
 have e45: ∀c:UInt8,decide ((c.toNat:Int)=45)=decide (c=45):=fun c=>co (k:=45) (by omega)
 obtain⟨whole,hwhole⟩: ∃x,x=(s.drop n).take w:=⟨_,rfl⟩
 obtain⟨part,hpart⟩: ∃x,x=(if point then(s.drop (n+w+1)).take p else []):=⟨_,rfl⟩
 have h31: ∀{kind exp:Int} {has:Bool} {e:Nat},-1000000000≤exp→exp≤1000000000→(opt (oc (ev E) s (n:Int) (w:Int) (e:Int) point (p:Int) kind exp has a b t c d μ) (kS (ev E) H98 [] [(4,0)]))=some (stN μ fQ (mY whole part point has kind exp e)):=by
  intro kind exp has e h0 h1
  rw[MP hs hw hp h0 h1,aa,hwhole,hpart]
  cases mY ((s.drop n).take w) (if point then(s.drop (n+w+1)).take p else []) point has kind exp e with
  |ok q=>exact tl _ _ _ _ _ _ _
  |error e=>exact tl _ _ _ _ _ _ _
 have hno: ∀{kind exp:Int},mY whole part point false 1 0 e=if point then dN whole part 1 0 e else lF whole e:=by
  intro kind exp
  unfold mY
  rw[Bool.or_false]
 rw[←hwhole,←hpart]
 refine aZ ?_
 rw[Mh,h31 (by omega) (by omega),hno (kind:=0) (exp:=0)]
 unfold gu
 cases word with
 |true=>
  have hc:atC false s e=46:=by rw[b7,hword rfl];rfl
  have hx:(aL false s e).2.2.2=false:=by
   have:bN false s e=14:=by unfold bN;rw[hc];rfl
   unfold aL
   rw[this];rfl
  rw[Bool.not_true,cond_false,hx]
  rfl
 |false=>
  rw[Bool.not_false,cond_true]
  by_cases hlt:e<s.length
  ·have hg:s[e]? =some s[e]:=List.getElem?_eq_getElem hlt
   have hc:atC false s e=s[e]:=by rw[b7,hg];rfl
   have hE:atE false s e=e+1:=by rw[cE,if_pos hlt]
   rw[cI hlt,cond_true,b9 hlt]
   simp only[aa,e69,e101,e68,e100]
   by_cases hlet:s[e]=69∨s[e]=101∨s[e]=68∨s[e]=100
   ·
    have hL:bN false s e=69∨bN false s e=68:=by
     unfold bN
     rw[hc]
     have:=lT s[e]
     rcases hlet with h|h|h|h
     ·exact Or.inl (this.1.2 (Or.inl h))
     ·exact Or.inl (this.1.2 (Or.inr h))
     ·exact Or.inr (this.2.2 (Or.inl h))
     ·exact Or.inr (this.2.2 (Or.inr h))
    have hC2:atC false s (e+1)=(s[e+1]?).getD 0:=rfl
    have hst:expStart false s e≤s.length:=by
     unfold expStart
     rw[hE,cE]
     split<;>(try split)<;>omega
    have hst1:e+1≤expStart false s e:=by
     unfold expStart
     rw[hE,cE]
     split<;>(try split)<;>omega
    have hdg:aP false s e=(s.drop (expStart false s e)).take (digR s (expStart false s e)):=(j9).1
    have hend:runE false ah s (expStart false s e)=expStart false s e+digR s (expStart false s e):=(j9).2
    have hok:(aL false s e)=(bN false s e,bX false s e++aP false s e,runE false ah s (expStart false s e),!decide (aP false s e=[])):=by unfold aL;rw[if_pos hL]
    have hdl:(aP false s e).length=digR s (expStart false s e):=by
     rw[hdg]
     have:=oq hst
     simp;omega
    have h20:(opt (da (ev E) s (n:Int) (w:Int) (e:Int) point (p:Int) 1 0 false (expStart false s e:Nat) a b t c d μ) (kS (ev E) H98 [.seq (cA 98 [1,1,1,1,1,1,1,1,1,1])] [(4,0)]))=
      some (stN μ fQ (if(aL false s e).2.2.2 then(if 3<(aP false s e).length then .error 7 else dN whole part (if(aL false s e).1=68 then 2 else 1) (dK s e) (aL false s e).2.2.1)else if point then dN whole part 1 0 e else lF whole e)):=by
     rw[MO hs hw hlt hst hst1,aa,hok,hdl,hend]
     simp only
     by_cases h0:digR s (expStart false s e)=0
     ·have:aP false s e=[]:=List.eq_nil_of_length_eq_zero (by omega)
      rw[if_pos h0,this,tj,h31 (by omega) (by omega),hno (kind:=0) (exp:=0)]
      rfl
     ·have:aP false s e≠[]:=by intro h;rw[h]at hdl;simp at hdl;omega
      have h1:(!decide (aP false s e=[]))=true:=by simp[this]
      rw[if_neg h0,h1,if_pos rfl]
      by_cases h3:3<digR s (expStart false s e)
      ·rw[if_pos h3,if_pos h3,CG]
       rfl
      ·have hlen:(aP false s e).length≤9:=by omega
       have hdig: ∀b∈aP false s e,ah b=true:=g7
       have hv:=EX hdig hlen
       rw[hdg]at hv
       have hsign:(if s[expStart false s e-1]? =some 45 then -((valD 0 ((s.drop (expStart false s e)).take (digR s (expStart false s e))):Nat):Int)else((valD 0 ((s.drop (expStart false s e)).take (digR s (expStart false s e))):Nat):Int))=dK s e:=by
        unfold dK
        rw[hdg]
        have hiff:s[expStart false s e-1]? =some 45↔atC false s (e+1)=45:=by
         have hstD:expStart false s e=if(s[e+1]?).getD 0=43∨(s[e+1]?).getD 0=45 then atE false s (e+1)else e+1:=by unfold expStart;rw[hE,hC2]
         rw[hC2,hstD]
         by_cases hsg:(s[e+1]?).getD 0=43∨(s[e+1]?).getD 0=45
         ·have h2:e+1<s.length:=by
           rcases Nat.lt_or_ge (e+1) s.length with h|h
           ·exact h
           ·rw[List.getElem?_eq_none h]at hsg
            rcases hsg with h|h<;>simp at h
          rw[if_pos hsg,cE,if_pos h2]
          have:e+1+1-1=e+1:=by omega
          rw[this,List.getElem?_eq_getElem h2]
          simp
         ·rw[if_neg hsg]
          have:e+1-1=e:=by omega
          rw[this,hg]
          constructor
          ·intro h
           injection h with h
           rw[h]at hlet
           exact absurd hlet (by decide)
          ·intro h
           exact absurd (Or.inr h) hsg
        by_cases h:s[expStart false s e-1]? =some 45
        ·rw[if_pos h,if_pos (hiff.1 h)]
        ·rw[if_neg h,if_neg (fun hh=>h (hiff.2 hh))]
       have hkind:(if s[e]=68∨s[e]=100 then(2:Int)else 1)=if bN false s e=68 then 2 else 1:=by
        have hL2:bN false s e=s[e] &&& 223:=by unfold bN;rw[hc]
        rw[hL2]
        have:=(lT s[e]).2
        by_cases h:s[e]=68∨s[e]=100
        ·rw[if_pos h,if_pos (this.2 h)]
        ·rw[if_neg h,if_neg (fun hh=>h (this.1 hh))]
       have hb: -1000000000≤dK s e∧dK s e≤1000000000:=by
        unfold dK
        rw[hdg]
        split<;>omega
       rw[if_neg h3,if_neg h3,hsign,hkind,tj,h31 hb.1 hb.2]
       unfold mY
       rw[Bool.or_true,if_pos rfl]
    have hA : cond (decide (IntKind.wrap .i64 ((e : Int) + 1) < (s.length : Int))) (
      opt (bo s (IntKind.wrap .i64 ((e:Int)+1))) fun y25=>
      cond (decide (y25 = 43)) (
      opt (da (ev E) s (n:Int) (w:Int) (e:Int) point (p:Int) 1 0 false (IntKind.wrap .i64 (IntKind.wrap .i64 ((e:Int)+1)+1)) a b t c d μ) (kS (ev E) H98 [.seq (cA 98 [1,1,1,1,1,1,1,1,1,1])] [(4,0)])) (
      opt (bo s (IntKind.wrap .i64 ((e:Int)+1))) fun y99=>
      cond (decide (y99 = 45)) (
      opt (da (ev E) s (n:Int) (w:Int) (e:Int) point (p:Int) 1 0 false (IntKind.wrap .i64 (IntKind.wrap .i64 ((e:Int)+1)+1)) a b t c d μ) (kS (ev E) H98 [.seq (cA 98 [1,1,1,1,1,1,1,1,1,1])] [(4,0)])) (
      opt (da (ev E) s (n:Int) (w:Int) (e:Int) point (p:Int) 1 0 false (IntKind.wrap .i64 ((e:Int)+1)) a b t c d μ) (kS (ev E) H98 [.seq (cA 98 [1,1,1,1,1,1,1,1,1,1])] [(4,0)])))) (
      opt (da (ev E) s (n:Int) (w:Int) (e:Int) point (p:Int) 1 0 false (IntKind.wrap .i64 ((e:Int)+1)) a b t c d μ) (kS (ev E) H98 [.seq (cA 98 [1,1,1,1,1,1,1,1,1,1])] [(4,0)]))=
      some (stN μ fQ (if(aL false s e).2.2.2 then(if 3<(aP false s e).length then .error 7 else dN whole part (if(aL false s e).1=68 then 2 else 1) (dK s e) (aL false s e).2.2.1)else if point then dN whole part 1 0 e else lF whole e)):=by
     have hstD:expStart false s e=if(s[e+1]?).getD 0=43∨(s[e+1]?).getD 0=45 then atE false s (e+1)else e+1:=by unfold expStart;rw[hE,hC2]
     rw[bV (by omega),bV (by omega)]
     by_cases h2:e+1<s.length
     ·have hg2:(s[e+1]?).getD 0=s[e+1]:=by rw[List.getElem?_eq_getElem h2];rfl
      rw[hg2,cE,if_pos h2]at hstD
      rw[cI h2,cond_true,b9 h2]
      simp only[aa]
      by_cases h43:s[e+1]=43
      ·have:decide (s[e+1]=43)=true:=by simp[h43]
       rw[if_pos (Or.inl h43)]at hstD
       rw[hstD]at h20
       rw[this,cond_true,h20]
      ·have:decide (s[e+1]=43)=false:=by simp[h43]
       rw[this,cond_false]
       by_cases h45:s[e+1]=45
       ·have:decide (s[e+1]=45)=true:=by simp[h45]
        rw[if_pos (Or.inr h45)]at hstD
        rw[hstD]at h20
        rw[this,cond_true,h20]
       ·have:decide (s[e+1]=45)=false:=by simp[h45]
        rw[if_neg (by simp[h43,h45])]at hstD
        rw[hstD]at h20
        rw[this,cond_false,h20]
     ·have hg2:(s[e+1]?).getD 0=0:=by rw[List.getElem?_eq_none (by omega)];rfl
      rw[hg2,if_neg (by decide)]at hstD
      rw[hstD]at h20
      rw[c6 (by omega),cond_false,h20]
    simp only[e43,e45]
    rw[hA]
    rcases hlet with h|h|h|h
    ·rw[h];rfl
    ·rw[h];rfl
    ·rw[h];rfl
    ·rw[h];rfl
   ·have hn1:s[e]≠69:=fun h=>hlet (Or.inl h)
    have hn2:s[e]≠101:=fun h=>hlet (Or.inr (Or.inl h))
    have hn3:s[e]≠68:=fun h=>hlet (Or.inr (Or.inr (Or.inl h)))
    have hn4:s[e]≠100:=fun h=>hlet (Or.inr (Or.inr (Or.inr h)))
    have d1:decide (s[e]=69)=false:=by simp[hn1]
    have d2:decide (s[e]=101)=false:=by simp[hn2]
    have d3:decide (s[e]=68)=false:=by simp[hn3]
    have d4:decide (s[e]=100)=false:=by simp[hn4]
    have hx:(aL false s e).2.2.2=false:=by
     have hL2:bN false s e=s[e] &&& 223:=by unfold bN;rw[hc]
     unfold aL
     rw[hL2,if_neg]
     intro h
     have:=lT s[e]
     rcases h with h|h
     ·rcases this.1.1 h with h|h
      ·exact hn1 h
      ·exact hn2 h
     ·rcases this.2.1 h with h|h
      ·exact hn3 h
      ·exact hn4 h
    rw[d1,d2,d3,d4,hx]
    rfl
  ·have hx:(aL false s e).2.2.2=false:=by
    have hc:atC false s e=0:=by rw[b7,List.getElem?_eq_none (by omega)];rfl
    have:bN false s e=0:=by unfold bN;rw[hc];rfl
    unfold aL
    rw[this];rfl
   rw[c6 (by omega),cond_false,hx]
   rfl
theorem FZ:(ev E).call 55 [] μ=some (.ret (LV.osl (bw bT)) μ):=aO (by rw[SG];rfl)
theorem HF: ∀w∈ce,w.length≤200000:=by decide
theorem Qk {n w i:Nat}{a b c d:Int}{t:List UInt8}(hs:s.length≤200000)(hi:i≤s.length): ∀(k j:Nat) (word:Bool),j+k=ce.length→
  u5 (ev E) s (n:Int) (w:Int) (i:Int) word (bw ce) (ce.length:Int) (j:Int) a b t c d μ=some (uz s (n:Int) (w:Int) (i:Int) (word||(decide (0<w)&&(ce.drop j).any (bv s i))) a b t c d μ):=by
 intro k
 induction k with
 |zero=>
  intro j word hj
  refine aW ?_
  rw[EG,c6 (by omega),cond_false,List.drop_eq_nil_of_le (by omega)]
  simp
 |succ k ih=>
  intro j word hj
  have hlt:j<ce.length:=by omega
  have hj2:ce.length≤13:=by decide
  have hg:bZ (bw ce) (j:Int)=some (CV.str ce[j]):=by rw[ey];simp[bw,hlt]
  refine aW ?_
  rw[EG,cI hlt,cond_true,hg,aa,gP,aa,bV (by omega),List.drop_eq_getElem_cons hlt,List.any_cons]
  cases word with
  |true=>rw[cond_true,ih (j+1) true (by omega)];rfl
  |false=>
   rw[cond_false]
   by_cases hw:0<w
   ·have:decide ((0:Int)<(w:Int))=true:=by simp;omega
    rw[this,cond_true,pO hs hi (HF _ (List.getElem_mem hlt))]
    simp only[ad,aq,aa,am,ao,aj,ae,ak,az,cond_true,cond_false,Bool.not_true,Bool.not_false,av,au,ar]
    rw[ih (j+1) _ (by omega)]
    have:decide (0<w)=true:=by simp[hw]
    rw[this]
    simp
   ·have:decide ((0:Int)<(w:Int))=false:=by simp;omega
    have h2:decide (0<w)=false:=by simp;omega
    rw[this,cond_false,ih (j+1) false (by omega),h2]
    rfl
theorem gx: ∀w∈ce,Jw w:=by
 intro w hw
 simp only[ce,bT,eW,ee,List.cons_append,List.nil_append,List.mem_cons,List.not_mem_nil,or_false]at hw
 rcases hw with rfl|rfl|rfl|rfl|rfl|rfl|rfl|rfl|rfl|rfl|rfl|rfl|rfl
 ·exact⟨[76,84],rfl,by decide⟩
 ·exact⟨[76,69],rfl,by decide⟩
 ·exact⟨[69,81],rfl,by decide⟩
 ·exact⟨[78,69],rfl,by decide⟩
 ·exact⟨[71,69],rfl,by decide⟩
 ·exact⟨[71,84],rfl,by decide⟩
 ·exact⟨[78,79,84],rfl,by decide⟩
 ·exact⟨[65,78,68],rfl,by decide⟩
 ·exact⟨[79,82],rfl,by decide⟩
 ·exact⟨[69,81,86],rfl,by decide⟩
 ·exact⟨[78,69,81,86],rfl,by decide⟩
 ·exact⟨[84,82,85,69],rfl,by decide⟩
 ·exact⟨[70,65,76,83,69],rfl,by decide⟩
theorem NS {n:Nat}(h:ce.any (bv s n)=true):s[n]? =some 46:=by
 rw[List.any_eq_true]at h
 obtain⟨w,hw,hb⟩:=h
 have:=(eZ (gx w hw) hb).1
 rw[b7]at this
 cases hg:s[n]? with
 |none=>rw[hg]at this;simp at this
 |some c=>rw[hg]at this;simp at this;rw[this]
theorem Rl (hs:s.length≤200000){n:Nat}(hn:n≤s.length):(ev E).call 98 [LV.str s,LV.int .i64 (n:Int)] μ=some (.ret (.cv (lr (gv s n))) μ):=by
 have e46: ∀c:UInt8,decide ((c.toNat:Int)=46)=decide (c=46):=fun c=>co (k:=46) (by omega)
 have hw:=oq hn
 have hap:gE 1 (bw bT) [CV.str ([46,84,82,85,69,46]:List UInt8),CV.str ([46,70,65,76,83,69,46]:List UInt8)]=true:=by decide
 have hwr:bw bT++[CV.str ([46,84,82,85,69,46]:List UInt8),CV.str ([46,70,65,76,83,69,46]:List UInt8)]=bw ce:=rfl
 have hwl:(bw ce).length=ce.length:=by simp[bw]
 refine aO ?_
 rw[SX,yU hs hn]
 simp only[ad,aq,aa,am,ao,aj,ae,ak,az,cond_true,cond_false,Bool.not_true,Bool.not_false,av,au,ar]
 rw[FZ]
 simp only[ad,aq,aa,am,ao,aj,ae,ak,az,cond_true,cond_false,Bool.not_true,Bool.not_false,av,au,ar]
 have hl:=Qk (μ:=μ) (n:=n) (w:=digR s n) (i:=n+digR s n) (a:=0) (b:=0) (c:=0) (d:=0) (t:=[]) hs hw ce.length 0 false (by omega)
 have e0:((0:Nat):Int)=0:=rfl
 rw[e0,List.drop_zero,Bool.false_or]at hl
 rw[hap,az,hwr,hwl,gB (by omega),hl,aa,He]
 have hW:(decide (0<digR s n)&&ce.any (bv s (n+digR s n)))=kP s n:=rfl
 rw[hW]
 have hfin: ∀q:Except Int (Tok×Nat),kB (ev E) 98 H98 [] (stN μ fQ q)=some (.ret (.cv (lr q)) μ):=by
  intro q
  cases q with
  |ok q=>exact ti _ _ _ _ _ _ _
  |error e=>exact ti _ _ _ _ _ _ _
 have hword: ∀{x:Bool},kP s n=x→x=true→s[n+digR s n]? =some 46:=by
  intro x h1 h2
  rw[h2]at h1
  unfold kP at h1
  rw[Bool.and_eq_true]at h1
  exact NS h1.2
 have hno: ∀{x:Bool},kP s n=x→(opt (oa (ev E) s (n:Int) (digR s n:Nat) ((n+digR s n:Nat):Int) x false 0 0 0 [] 0 0 μ) (kB (ev E) 98 H98 []))=some (.ret (.cv (lr (gu s ((s.drop n).take (digR s n)) [] false (n+digR s n)))) μ):=by
  intro x hx
  have:=Bo (μ:=μ) (n:=n) (w:=digR s n) (e:=n+digR s n) (p:=0) (a:=0) (b:=0) (c:=0) (d:=0) (t:=[]) (word:=x) (point:=false) hs hw hw (by intro h;cases h) (hword hx)
  rw[e0]at this
  rw[this,aa,hfin]
  rfl
 unfold gv
 cases hx:kP s n with
 |true=>rw[Bool.not_true,cond_false,hno hx];rfl
 |false=>
  rw[Bool.not_false,cond_true]
  by_cases hlt:n+digR s n<s.length
  ·rw[cI hlt,cond_true,b9 hlt]
   simp only[aa,e46]
   rw[List.getElem?_eq_getElem hlt]
   by_cases h46:s[n+digR s n]=46
   ·have:decide (s[n+digR s n]=46)=true:=by simp[h46]
    have hp:=oq (s:=s) (n:=n+digR s n+1) hlt
    rw[this,cond_true,bV (by omega),yU hs hlt]
    simp only[ad,aq,aa,am,ao,aj,ae,ak,az,cond_true,cond_false,Bool.not_true,Bool.not_false,av,au,ar]
    rw[gB (n:=n+digR s n+1) (m:=digR s (n+digR s n+1)) (by omega),Bo hs hw hp (fun _=>hp) (by intro h;cases h),aa,hfin]
    have h2:(true&&decide ((some s[n+digR s n]:Option UInt8)=some 46))=true:=by simp[h46]
    rw[h2,if_pos rfl]
    rfl
   ·have:decide (s[n+digR s n]=46)=false:=by simp[h46]
    have h2:(true&&decide ((some s[n+digR s n]:Option UInt8)=some 46))=false:=by simp[h46]
    rw[this,cond_false,hno hx,h2]
    rfl
  ·have h2:(true&&decide (s[n+digR s n]? =some 46))=false:=by rw[List.getElem?_eq_none (by omega)];rfl
   rw[c6 (by omega),cond_false,hno hx,h2]
   rfl
end
end Go.Abs
set_option linter.unusedVariables false
set_option linter.unusedSimpArgs false
set_option maxRecDepth 100000
namespace Go.Abs
open Go Go.Proofs
section
variable {s:List UInt8}{n:Nat}
theorem gy:ce=bT++[eW,ee]:=rfl
theorem Ik (h:atC false s n=46):ce.any (bv s n)=(bg false s n).2.2:=by
 have hd:(bg false s n).2.2=dk false s n:=by unfold bg;rw[if_pos h]
 rw[hd]
 apply Bool.eq_iff_iff.2
 constructor
 ·intro ha
  rw[List.any_eq_true]at ha
  obtain⟨w,hw,hb⟩:=ha
  obtain⟨_,h2,h3,_⟩:=eZ (gx w hw) hb
  unfold dk
  rw[h2,h3]
  rw[gy,List.mem_append]at hw
  rcases hw with hw|hw
  ·have:bT.contains w=true:=List.contains_iff_mem.2 hw
   rw[this];rfl
  ·simp only[List.mem_cons,List.not_mem_nil,or_false]at hw
   rcases hw with rfl|rfl
   ·simp
   ·simp
 ·intro ha
  unfold dk at ha
  simp only[Bool.and_eq_true,Bool.or_eq_true,decide_eq_true_eq]at ha
  obtain⟨h3,h4⟩:=ha
  have hm:cq false s n∈ce:=by
   rw[gy,List.mem_append]
   rcases h4 with(h4|h4)|h4
   ·exact Or.inl (List.contains_iff_mem.1 h4)
   ·rw[h4];exact Or.inr (by simp)
   ·rw[h4];exact Or.inr (by simp)
  rw[List.any_eq_true]
  exact⟨_,hm,yy h rfl h3⟩
theorem qc: ∀(l:List UInt8),l≠[]→bL l=bh (l.dropWhile (· == 48))
 |[],h=>absurd rfl h
 |[c],_=>by
  unfold bL bh
  by_cases hc:c=48
  ·simp[hc]
  ·simp[hc]
 |c::d::r,_=>by
  unfold bL
  by_cases hc:c=48
  ·have:(c::d::r).dropWhile (· ==(48:UInt8))=(d::r).dropWhile (· == 48):=by
    rw[List.dropWhile_cons,hc];rfl
   rw[if_pos hc,qc (d::r) (by simp),this]
  ·rw[if_neg hc,List.dropWhile_cons]
   simp[hc,bh]
theorem ra (l:List UInt8):before l=bh (dn l):=by
 unfold before dn Lib.trimLeftB
 by_cases h:l=[]
 ·subst h;rfl
 ·have:bh l=l:=by unfold bh;rw[if_neg h]
  rw[this]
  exact qc l h
theorem Hl (l:List UInt8):(bh l).reverse=bh l.reverse:=by
 unfold bh
 by_cases h:l=[]
 ·subst h;rfl
 ·rw[if_neg h,if_neg (by simpa using h)]
theorem uA (l:List UInt8):after l=bh (bQ l):=by
 unfold after bQ Lib.trimRightB fM
 by_cases h:l=[]
 ·subst h;rfl
 ·have:bh l=l:=by unfold bh;rw[if_neg h]
  rw[this,qc l.reverse (by simpa using h),Hl]
theorem pD (l:List UInt8):countR (bh (dn l))=(dn l).length:=by
 unfold countR bh
 by_cases h:dn l=[]
 ·rw[if_pos h,if_pos rfl,h];rfl
 ·rw[if_neg h,if_neg]
  intro h2
  unfold dn Lib.trimLeftB at h2
  have:=List.head_dropWhile_not (· ==(48:UInt8)) (l:=l) (by rw[h2];simp)
  simp only[h2]at this
  simp at this
theorem nO (l:List UInt8):countR (bh (bQ l))=(bQ l).length:=by
 unfold countR bh
 by_cases h:bQ l=[]
 ·rw[if_pos h,if_pos rfl,h];rfl
 ·rw[if_neg h,if_neg]
  intro h2
  unfold bQ Lib.trimRightB at h2
  have h3:l.reverse.dropWhile (· ==(48:UInt8))=[48]:=by
   have:=congrArg List.reverse h2
   simpa using this
  have:=List.head_dropWhile_not (· ==(48:UInt8)) (l:=l.reverse) (by rw[h3];simp)
  simp only[h3]at this
  simp at this
theorem mO: ∀(a b:List UInt8),a.length=b.length→(∀x∈a,ah x=true)→(∀x∈b,ah x=true)→Op.bytesLess a b=true→valD 0 a<valD 0 b
 |[],[],_,_,_,h=>by simp[Op.bytesLess]at h
 |[],_::_,hl,_,_,_=>by simp at hl
 |_::_,[],hl,_,_,_=>by simp at hl
 |x::a,y::b,hl,ha,hb,h=>by
  simp only[List.length_cons,Nat.add_right_cancel_iff]at hl
  have hx:=cm.1 (ha x List.mem_cons_self)
  have hy:=cm.1 (hb y List.mem_cons_self)
  have ha': ∀x∈a,ah x=true:=fun z hz=>ha z (List.mem_cons_of_mem _ hz)
  have hb': ∀x∈b,ah x=true:=fun z hz=>hb z (List.mem_cons_of_mem _ hz)
  rw[dp,dp,oU a,oU b,hl]
  have h1:=(dH a 0 ha').2
  rw[hl]at h1
  simp only[Op.bytesLess,Bool.or_eq_true,Bool.and_eq_true,decide_eq_true_eq,beq_iff_eq]at h
  rcases h with h|⟨h,h2⟩
  ·have hlt:x.toNat<y.toNat:=UInt8.lt_iff_toNat_lt.1 h
   have h3:(0*10+(x.toNat-48)+1)*10^b.length≤(0*10+(y.toNat-48))*10^b.length:=Nat.mul_le_mul_right _ (by omega)
   rw[Nat.add_mul]at h3
   omega
  ·subst h
   have:=mO a b hl ha' hb' h2
   omega
theorem pQ: ∀(a b:List UInt8),a.length=b.length→Op.bytesLess a b=true∨a=b∨Op.bytesLess b a=true
 |[],[],_=>Or.inr (Or.inl rfl)
 |[],_::_,hl=>by simp at hl
 |_::_,[],hl=>by simp at hl
 |x::a,y::b,hl=>by
  simp only[List.length_cons,Nat.add_right_cancel_iff]at hl
  simp only[Op.bytesLess,Bool.or_eq_true,Bool.and_eq_true,decide_eq_true_eq,beq_iff_eq,List.cons.injEq]
  by_cases h1:x<y
  ·exact Or.inl (Or.inl h1)
  ·by_cases h2:y<x
   ·exact Or.inr (Or.inr (Or.inl h2))
   ·have:x=y:=by
     apply UInt8.toNat.inj
     rw[UInt8.lt_iff_toNat_lt]at h1 h2
     omega
    subst this
    rcases pQ a b hl with h|h|h
    ·exact Or.inl (Or.inr ⟨rfl,h⟩)
    ·exact Or.inr (Or.inl ⟨rfl,h⟩)
    ·exact Or.inr (Or.inr (Or.inr ⟨rfl,h⟩))
theorem kl:valD 0 cJ=2147483647:=by decide
theorem pU: ∀x∈cJ,ah x=true:=by decide
theorem PB {w:List UInt8}(hd: ∀b∈w,ah b=true)(h0:w≠[])(e:Nat):lF w e=(match bU w with| .ok t=> .ok (t,e)| .error x=> .error x):=by
 unfold lF bU
 by_cases h10:10<w.length
 ·rw[if_pos h10,if_pos (Or.inl h10)]
 ·rw[if_neg h10]
  have ha:=d6 hd h0 (by omega)
  have hN:cg w=(valD 0 w:Nat):=by unfold cg;rw[ha]
  have hK:iT w=true:=by unfold iT;rw[ha]
  have hT:=rY w
  have hTd: ∀b∈bL w,ah b=true:=fun b hb=>hd b (lx w b hb)
  have key:((bL w).length=10∧(Op.bytesLess (bL w) cJ||decide (bL w=cJ))=false)↔2147483647<valD 0 w:=by
   by_cases hl:(bL w).length=10
   ·have hlm:(bL w).length=cJ.length:=hl
    constructor
    ·rintro⟨_,h2⟩
     rw[Bool.or_eq_false_iff]at h2
     rcases pQ (bL w) cJ hlm with h|h|h
     ·rw[h]at h2;exact absurd h2.1 (by simp)
     ·rw[h]at h2;exact absurd h2.2 (by simp)
     ·have:=mO _ _ hlm.symm pU hTd h
      rw[kl,hT]at this
      exact this
    ·intro h
     refine⟨hl,?_⟩
     rw[Bool.or_eq_false_iff]
     constructor
     ·cases hb:Op.bytesLess (bL w) cJ with
      |false=>rfl
      |true=>
       have:=mO _ _ hlm hTd pU hb
       rw[kl,hT]at this
       omega
     ·simp only[decide_eq_false_iff_not]
      intro hb
      rw[hb,kl]at hT
      omega
   ·constructor
    ·rintro⟨h,_⟩;exact absurd h hl
    ·intro h
     exfalso
     have h1:=(dH (bL w) 0 hTd).2
     have h2:=nH w
     have h3:(10:Nat)^(bL w).length≤10^9:=Nat.pow_le_pow_right (by omega) (by omega)
     rw[hT]at h1
     omega
  by_cases hm:2147483647<valD 0 w
  ·rw[if_pos (key.2 hm),if_pos (Or.inr (Or.inr (by rw[hN];omega)))]
  ·rw[if_neg (fun h=>hm (key.1 h)),if_neg (by rw[hN,hK];simp;omega),hN,LI hd h0]
theorem xQ {x:Int}:Lib.itoa x=[48]↔x=0:=by
 constructor
 ·intro h
  by_cases h0:0≤x
  ·obtain⟨m,rfl⟩: ∃m:Nat,x=(m:Int):=⟨x.toNat,by omega⟩
   rw[gR]at h
   by_cases h9:m<10
   ·rw[Lib.decDigits_one h9]at h
    injection h with h _
    have:=congrArg UInt8.toNat h
    rw[UInt8.toNat_ofNat_of_lt' (by show 48+m<256;omega)]at this
    have h48:(48:UInt8).toNat=48:=rfl
    omega
   ·have hl:=congrArg List.length h
    rw[Lib.decDigits,dif_neg h9]at hl
    have:=Lib.nDigits_pos (m / 10)
    rw[List.length_append,Lib.decDigits_length]at hl
    simp at hl
    omega
  ·obtain⟨m,rfl⟩: ∃m:Nat,x= -(m:Int):=⟨(-x).toNat,by omega⟩
   rw[uG (by omega)]at h
   injection h with h _
   exact absurd h (by decide)
 ·intro h
  subst h
  have:(0:Int)=((0:Nat):Int):=rfl
  rw[this,gR,Lib.decDigits_one (by omega)]
  rfl
theorem gw {D:List UInt8}(hd: ∀b∈D,ah b=true):Lib.trimPrefix D [45]=D∧Lib.trimPrefix ([45]++D) [45]=D:=by
 constructor
 ·cases D with
  |nil=>rfl
  |cons c r=>
   have:c≠45:=by rintro rfl;exact absurd (hd _ List.mem_cons_self) (by decide)
   have h2:(45 == c)=false:=by simpa using fun h:45=c=>this h.symm
   simp[Lib.trimPrefix,Lib.hasPrefix,List.isPrefixOf,h2]
 ·simp[Lib.trimPrefix,Lib.hasPrefix,List.isPrefixOf]
theorem Kv {whole part digits:List UInt8}{letter:UInt8}{e:Nat}:dN whole part 1 0 e=real whole part digits letter false e:=by
 unfold dN real jr c8 ep dY
 rw[ra,uA,pD,nO]
 by_cases h30:30<(dn whole).length+(bQ part).length
 ·simp[h30]
 ·simp[h30]
theorem yi {whole part:List UInt8}{e m:Nat}(he:(aL false s e).2.2.2=true):(if 3<(aP false s e).length then .error 7 else dN whole part (if(aL false s e).1=68 then 2 else 1) (dK s e) m)=real whole part (aL false s e).2.1 (aL false s e).1 true m:=by
 have hL:bN false s e=69∨bN false s e=68:=by
  unfold aL at he
  split at he
  ·assumption
  ·simp at he
 have hx:aL false s e=(bN false s e,bX false s e++aP false s e,runE false ah s (expStart false s e),!decide (aP false s e=[])):=by unfold aL;rw[if_pos hL]
 have hne:aP false s e≠[]:=by
  rw[hx]at he
  simpa using he
 have hdig: ∀b∈aP false s e,ah b=true:=g7
 rw[hx]
 simp only
 have hlt:e<s.length:=by
  rcases Nat.lt_or_ge e s.length with h|h
  ·exact h
  ·exfalso
   unfold bN at hL
   rw[b7,List.getElem?_eq_none h]at hL
   exact absurd hL (by decide)
 have hE:atE false s e=e+1:=by rw[cE,if_pos hlt]
 have hS:bX false s e=if atC false s (e+1)=45 then [45]else []:=by unfold bX;rw[hE]
 have hpre:Lib.trimPrefix (bX false s e++aP false s e) [45]=aP false s e:=by
  rw[hS]
  split
  ·exact(gw hdig).2
  ·exact(gw hdig).1
 unfold real jr
 rw[hpre]
 by_cases h3:3<(aP false s e).length
 ·simp[h3]
 ·rw[if_neg h3]
  have hval:cg (bX false s e++aP false s e)=dK s e:=by
   unfold dK
   rw[hS]
   by_cases h45:atC false s (e+1)=45
   ·rw[if_pos h45,if_pos h45]
    unfold cg
    rw[List.singleton_append,pz hdig hne (by omega)]
   ·rw[if_neg h45,if_neg h45]
    unfold cg
    rw[List.nil_append,d6 hdig hne (by omega)]
  unfold dN c8 ep dY
  rw[ra,uA,pD,nO,hval]
  by_cases h30:30<(dn whole).length+(bQ part).length
  ·simp[h30]
  ·have hz:=xQ (x:=dK s e)
   have h3d:decide (3<(aP false s e).length)=false:=by simp[h3]
   have h30d:decide (30<(dn whole).length+(bQ part).length)=false:=by simp[h30]
   rw[if_neg h30,h3d,h30d]
   simp only[Bool.false_and,Bool.or_self,Bool.false_eq_true,if_false,and_true,if_true]
   by_cases h68:bN false s e=68
   ·rw[if_pos h68,if_pos rfl,if_pos h68]
   ·rw[if_neg h68,if_neg (by decide),if_neg h68]
    by_cases h0:dK s e=0
    ·rw[if_neg (by simp[h0]),if_pos (hz.2 h0)]
    ·rw[if_pos h0,if_neg (fun h=>h0 (hz.1 h))]
     simp
theorem pZ {c:UInt8}(h:s[n]? =some c)(hc:ah c=true∨(c=46∧ah ((s[n+1]?).getD 0)=true)):gv s n=bO false s n:=by
 have hn:=eI h
 have hw:=oq (s:=s) (n:=n) (by omega)
 have hwhole:bx false s n=(s.drop n).take (digR s n):=(j9).1
 have hrun:runE false ah s n=n+digR s n:=(j9).2
 have hdig: ∀b∈bx false s n,ah b=true:=g7
 have hwl:(bx false s n).length=digR s n:=by rw[hwhole];simp;omega
 have hdot:(!kP s n&&decide (s[n+digR s n]? =some 46))=bS false s n:=by
  unfold bS kP
  rw[hrun]
  by_cases h46:s[n+digR s n]? =some 46
  ·have ha:atC false s (n+digR s n)=46:=by rw[b7,h46];rfl
   rw[Ik ha,ha]
   have:decide (bx false s n=[])= !decide (0<digR s n):=by
    by_cases h0:0<digR s n
    ·have:bx false s n≠[]:=by intro hh;rw[hh]at hwl;simp at hwl;omega
     simp[h0,this]
    ·have:bx false s n=[]:=List.eq_nil_of_length_eq_zero (by omega)
     simp[h0,this]
   rw[this]
   simp only[h46,decide_true,Bool.and_true,Bool.true_and]
   cases decide (0<digR s n)<;>cases (bg false s (n+digR s n)).2.2<;>rfl
  ·have ha:atC false s (n+digR s n)≠46:=by
    rw[b7]
    cases hg:s[n+digR s n]? with
    |none=>decide
    |some x=>intro hh;apply h46;rw[hg];simpa using hh
   simp[h46,ha]
 have hdotne:bS false s n=false→bx false s n≠[]:=by
  intro hf hnil
  rcases hc with hc|⟨hc1,hc2⟩
  ·have:digR s n=0:=by rw[←hwl,hnil];rfl
   unfold digR at this
   rw[List.drop_eq_getElem_cons hn,List.takeWhile_cons]at this
   rw[List.getElem?_eq_getElem hn]at h
   injection h with h
   rw[h,hc]at this
   simp at this
  ·unfold bS at hf
   have h0:digR s n=0:=by rw[←hwl,hnil];rfl
   have ha:atC false s (n+digR s n)=46:=by rw[h0,Nat.add_zero,b7,h,hc1];rfl
   rw[hrun,ha,hnil]at hf
   simp at hf
 unfold gv bO
 rw[hdot,←hwhole]
 cases hD:bS false s n with
 |true=>
  have hlt:n+digR s n<s.length:=by
   have:=hdot
   rw[hD,Bool.and_eq_true,decide_eq_true_eq]at this
   exact eI this.2
  have hE:atE false s (n+digR s n)=n+digR s n+1:=by rw[cE,if_pos hlt]
  have hend:numEnd false s n=n+digR s n+1+digR s (n+digR s n+1):=by
   unfold numEnd;rw[if_pos hD,hrun,hE];exact(j9).2
  have hpart:cB false s n=(s.drop (n+digR s n+1)).take (digR s (n+digR s n+1)):=by
   unfold cB;rw[if_pos hD,hrun,hE];exact(j9).1
  rw[if_pos rfl,←hend,←hpart]
  simp only[Bool.not_true,Bool.false_and,Bool.false_eq_true,if_false]
  unfold gu
  cases hq:(aL false s (numEnd false s n)).2.2.2 with
  |true=>
   rw[if_pos rfl]
   simp only[if_true]
   exact yi hq
  |false=>
   rw[if_neg (by simp),if_pos rfl]
   exact Kv
 |false=>
  have hend:numEnd false s n=n+digR s n:=by unfold numEnd;rw[if_neg (by rw[hD];simp),hrun]
  have hpart:cB false s n=[]:=by unfold cB;rw[if_neg (by rw[hD];simp)]
  rw[if_neg (by simp),←hend,hpart]
  unfold gu
  have hq1: ∀{α:Type} {x y:α},(aL false s (numEnd false s n)).2.2.2=true→(if(!false&& !(aL false s (numEnd false s n)).2.2.2)=true then x else y)=y:=by
   intro α x y h;rw[h];rfl
  have hq2: ∀{α:Type} {x y:α},(aL false s (numEnd false s n)).2.2.2=false→(if(!false&& !(aL false s (numEnd false s n)).2.2.2)=true then x else y)=x:=by
   intro α x y h;rw[h];rfl
  cases hq:(aL false s (numEnd false s n)).2.2.2 with
  |true=>
   simp only[hq,Bool.not_false,Bool.not_true,Bool.and_false,Bool.false_eq_true,if_false,if_true]
   exact yi hq
  |false=>
   simp only[hq,Bool.not_false,Bool.and_true,Bool.false_eq_true,if_false,if_true]
   exact PB hdig (hdotne hD) _
end
end Go.Abs
set_option linter.unusedVariables false
set_option linter.unusedSimpArgs false
set_option maxRecDepth 100000
namespace Go.Abs
open Go Go.Proofs
section
variable {μ:Mu}{s:List UInt8}
theorem BA {x y:UInt8}:decide ((x.toNat:Int)=(y.toNat:Int))=decide (x=y):=by
 by_cases h:x=y
 ·subst h;simp
 ·have:x.toNat≠y.toNat:=fun e=>h (UInt8.toNat.inj e)
  simp[h];omega
def lg (t:List UInt8)(e:Nat):Except Int (Tok×Nat):=if 60<t.length then .error 8 else .ok (⟨1,6,aR t⟩,e)
noncomputable def vv (μ:Mu)(acc:List UInt8)(i:Nat)(a b c d:Int)(t:List UInt8):Option (List UInt8×Nat)→St
 |none=>uu a b t c d μ
 |some (x,k)=>stN μ ut (lg (acc++x) (i+k))
theorem Qg (hs:s.length≤200000){q:UInt8}{a b c d:Int}{t:List UInt8}: ∀(k i:Nat) (acc:List UInt8),s.length-i≤k→i≤s.length→acc.length≤i→
  yN (ev E) s (q.toNat:Int) acc (i:Int) a b t c d μ=some (vv μ acc i a b c d t (bE q (s.drop i))):=by
 intro k
 induction k using Nat.strongRecOn with
 |_ k ih=>
  intro i acc hk hi ha
  by_cases hlt:i<s.length
  ·have hd:=List.drop_eq_getElem_cons hlt
   refine aW ?_
   rw[EC,cI hlt,cond_true,b9 hlt,aa,BA,bV (by omega),zW hlt,aa,bq (by simp;omega),az,hd]
   by_cases hq:s[i]=q
   ·have hq1:decide (s[i]=q)=true:=by simp[hq]
    rw[hq1,Bool.not_true,cond_false,hq]
    have h11: ∀{i:Nat},i<s.length→(opt (u1 (ev E) acc (i:Int) a b t c d μ) (kS (ev E) H81 [] [(0,0),(4,0),(5,0),(6,0),(7,0)]))=some (stN μ pk (lg acc (i+1))):=by
     intro i hlt
     have:u1 (ev E) acc (i:Int) a b t c d μ=some (stN μ nf (lg acc (i+1))):=by
      refine aZ ?_
      rw[Mf]
      unfold lg
      by_cases h60:60<acc.length
      ·have:decide ((60:Int)<(acc.length:Int))=true:=by simp;omega
       rw[this,cond_true,if_pos h60]
       rfl
      ·have:decide ((60:Int)<(acc.length:Int))=false:=by simp;omega
       have hG:HS (ev E) acc (i:Int) a b t c d μ=some (qN 1 6 (aR acc) ((i+1:Nat):Int) 0 μ):=by
        refine aZ ?_
        rw[Mg,Q6 (by omega)]
        simp only[ad,aq,aa,am,ao,aj,ae,ak,az,cond_true,cond_false,Bool.not_true,Bool.not_false,av,au,ar]
        rw[bV (by omega)]
       rw[this,cond_false,if_neg h60,hG,aa,CF]
       rfl
     rw[this,aa]
     cases lg acc (i+1)with
     |ok q=>exact th _ _ _ _ _ _ _
     |error e=>exact th _ _ _ _ _ _ _
    by_cases hlt2:i+1<s.length∧s[i+1]? =some q
    ·obtain⟨h2,h3⟩:=hlt2
     have hd2:=List.drop_eq_getElem_cons h2
     have hg2:s[i+1]=q:=by rw[List.getElem?_eq_getElem h2]at h3;simpa using h3
     have hG:E9 (ev E) s (q.toNat:Int) acc (i:Int) a b t c d μ=some (ua s (q.toNat:Int) (acc++[q]) ((i+1:Nat):Int) a b t c d μ):=by
      refine aZ ?_
      have hq2:decide (q=q)=true:=by simp
      rw[Er,bV (by omega),cI h2,cond_true,b9 h2,aa,BA,hg2,hq2,cond_true,zW hlt,aa,bq (by simp;omega),az,hq]
     rw[hG,aa,GE,bV (by omega),ih (s.length-(i+1+1)) (by omega) (i+1+1) (acc++[q]) (Nat.le_refl _) (by omega) (by simp;omega),hd2,hg2,eM]
     cases bE q (s.drop (i+1+1))with
     |none=>rfl
     |some x=>
      simp only[vv,Option.map_some]
      have e1:i+1+1+x.2=i+(x.2+2):=by omega
      rw[e1]
      simp
    ·have hne: ∀d u,s.drop (i+1)=d::u→d≠q:=by
      intro d u hdu hdq
      apply hlt2
      have h2:i+1<s.length:=by
       rcases Nat.lt_or_ge (i+1) s.length with h|h
       ·exact h
       ·rw[List.drop_eq_nil_of_le h]at hdu;cases hdu
      refine⟨h2,?_⟩
      rw[List.drop_eq_getElem_cons h2]at hdu
      injection hdu with hdu _
      rw[List.getElem?_eq_getElem h2,hdu,hdq]
     have hG:E9 (ev E) s (q.toNat:Int) acc (i:Int) a b t c d μ=some (stN μ pk (lg acc (i+1))):=by
      refine aZ ?_
      rw[Er,bV (by omega)]
      by_cases h2:i+1<s.length
      ·have h3:s[i+1]≠q:=fun h=>hlt2 ⟨h2,by rw[List.getElem?_eq_getElem h2,h]⟩
       have h4:decide (s[i+1]=q)=false:=by simp[h3]
       rw[cI h2,cond_true,b9 h2,aa,BA,h4,cond_false,h11 hlt]
      ·rw[c6 (by omega),cond_false,h11 hlt]
     rw[hG,aa,ei hne]
     simp only[vv,List.append_nil]
     cases lg acc (i+1)with
     |ok q=>exact vP _ _ _ _ _ _ _
     |error e=>exact vP _ _ _ _ _ _ _
   ·have hq1:decide (s[i]=q)=false:=by simp[hq]
    rw[hq1,Bool.not_false,cond_true,ih (s.length-(i+1)) (by omega) (i+1) (acc++[s[i]]) (Nat.le_refl _) (by omega) (by simp;omega),fv hq]
    cases bE q (s.drop (i+1))with
    |none=>rfl
    |some x=>
     simp only[vv,Option.map_some]
     have e1:i+1+x.2=i+(x.2+1):=by omega
     rw[e1]
     simp
  ·refine aW ?_
   rw[EC,c6 (by omega),cond_false,List.drop_eq_nil_of_le (by omega)]
   rfl
theorem Rf (hs:s.length≤200000){n:Nat}(hn:n<s.length):(ev E).call 81 [LV.str s,LV.int .i64 (n:Int)] μ=some (.ret (.cv (lr (cr s n))) μ):=by
 refine aO ?_
 rw[SO,b9 hn,aa,bV (by omega),Qg hs (s.length-(n+1)) (n+1) [] (Nat.le_refl _) (by omega) (by simp),aa]
 unfold cr
 rw[List.getElem?_eq_getElem hn,Option.getD_some]
 cases hq:bE s[n] (s.drop (n+1))with
 |none=>exact G8 _ _ _ _ _ _ _
 |some x=>
  obtain⟨t,k⟩:=x
  simp only[vv,List.nil_append]
  unfold lg
  by_cases h60:60<t.length
  ·rw[if_pos h60];exact vQ _ _ _ _ _ _ _
  ·rw[if_neg h60];exact vQ _ _ _ _ _ _ _
theorem Qf (hs:s.length≤200000){n:Nat}{a b c d:Int}{t:List UInt8}: ∀(k i:Nat),i+k=s.length→
  sd (ev E) s (n:Int) (i:Int) a b t c d μ=some (mB s (n:Int) ((i+((s.drop i).takeWhile aY).length:Nat):Int) a b t c d μ):=by
 have e95: ∀c:UInt8,decide ((c.toNat:Int)=95)=decide (c.toNat=95):=fun c=>by simp;omega
 intro k
 induction k with
 |zero=>
  intro i hi
  refine aW ?_
  rw[EB,c6 (by omega),cond_false,List.drop_eq_nil_of_le (by omega)]
  rfl
 |succ k ih=>
  intro i hi
  have hlt:i<s.length:=by omega
  have hy: ∀{q:Bool},aY s[i]=q→(q=true→sd (ev E) s (n:Int) ((i+1:Nat):Int) a b t c d μ=some (mB s (n:Int) ((i+((s.drop i).takeWhile aY).length:Nat):Int) a b t c d μ))∧(q=false→i+((s.drop i).takeWhile aY).length=i):=by
   intro q hq
   rw[List.drop_eq_getElem_cons hlt,List.takeWhile_cons,hq]
   constructor
   ·intro h
    rw[ih (i+1) (by omega),h]
    simp only[if_true,List.length_cons]
    congr 3
    omega
   ·intro h;rw[h];rfl
  refine aW ?_
  rw[EB,cI hlt,cond_true,b9 hlt,aa,ND]
  simp only[ad,aq,aa,am,ao,aj,ae,ak,az,cond_true,cond_false,Bool.not_true,Bool.not_false,av,au,ar,e95]
  rw[bV (by omega)]
  have hp:aY s[i]=(aU s[i]||ah s[i]||decide (s[i].toNat=95)):=rfl
  cases h1:aU s[i]with
  |true=>
   rw[cond_true]
   exact(hy (by rw[hp,h1];rfl)).1 rfl
  |false=>
   rw[cond_false,yV]
   simp only[ad,aq,aa,am,ao,aj,ae,ak,az,cond_true,cond_false,Bool.not_true,Bool.not_false,av,au,ar]
   cases h2:ah s[i]with
   |true=>
    rw[cond_true]
    exact(hy (by rw[hp,h1,h2];rfl)).1 rfl
   |false=>
    rw[cond_false]
    cases h3:decide (s[i].toNat=95)with
    |true=>
     rw[cond_true]
     exact(hy (by rw[hp,h1,h2,h3];rfl)).1 rfl
    |false=>
     rw[cond_false,(hy (q:=false) (by rw[hp,h1,h2,h3];rfl)).2 rfl]
def lI:List (List UInt8×List UInt8):=[([60,61],[46,76,69,46]),([62,61],[46,71,69,46]),([61,61],[46,69,81,46]),([47,61],[46,78,69,46]),([60],[46,76,84,46]),([62],[46,71,84,46])]
def rV (l:List (List UInt8×List UInt8)):List CV:=l.map fun x=>CV.agg [CV.str x.1,CV.str x.2]
def toE:Except Int (Tok×Nat)→Nat
 | .ok q=>q.2
 | .error _=>0
def eV (s:List UInt8)(n:Nat):List (List UInt8×List UInt8)→Except Int (Tok×Nat)→Except Int (Tok×Nat)
 |[],r=>r
 |x::l,r=>eV s n l (if bv s n x.1=true∧toE r<n+x.1.length then .ok (⟨2,0,x.2⟩,n+x.1.length)else r)
def stB {α:Sort _}(X:Int→Int→List UInt8→Int→Int→α):Except Int (Tok×Nat)→α
 | .ok q=>X q.1.kind q.1.type q.1.text (q.2:Int) 0
 | .error e=>X 0 0 [] 0 e
theorem JQ (hs:s.length≤200000){n:Nat}(hn:n≤s.length){a b c d:Int}{t:List UInt8}{l:List (List UInt8×List UInt8)}(hl:l.length≤100)(hw: ∀x∈l,x.1.length≤100): ∀(k j:Nat) (r:Except Int (Tok×Nat)),j+k=l.length→
  stB (fun p q u v w=>qw (ev E) s (n:Int) (rV l) (l.length:Int) (j:Int) a b t c d p q u v w μ) r=some (stB (fun p q u v w=>qZ s (n:Int) a b t c d p q u v w μ) (eV s n (l.drop j) r)):=by
 intro k
 induction k with
 |zero=>
  intro j r hj
  rw[List.drop_eq_nil_of_le (by omega)]
  cases r with
  |ok q=>
   refine aW ?_
   rw[pW,c6 (by omega),cond_false]
   rfl
  |error e=>
   refine aW ?_
   rw[pW,c6 (by omega),cond_false]
   rfl
 |succ k ih=>
  intro j r hj
  have hlt:j<l.length:=by omega
  have hg:bZ (rV l) (j:Int)=some (CV.agg [CV.str l[j].1,CV.str l[j].2]):=by rw[ey];simp[rV,hlt]
  have hrd: ∀{β:Type} {k:List UInt8→List UInt8→Option β},NH (LV.cv (CV.agg [CV.str l[j].1,CV.str l[j].2])) k=k l[j].1 l[j].2:=rfl
  have hwl:=hw _ (List.getElem_mem hlt)
  rw[List.drop_eq_getElem_cons hlt,eV]
  have hih:=fun r=>ih (j+1) r (by omega)
  cases r with
  |ok q=>
   refine aW ?_
   rw[pW,cI hlt,cond_true,hg,aa,hrd,pO hs hn (by omega)]
   simp only[ad,aq,aa,am,ao,aj,ae,ak,az,cond_true,cond_false,Bool.not_true,Bool.not_false,av,au,ar]
   rw[bV (by omega),gB (by omega)]
   cases hb:bv s n l[j].1 with
   |false=>
    rw[cond_false,if_neg (by simp)]
    exact hih (.ok q)
   |true=>
    rw[cond_true]
    by_cases h2:q.2<n+l[j].1.length
    ·rw[cI h2,cond_true,if_pos ⟨rfl,h2⟩]
     exact hih (.ok (⟨2,0,l[j].2⟩,n+l[j].1.length))
    ·rw[c6 (by omega),cond_false,if_neg (fun h=>h2 h.2)]
     exact hih (.ok q)
  |error e=>
   refine aW ?_
   rw[pW,cI hlt,cond_true,hg,aa,hrd,pO hs hn (by omega)]
   simp only[ad,aq,aa,am,ao,aj,ae,ak,az,cond_true,cond_false,Bool.not_true,Bool.not_false,av,au,ar]
   rw[bV (by omega),gB (by omega)]
   cases hb:bv s n l[j].1 with
   |false=>
    rw[cond_false,if_neg (by simp)]
    exact hih (.error e)
   |true=>
    rw[cond_true]
    by_cases h2:0<n+l[j].1.length
    ·have:=cI h2
     have e0:((0:Nat):Int)=0:=rfl
     rw[e0]at this
     rw[this,cond_true,if_pos ⟨rfl,h2⟩]
     exact hih (.ok (⟨2,0,l[j].2⟩,n+l[j].1.length))
    ·have:=c6 (n:=0) (m:=n+l[j].1.length) (by omega)
     have e0:((0:Nat):Int)=0:=rfl
     rw[e0]at this
     rw[this,cond_false,if_neg (fun h=>h2 h.2)]
     exact hih (.error e)
def lY (l:List (List UInt8)):List (List UInt8×List UInt8):=l.map fun x=>(x,x)
theorem JR (hs:s.length≤200000){n:Nat}(hn:n≤s.length){a b c d:Int}{t:List UInt8}{l:List (List UInt8)}(hl:l.length≤100)(hw: ∀x∈l,x.length≤100): ∀(k j:Nat) (r:Except Int (Tok×Nat)),j+k=l.length→
  stB (fun p q u v w=>od (ev E) s (n:Int) (bw l) (l.length:Int) (j:Int) a b t c d p q u v w μ) r=some (stB (fun p q u v w=>la a b t c d p q u v w μ) (eV s n (lY (l.drop j)) r)):=by
 intro k
 induction k with
 |zero=>
  intro j r hj
  rw[List.drop_eq_nil_of_le (by omega)]
  cases r with
  |ok q=>
   refine aW ?_
   rw[pY,c6 (by omega),cond_false]
   rfl
  |error e=>
   refine aW ?_
   rw[pY,c6 (by omega),cond_false]
   rfl
 |succ k ih=>
  intro j r hj
  have hlt:j<l.length:=by omega
  have hg:bZ (bw l) (j:Int)=some (CV.str l[j]):=by rw[ey];simp[bw,hlt]
  have hwl:=hw _ (List.getElem_mem hlt)
  have hsel:lY (l[j]::l.drop (j+1))=(l[j],l[j])::lY (l.drop (j+1)):=rfl
  rw[List.drop_eq_getElem_cons hlt,hsel,eV]
  have hih:=fun r=>ih (j+1) r (by omega)
  cases r with
  |ok q=>
   refine aW ?_
   rw[pY,cI hlt,cond_true,hg,aa,gP,aa,pO hs hn (by omega)]
   simp only[ad,aq,aa,am,ao,aj,ae,ak,az,cond_true,cond_false,Bool.not_true,Bool.not_false,av,au,ar]
   rw[bV (by omega),gB (by omega)]
   cases hb:bv s n l[j]with
   |false=>
    rw[cond_false,if_neg (by simp)]
    exact hih (.ok q)
   |true=>
    rw[cond_true]
    by_cases h2:q.2<n+l[j].length
    ·rw[cI h2,cond_true,if_pos ⟨rfl,h2⟩]
     exact hih (.ok (⟨2,0,l[j]⟩,n+l[j].length))
    ·rw[c6 (by omega),cond_false,if_neg (fun h=>h2 h.2)]
     exact hih (.ok q)
  |error e=>
   refine aW ?_
   rw[pY,cI hlt,cond_true,hg,aa,gP,aa,pO hs hn (by omega)]
   simp only[ad,aq,aa,am,ao,aj,ae,ak,az,cond_true,cond_false,Bool.not_true,Bool.not_false,av,au,ar]
   rw[bV (by omega),gB (by omega)]
   cases hb:bv s n l[j]with
   |false=>
    rw[cond_false,if_neg (by simp)]
    exact hih (.error e)
   |true=>
    rw[cond_true]
    by_cases h2:0<n+l[j].length
    ·have:=cI h2
     have e0:((0:Nat):Int)=0:=rfl
     rw[e0]at this
     rw[this,cond_true,if_pos ⟨rfl,h2⟩]
     exact hih (.ok (⟨2,0,l[j]⟩,n+l[j].length))
    ·have:=c6 (n:=0) (m:=n+l[j].length) (by omega)
     have e0:((0:Nat):Int)=0:=rfl
     rw[e0]at this
     rw[this,cond_false,if_neg (fun h=>h2 h.2)]
     exact hih (.error e)
theorem F0:(ev E).call 56 [] μ=some (.ret (LV.osl (bw bm)) μ):=aO (by rw[SH];rfl)
theorem PE:(ev E).call 100 [] μ=some (.ret (LV.osl (rV lI)) μ):=aO (by rw[Rm];rfl)
def pA (s:List UInt8)(n:Nat):Except Int (Tok×Nat):=eV s n (lY bm) (eV s n lI (.error 7))
theorem MN (hs:s.length≤200000){n:Nat}(hn:n≤s.length){a b c d:Int}{t:List UInt8}:HQ (ev E) s (n:Int) a b t c d μ=some (stN μ nc (pA s n)):=by
 refine aZ ?_
 rw[Md,PE]
 simp only[ad,aq,aa,am,ao,aj,ae,ak,az,cond_true,cond_false,Bool.not_true,Bool.not_false,av,au,ar]
 have h1:=JQ (μ:=μ) hs hn (a:=a) (b:=b) (c:=c) (d:=d) (t:=t) (l:=lI) (by decide) (by decide) lI.length 0 (.error 7) (by omega)
 have e0:((0:Nat):Int)=0:=rfl
 have e1:(rV lI).length=lI.length:=rfl
 have e2:(bw bm).length=bm.length:=rfl
 rw[e0,List.drop_zero]at h1
 simp only[stB]at h1
 have h2: ∀r,stB (fun p q u v w=>od (ev E) s (n:Int) (bw bm) (bm.length:Int) 0 a b t c d p q u v w μ) r=some (stB (fun p q u v w=>la a b t c d p q u v w μ) (eV s n (lY bm) r)):=by
  intro r
  have:=JR (μ:=μ) hs hn (a:=a) (b:=b) (c:=c) (d:=d) (t:=t) (l:=bm) (by decide) (by decide) bm.length 0 r (by omega)
  rw[e0,List.drop_zero]at this
  exact this
 rw[e1,h1,aa]
 unfold pA
 have h3:=h2 (eV s n lI (.error 7))
 have fin: ∀r,kS (ev E) H58 [.block 9,.seq (cA 58 [1,1,1,1,1,1])] [(4,0)] (stB (fun p q u v w=>la a b t c d p q u v w μ) r)=some (stN μ nc r):=by
  intro r
  cases r with
  |ok q=>exact tv _ _ _ _ _ _ _ _ _ _ _ _
  |error e=>exact tv _ _ _ _ _ _ _ _ _ _ _ _
 cases hr:eV s n lI (.error 7)with
 |ok q=>
  rw[hr]at h3
  simp only[stB]at h3 ⊢
  rw[tu,F0]
  simp only[ad,aq,aa,am,ao,aj,ae,ak,az,cond_true,cond_false,Bool.not_true,Bool.not_false,av,au,ar]
  rw[e2,h3,aa]
  exact fin _
 |error e=>
  rw[hr]at h3
  simp only[stB]at h3 ⊢
  rw[tu,F0]
  simp only[ad,aq,aa,am,ao,aj,ae,ak,az,cond_true,cond_false,Bool.not_true,Bool.not_false,av,au,ar]
  rw[e2,h3,aa]
  exact fin _
def yR (s:List UInt8)(n:Nat)(l:List (List UInt8))(kind type:Int)(els:Except Int (Tok×Nat)):Except Int (Tok×Nat):=
 match l.find? (bv s n)with|some w=> .ok (⟨kind,type,w⟩,n+w.length)|none=>els
theorem JO (hs:s.length≤200000){n:Nat}(hn:n≤s.length){a b c d:Int}{t:List UInt8}{l:List (List UInt8)}(hl:l.length≤100)(hw: ∀x∈l,x.length≤100): ∀(k j:Nat),j+k=l.length→
  zw (ev E) s (n:Int) (bw l) (l.length:Int) (j:Int) a b t c d μ=some (match(l.drop j).find? (bv s n)with|some w=>qV 2 0 w ((n+w.length:Nat):Int) 0 μ|none=>qW s (n:Int) a b t c d μ):=by
 intro k
 induction k with
 |zero=>
  intro j hj
  refine aW ?_
  rw[AQ,c6 (by omega),cond_false,List.drop_eq_nil_of_le (by omega)]
  rfl
 |succ k ih=>
  intro j hj
  have hlt:j<l.length:=by omega
  have hg:bZ (bw l) (j:Int)=some (CV.str l[j]):=by rw[ey];simp[bw,hlt]
  have hwl:=hw _ (List.getElem_mem hlt)
  refine aW ?_
  rw[AQ,cI hlt,cond_true,hg,aa,gP,aa,pO hs hn (by omega)]
  simp only[ad,aq,aa,am,ao,aj,ae,ak,az,cond_true,cond_false,Bool.not_true,Bool.not_false,av,au,ar]
  rw[bV (by omega),gB (by omega),ih (j+1) (by omega),List.drop_eq_getElem_cons hlt,List.find?_cons]
  cases hb:bv s n l[j]<;>rfl
theorem JP (hs:s.length≤200000){n:Nat}(hn:n≤s.length){a b c d:Int}{t:List UInt8}{l:List (List UInt8)}(hl:l.length≤100)(hw: ∀x∈l,x.length≤100): ∀(k j:Nat),j+k=l.length→
  zx (ev E) s (n:Int) (bw l) (l.length:Int) (j:Int) a b t c d μ=some (match(l.drop j).find? (bv s n)with|some w=>qX 1 5 w ((n+w.length:Nat):Int) 0 μ|none=>qY a b t c d μ):=by
 intro k
 induction k with
 |zero=>
  intro j hj
  refine aW ?_
  rw[AR,c6 (by omega),cond_false,List.drop_eq_nil_of_le (by omega)]
  rfl
 |succ k ih=>
  intro j hj
  have hlt:j<l.length:=by omega
  have hg:bZ (bw l) (j:Int)=some (CV.str l[j]):=by rw[ey];simp[bw,hlt]
  have hwl:=hw _ (List.getElem_mem hlt)
  refine aW ?_
  rw[AR,cI hlt,cond_true,hg,aa,gP,aa,pO hs hn (by omega)]
  simp only[ad,aq,aa,am,ao,aj,ae,ak,az,cond_true,cond_false,Bool.not_true,Bool.not_false,av,au,ar]
  rw[bV (by omega),gB (by omega),ih (j+1) (by omega),List.drop_eq_getElem_cons hlt,List.find?_cons]
  cases hb:bv s n l[j]<;>rfl
def sR (s:List UInt8)(n:Nat):Except Int (Tok×Nat):=yR s n bT 2 0 (yR s n [eW,ee] 1 5 (.error 7))
def yY (s:List UInt8)(n:Nat)(c:UInt8):Except Int (Tok×Nat):=
 if aU c then(if 31<((s.drop n).takeWhile aY).length then .error 4 else .ok (⟨0,0,((s.drop n).takeWhile aY).map upB⟩,n+((s.drop n).takeWhile aY).length))
 else if ah c||(decide (c=46)&&ah ((s[n+1]?).getD 0))then gv s n
 else if c=46 then sR s n
 else if c=39∨c=34 then cr s n
 else pA s n
theorem nB {β:Type}{q:Except Int (Tok×Nat)}{k:Int→Int→List UInt8→Int→Int→Option β}:Bd (.cv (lr q)) k=stB k q:=by cases q<;>rfl
theorem MM (hs : s.length ≤ 200000) {n : Nat} (hn : n < s.length) {x : Bool} {a b c d : Int} {t : List UInt8} : n0 (ev E) s (n : Int) (s[n].toNat : Int) x a b t c d μ = some (
  if x=true then stN μ dz (gv s n)else if s[n]=46 then stN μ dz (sR s n)else if s[n]=39∨s[n]=34 then stN μ dz (cr s n)else qL s (n:Int) a b t c d μ):=by
 have e46: ∀c:UInt8,decide ((c.toNat:Int)=46)=decide (c=46):=fun c=>co (k:=46) (by omega)
 have e39: ∀c:UInt8,decide ((c.toNat:Int)=39)=decide (c=39):=fun c=>co (k:=39) (by omega)
 have e34: ∀c:UInt8,decide ((c.toNat:Int)=34)=decide (c=34):=fun c=>co (k:=34) (by omega)
 have hst: ∀(q:Except Int (Tok×Nat)),stB (fun p q u v w=>some (dz p q u v w μ)) q=some (stN μ dz q):=by intro q;cases q<;>rfl
 refine aZ ?_
 rw[Mc,Rl hs (by omega),e46,e39,e34,Rf hs hn,ad,ad,nB,nB,hst,hst]
 cases x with
 |true=>rw[cond_true,if_pos rfl]
 |false=>
  rw[cond_false,if_neg (by simp)]
  by_cases h46:s[n]=46
  ·have:decide (s[n]=46)=true:=by simp[h46]
   rw[this,cond_true,if_pos h46,FZ]
   simp only[ad,aq,aa,am,ao,aj,ae,ak,az,cond_true,cond_false,Bool.not_true,Bool.not_false,av,au,ar]
   have e2:(bw bT).length=bT.length:=rfl
   have e0:((0:Nat):Int)=0:=rfl
   have h14:=JO (μ:=μ) hs (Nat.le_of_lt hn) (a:=a) (b:=b) (c:=c) (d:=d) (t:=t) (l:=bT) (by decide) (by decide) bT.length 0 (by omega)
   rw[e0,List.drop_zero]at h14
   have h20:=JP (μ:=μ) hs (Nat.le_of_lt hn) (a:=a) (b:=b) (c:=c) (d:=d) (t:=t) (l:=[eW,ee]) (by decide) (by decide) 2 0 (by simp)
   rw[e0,List.drop_zero]at h20
   rw[e2,h14,aa]
   unfold sR yR
   cases hf:bT.find? (bv s n)with
   |some w=>simp only;rw[CT];rfl
   |none=>
    simp only
    have e3:[CV.str ([46,84,82,85,69,46]:List UInt8),CV.str ([46,70,65,76,83,69,46]:List UInt8)]=bw [eW,ee]:=rfl
    have e4:(2:Int)=(([eW,ee]:List (List UInt8)).length:Int):=rfl
    rw[CU,e3]
    rw[←e4]at h20
    rw[h20,aa]
    cases hf2:([eW,ee]:List (List UInt8)).find? (bv s n)with
    |some w=>simp only;rw[CW];rfl
    |none=>simp only;rw[CX];rfl
  ·have:decide (s[n]=46)=false:=by simp[h46]
   rw[this,cond_false,if_neg h46]
   by_cases h39:s[n]=39
   ·simp[h39]
   ·by_cases h34:s[n]=34
    ·simp[h34]
    ·simp[h39,h34]
theorem Nv (hs:s.length≤200000){n:Nat}(hn:n<s.length):(ev E).call 58 [LV.str s,LV.int .i64 (n:Int)] μ=some (.ret (.cv (lr (yY s n s[n]))) μ):=by
 have e46: ∀c:UInt8,decide ((c.toNat:Int)=46)=decide (c=46):=fun c=>co (k:=46) (by omega)
 refine aO ?_
 rw[SJ,b9 hn,aa,ND]
 simp only[ad,aq,aa,am,ao,aj,ae,ak,az,cond_true,cond_false,Bool.not_true,Bool.not_false,av,au,ar]
 unfold yY
 cases hlet:aU s[n]with
 |true=>
  have htw:((s.drop n).takeWhile aY).length≤s.length-n:=by
   have:=(List.takeWhile_sublist aY (l:=s.drop n)).length_le
   rw[List.length_drop]at this
   exact this
  rw[cond_true,Qf hs (s.length-n) n (by omega),aa,GW,S5 (by omega) (by omega)]
  have e1:n+((s.drop n).takeWhile aY).length-n=((s.drop n).takeWhile aY).length:=by omega
  rw[e1,if_pos rfl]
  by_cases h31:31<((s.drop n).takeWhile aY).length
  ·have:decide ((31:Int)<(((s.drop n).takeWhile aY).length:Int))=true:=by simp;omega
   rw[this,cond_true,if_pos h31]
   rfl
  ·have:decide ((31:Int)<(((s.drop n).takeWhile aY).length:Int))=false:=by simp;omega
   have hcut:(s.drop n).take ((s.drop n).takeWhile aY).length=(s.drop n).takeWhile aY:=(List.prefix_iff_eq_take.1 (List.takeWhile_prefix _)).symm
   have hG: ∀{a b c d:Int} {t:List UInt8},Nb (ev E) s (n:Int) ((n+((s.drop n).takeWhile aY).length:Nat):Int) a b t c d μ=some (tS 0 0 (((s.drop n).takeWhile aY).map upB) ((n+((s.drop n).takeWhile aY).length:Nat):Int) 0 μ):=by
    intro a b c d t
    refine aZ ?_
    rw[OL,e7 (by omega) (by omega),aa,e1,hcut,NE (by omega)]
    simp only[ad,aq,aa,am,ao,aj,ae,ak,az,cond_true,cond_false,Bool.not_true,Bool.not_false,av,au,ar]
   rw[this,cond_false,if_neg h31,hG,aa,Gr]
   rfl
 |false=>
  rw[cond_false,yV]
  simp only[ad,aq,aa,am,ao,aj,ae,ak,az,cond_true,cond_false,Bool.not_true,Bool.not_false,av,au,ar,Bool.false_eq_true,if_false,e46]
  have hfin: ∀{x:Bool} {a b c d:Int} {t:List UInt8},(ah s[n]||(decide (s[n]=46)&&ah ((s[n+1]?).getD 0)))=x→(opt (n0 (ev E) s (n:Int) (s[n].toNat:Int) x a b t c d μ) (kB (ev E) 58 H58 [.block 0,.seq (cA 58 [1,1,1])]))=
    some (.ret (.cv (lr (if(ah s[n]||(decide (s[n]=46)&&ah ((s[n+1]?).getD 0)))=true then gv s n else if s[n]=46 then sR s n else if s[n]=39∨s[n]=34 then cr s n else pA s n))) μ):=by
   intro x a b c d t hx
   have f0: ∀q:Except Int (Tok×Nat),kB (ev E) 58 H58 [.block 0,.seq (cA 58 [1,1,1])] (stN μ dz q)=some (.ret (.cv (lr q)) μ):=by
    intro q
    cases q with
    |ok q=>exact te _ _ _ _ _ _ _
    |error e=>exact te _ _ _ _ _ _ _
   rw[MM hs hn,aa,hx]
   cases x with
   |true=>rw[if_pos rfl,if_pos rfl,f0]
   |false=>
    simp only[Bool.false_eq_true,if_false]
    by_cases h46:s[n]=46
    ·rw[if_pos h46,if_pos h46,f0]
    ·rw[if_neg h46,if_neg h46]
     by_cases hq:s[n]=39∨s[n]=34
     ·rw[if_pos hq,if_pos hq,f0]
     ·rw[if_neg hq,if_neg hq,CD,MN hs (by omega),aa]
      cases pA s n with
      |ok q=>exact tf _ _ _ _ _ _ _
      |error e=>exact tf _ _ _ _ _ _ _
  cases hdig:ah s[n]with
  |true=>
   rw[cond_true]
   have:=hfin (x:=true) (a:=0) (b:=0) (c:=0) (d:=0) (t:=[]) (by rw[hdig];rfl)
   rw[hdig]at this
   exact this
  |false=>
   rw[cond_false]
   by_cases h46:s[n]=46
   ·have h1:decide (s[n]=46)=true:=by simp[h46]
    rw[h1,cond_true,bV (by omega)]
    by_cases h2:n+1<s.length
    ·rw[cI h2,cond_true,b9 h2,aa,yV]
     simp only[ad,aq,aa,am,ao,aj,ae,ak,az,cond_true,cond_false,Bool.not_true,Bool.not_false,av,au,ar]
     have hg:(s[n+1]?).getD 0=s[n+1]:=by rw[List.getElem?_eq_getElem h2];rfl
     have:=hfin (x:=ah s[n+1]) (a:=0) (b:=0) (c:=0) (d:=0) (t:=[]) (by rw[hdig,h1,hg];rfl)
     rw[hdig,h1]at this
     exact this
    ·have hg:ah ((s[n+1]?).getD 0)=false:=by rw[List.getElem?_eq_none (by omega)];rfl
     rw[c6 (by omega),cond_false]
     have:=hfin (x:=false) (a:=0) (b:=0) (c:=0) (d:=0) (t:=[]) (by rw[hdig,h1,hg];rfl)
     rw[hdig,h1]at this
     exact this
   ·have h1:decide (s[n]=46)=false:=by simp[h46]
    rw[h1,cond_false]
    have:=hfin (x:=false) (a:=0) (b:=0) (c:=0) (d:=0) (t:=[]) (by rw[hdig,h1];rfl)
    rw[hdig,h1]at this
    exact this
end
end Go.Abs
